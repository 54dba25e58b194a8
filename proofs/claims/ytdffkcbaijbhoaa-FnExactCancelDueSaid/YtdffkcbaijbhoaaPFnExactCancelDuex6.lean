/- Contracts of functions of the given program: what each call answers. Written by a program of this session, out of the text of the functions. -/
import Derived.Test.YtdffkcbaijbhoaaPFnExactCancelDuex0
import Derived.Test.YtdffkcbaijbhoaaPFnExactCancelDuex2
import Derived.Test.YtdffkcbaijbhoaaPFnExactCancelDuex3
import Derived.Test.YtdffkcbaijbhoaaPFnExactCancelDuex4
import Derived.Test.YtdffkcbaijbhoaaPFnExactCancelDuex5
import Derived.Test.YtdffkcbaijbhoaaPrs
namespace Go.Proofs.Ytdffkcbaijbhoaa.PFnExactCancelDue
open Go.RowKit Go.Proofs.YtdffkcbaijbhoaaW.PrintWords Go.Proofs.YtdffkcbaijbhoaaW.PrintLast Go.Proofs.YtdffkcbaijbhoaaW.PrintMore Go.Proofs.Ytdffkcbaijbhoaa.Giv Go.Proofs.Ytdffkcbaijbhoaa.Prs
attribute [local go_sem] max2_int min2_int max_two min_two max_three min_three max_four min_four   -- for this text's walks alone
set_option linter.unusedVariables false
set_option linter.unusedSimpArgs false

/-! ### spec_CancelDue: function 10 -/
def spec_CancelDue.f (k:Nat) (l0_0:List (S56)) (a0_1:Int) (a1:Int):Option ((List (S56)) × Int × Bool):=(spec_l03Copy.f k l0_0 a0_1).bind fun bt155=>((spec_HeapOk.f k l0_0 a0_1).bind fun t160=>(if t160=true then ((spec_l03Find.f k l0_0 a0_1 a1).bind fun t161=>(if t161 < 0 then (some (bt155.1,bt155.2,false)) else (if 0≤(wrap64 ((bt155.1.length:Int) - 1)) then (if (wrap64 ((bt155.1.length:Int) - 1)) < (bt155.1.length:Int) then (if 0≤t161 then (if t161 < (bt155.1.length:Int) then (if (wrap64 ((bt155.1.length:Int) - 1))≤(bt155.1.length:Int) then ((some ((bt155.1.set (t161:Int).toNat (⟨(rd_T56 bt155.1 (wrap64 ((bt155.1.length:Int) - 1))).f0,(rd_T56 bt155.1 (wrap64 ((bt155.1.length:Int) - 1))).f1,(rd_T56 bt155.1 (wrap64 ((bt155.1.length:Int) - 1))).f2⟩:S56)).take ((wrap64 ((bt155.1.length:Int) - 1)):Int).toNat:List (S56))).bind fun y164=>(if t161 < (wrap64 ((bt155.1.length:Int) - 1)) then ((spec_l03Up.f k y164 t161).bind fun t167=>((spec_l03Down.f k t167 t161).bind fun t168=>(some (t168,bt155.2,true)))) else (some (y164,bt155.2,true)))) else (none)) else (none)) else (none)) else (none)) else (none)))) else (some (bt155.1,bt155.2,false))))
theorem spec_CancelDue.mono:∀ a0 a1 a2 k,LeO (spec_CancelDue.f k a0 a1 a2) (spec_CancelDue.f (k + 1) a0 a1 a2):=by
 intro a0 a1 a2 k
 unfold spec_CancelDue.f
 repeat' first
   | (with_reducible exact spec_HeapOk.mono _ _ _)
   | (with_reducible exact spec_l03Copy.mono _ _ _)
   | (with_reducible exact spec_l03Down.mono _ _ _)
   | (with_reducible exact spec_l03Find.mono _ _ _ _)
   | (with_reducible exact spec_l03Up.mono _ _ _)
   | (with_reducible exact LeO.refl _)
   | (with_reducible exact LeO.none _)
   | (with_reducible refine LeO.ite ?_ ?_)
   | (with_reducible refine LeO.bind ?_ (fun _=>?_))
   | exact spec_HeapOk.mono _ _ _
   | exact spec_l03Copy.mono _ _ _
   | exact spec_l03Down.mono _ _ _
   | exact spec_l03Find.mono _ _ _ _
   | exact spec_l03Up.mono _ _ _
   | exact LeO.none _
   | refine LeO.ite ?_ ?_
   | refine LeO.bind ?_ (fun _=>?_)
def spec_CancelDue.T8:Bool × List (List Nat × List Nat):=(true,[([],[]),([0],[0]),([],[]),([],[]),([3],[3]),([],[]),([4,5],[4,5]),([6],[6]),([1,2,0,1,2,3,4,5,6,7],[1,2]),([8,7,0,1,2,3,4,5,6,7],[7,8])])
def spec_CancelDue.B8:List Nat:=[0,1,0,0,8,0,56,120,255,511]
theorem spec_CancelDue.tab8:rtab .any (opsOf Try.f10 8)=spec_CancelDue.T8:=by kernel_rfl
theorem spec_CancelDue.bits8:waitsOk spec_CancelDue.T8.2 spec_CancelDue.B8=true:=by kernel_rfl
set_option maxHeartbeats 8000000 in
set_option maxRecDepth 100000 in
theorem spec_CancelDue.calls (k:Nat) (A0_0:Option Addr) (c0_0:Nat) (l0_0:List (S56)) (a0_1:Int) (a1:Int) (r1:List (S56)) (r2:Int) (r3:Bool) (w:World) (hr0_0:Kd.C k56 w A0_0 l0_0.length l0_0) (hc0_0:l0_0.length≤c0_0) (h:spec_CancelDue.f k l0_0 a0_1 a1=some (r1,r2,r3)) :
  Calls Try.prog 10 #[.agg #[.slice A0_0 l0_0.length c0_0,.int .i64 a0_1],.int .i64 a1] w fun e w'=>∃ v0_:Value,e = .returned (.tuple #[.agg #[v0_,.int .i64 r2],.bool r3])∧Kd.R k56 56 w' w.heap.size (fun _=>True) v0_ r1∧Below w.heap.size w w':=by
 have hu28:=Try.underlying28
 have hu56:=Try.underlying56
 have HR0_0:=Aside0.mk hr0_0
 have HC0_0:=Aside0.mk hc0_0
 clear hr0_0 hc0_0
 have HB:=Aside0.mk (Below.refl w.heap.size w)
 have H:((spec_l03Copy.f k l0_0 a0_1).bind fun bt155=>((spec_HeapOk.f k l0_0 a0_1).bind fun t160=>(if t160=true then ((spec_l03Find.f k l0_0 a0_1 a1).bind fun t161=>(if t161 < 0 then (some (bt155.1,bt155.2,false)) else (if 0≤(wrap64 ((bt155.1.length:Int) - 1)) then (if (wrap64 ((bt155.1.length:Int) - 1)) < (bt155.1.length:Int) then (if 0≤t161 then (if t161 < (bt155.1.length:Int) then (if (wrap64 ((bt155.1.length:Int) - 1))≤(bt155.1.length:Int) then ((some ((bt155.1.set (t161:Int).toNat (⟨(rd_T56 bt155.1 (wrap64 ((bt155.1.length:Int) - 1))).f0,(rd_T56 bt155.1 (wrap64 ((bt155.1.length:Int) - 1))).f1,(rd_T56 bt155.1 (wrap64 ((bt155.1.length:Int) - 1))).f2⟩:S56)).take ((wrap64 ((bt155.1.length:Int) - 1)):Int).toNat:List (S56))).bind fun y164=>(if t161 < (wrap64 ((bt155.1.length:Int) - 1)) then ((spec_l03Up.f k y164 t161).bind fun t167=>((spec_l03Down.f k t167 t161).bind fun t168=>(some (t168,bt155.2,true)))) else (some (y164,bt155.2,true)))) else (none)) else (none)) else (none)) else (none)) else (none)))) else (some (bt155.1,bt155.2,false)))))=some (r1,r2,r3):=h
 clear h
 replace H:=Option.bind_eq_some_iff.mp H
 obtain ⟨⟨t155,t158⟩,A30,H⟩:=H
 replace H:((spec_HeapOk.f k l0_0 a0_1).bind fun t160=>(if t160=true then ((spec_l03Find.f k l0_0 a0_1 a1).bind fun t161=>(if t161 < 0 then (some (t155,t158,false)) else (if 0≤(wrap64 ((t155.length:Int) - 1)) then (if (wrap64 ((t155.length:Int) - 1)) < (t155.length:Int) then (if 0≤t161 then (if t161 < (t155.length:Int) then (if (wrap64 ((t155.length:Int) - 1))≤(t155.length:Int) then ((some ((t155.set (t161:Int).toNat (⟨(rd_T56 t155 (wrap64 ((t155.length:Int) - 1))).f0,(rd_T56 t155 (wrap64 ((t155.length:Int) - 1))).f1,(rd_T56 t155 (wrap64 ((t155.length:Int) - 1))).f2⟩:S56)).take ((wrap64 ((t155.length:Int) - 1)):Int).toNat:List (S56))).bind fun y164=>(if t161 < (wrap64 ((t155.length:Int) - 1)) then ((spec_l03Up.f k y164 t161).bind fun t167=>((spec_l03Down.f k t167 t161).bind fun t168=>(some (t168,t158,true)))) else (some (y164,t158,true)))) else (none)) else (none)) else (none)) else (none)) else (none)))) else (some (t155,t158,false))))=some (r1,r2,r3):=H
 have A3:=Aside0.mk A30
 clear A30
 replace H:=Option.bind_eq_some_iff.mp H
 obtain ⟨t160,A40,H⟩:=H
 have A4:=Aside0.mk A40
 clear A40
 by_cases c5:t160=true
 ·subst c5
  rw [if_pos rfl] at H
  replace H:=Option.bind_eq_some_iff.mp H
  obtain ⟨t161,A60,H⟩:=H
  have A6:=Aside0.mk A60
  clear A60
  by_cases c7:t161 < 0
  ·rw [if_pos c7] at H
   have c7b0:decide (t161 < 0)=true:=decide_eq_true c7
   clear c7
   simp only [Option.some.injEq,Prod.mk.injEq] at H
   obtain ⟨rfl,rfl,rfl⟩:=H
   go_enter Try.func10,Try.ntmps10
   go_wp2_with (first|((with_reducible refine gate_dst (N:=2) rfl ?_);refine bx 2 #[.slice A0_0 l0_0.length c0_0,.int .i64 a0_1] 28 ?_;intro gb153 hg w8 hbox hb;have BK153:=Aside0.mk (hbox);have GW153:=Aside0.mk (bz hg:w.heap.size≤gb153);have GE153:=GW153;replace HB:=Aside0.mk (below_step bl hb);clear hb hbox hg)|((with_reducible refine gate_dst (N:=4) rfl ?_);refine bx 4 #[.slice none 0 0,.int .i64 0] 28 ?_;intro gb154 hg w9 hbox hb;have BK154:=Aside0.mk (hbox);have GW154:=Aside0.mk (bz hg:w.heap.size≤gb154);have GE154:=GW154;replace HB:=Aside0.mk (below_step bl hb);have NB153_154:=Aside0.mk (nl hg BK153:gb153≠gb154);have NB154_153:=Aside0.mk (nr hg BK153:gb154≠gb153);replace BK153:=Aside0.mk (blk_below (bk BK153) hb);clear hb hbox hg;have hnb10:=NB153_154.out;have hnc10:=NB154_153.out;obtain ⟨hcz11_0,hcz11_1,hfz11_0,hfz11_1⟩:=ck2 BK153.out)|((with_reducible refine gate_callee (f:=39) rfl ?_);refine gl (some 10) Try.func39 #[.agg #[.slice A0_0 l0_0.length c0_0,.int .i64 a0_1]] ?_;(with_reducible refine (spec_l03Copy.calls k _ _ l0_0 a0_1 t155 t158 _ ?side1 ?side2 A3.out).mono ?_);(case side1=>exact kc HR0_0);(case side2=>exact HC0_0.out);rintro e w12 ⟨v156,rfl,ho0,hb⟩;refine ⟨_,rfl,?_⟩;have HO157:=Aside0.mk (Kd.R_lower ho0 (below_size bl));replace BK153:=Aside0.mk (blk_below (bk BK153) hb);replace BK154:=Aside0.mk (blk_below (bk BK154) hb);replace HB:=Aside0.mk (below_step bl hb);(try clear hb);(try clear hb2);(try clear hk);(try clear hi);(try clear ho0))|((with_reducible refine gate_dst (N:=6) rfl ?_);refine bx 6 #[.slice none 0 0,.int .i64 0] 28 ?_;intro gb159 hg w13 hbox hb;replace HO157:=Aside0.mk (Kd.R_below (kr HO157) hb);have BK159:=Aside0.mk (hbox);have GW159:=Aside0.mk (bz hg:w.heap.size≤gb159);have GE159:=GW159;replace HB:=Aside0.mk (below_step bl hb);have NB153_159:=Aside0.mk (nl hg BK153:gb153≠gb159);have NB159_153:=Aside0.mk (nr hg BK153:gb159≠gb153);replace BK153:=Aside0.mk (blk_below (bk BK153) hb);have NB154_159:=Aside0.mk (nl hg BK154:gb154≠gb159);have NB159_154:=Aside0.mk (nr hg BK154:gb159≠gb154);replace BK154:=Aside0.mk (blk_below (bk BK154) hb);clear hb hbox hg;obtain ⟨Ao14,co14,eo14⟩:=Kd.R_slice HO157.out;subst eo14;have hnb15:=NB159_153.out;have hnc15:=NB153_159.out;have hnb16:=NB159_154.out;have hnc16:=NB154_159.out;obtain ⟨hcz17_0,hcz17_1,hfz17_0,hfz17_1⟩:=ck2 BK159.out;obtain ⟨hcz18_0,hcz18_1,hfz18_0,hfz18_1⟩:=ck2 BK153.out)|((with_reducible refine gate_callee (f:=34) rfl ?_);refine gl (some 12) Try.func34 #[.agg #[.slice A0_0 l0_0.length c0_0,.int .i64 a0_1]] ?_;(with_reducible refine (spec_HeapOk.calls k _ _ l0_0 a0_1 true _ ?side1 ?side2 A4.out).mono ?_);(case side1=>exact Kd.C_below HR0_0.out bl);(case side2=>exact HC0_0.out);rintro e w19 ⟨rfl,hb⟩;refine ⟨_,rfl,?_⟩;replace HO157:=Aside0.mk (Kd.R_below (by (with_reducible repeat (first|apply Kd.R_alloc|apply Kd.R_drewN|apply Kd.R_drew));exact (Kd.R_mono (Kd.R_far (p:=⟨gb159,1,none⟩) (Kd.R_far (p:=⟨gb159,0,none⟩) (Kd.R_types HO157.out BK159.out (by decide)) (fun _ hk=>hk.2) (.slice Ao14 t155.length co14)) (fun _ hk=>hk.2) (.int .i64 t158)) (fun _ h_=>h_.1))) hb);replace BK153:=Aside0.mk (blk_below (g:=gb153) (o:=.cells #[.slice A0_0 l0_0.length c0_0,.int .i64 a0_1] 28 (0,0)) (bf BK153) hb);replace BK154:=Aside0.mk (blk_below (g:=gb154) (o:=.cells #[.slice none 0 0,.int .i64 0] 28 (0,0)) (bf BK154) hb);replace BK159:=Aside0.mk (blk_below (g:=gb159) (o:=.cells #[.slice Ao14 t155.length co14,.int .i64 t158] 28 (0,0)) (by (with_reducible repeat (first|refine blk_drewN ?_ _|refine blk_drew ?_|refine blk_alloc ?_ _));refine blk_put (cs:=#[.slice Ao14 t155.length co14,.int .i64 0]) ?_ 1 _ rfl;(with_reducible repeat (first|refine blk_drewN ?_ _|refine blk_drew ?_|refine blk_alloc ?_ _));refine blk_put (cs:=#[.slice none 0 0,.int .i64 0]) ?_ 0 _ rfl;(with_reducible repeat (first|refine blk_drewN ?_ _|refine blk_drew ?_|refine blk_alloc ?_ _));exact BK159.out) hb);replace HB:=Aside0.mk (below_step bl hb);(try clear hb);(try clear hb2);(try clear hk);(try clear hi);obtain ⟨hcz20_0,hcz20_1,hfz20_0,hfz20_1⟩:=ck2 BK153.out)|((with_reducible refine gate_callee (f:=40) rfl ?_);refine gl (some 17) Try.func40 #[.agg #[.slice A0_0 l0_0.length c0_0,.int .i64 a0_1],.int .i64 a1] ?_;(with_reducible refine (spec_l03Find.calls k _ _ l0_0 a0_1 a1 t161 _ ?side1 ?side2 A6.out).mono ?_);(case side1=>exact kc HR0_0);(case side2=>exact HC0_0.out);rintro e w21 ⟨rfl,hb⟩;refine ⟨_,rfl,?_⟩;replace HO157:=Aside0.mk (Kd.R_below (kr HO157) hb);replace BK153:=Aside0.mk (blk_below (bk BK153) hb);replace BK154:=Aside0.mk (blk_below (bk BK154) hb);replace BK159:=Aside0.mk (blk_below (bk BK159) hb);replace HB:=Aside0.mk (below_step bl hb);(try clear hb);(try clear hb2);(try clear hk);(try clear hi);obtain ⟨hcz22_0,hcz22_1,hfz22_0,hfz22_1⟩:=ck2 BK159.out;obtain ⟨hcz23_0,hcz23_1,hfz23_0,hfz23_1⟩:=ck2 BK154.out))
   refine bodyPost_ret (results_ct rfl _ _ gb154 28 #[.slice Ao14 t155.length co14,.int .i64 t158] (0,0) _ rfl (by (with_reducible repeat (first|refine blk_drewN ?_ _|refine blk_drew ?_|refine blk_alloc ?_ _));refine blk_put (cs:=#[.slice Ao14 t155.length co14,.int .i64 0]) ?_ 1 _ rfl;(with_reducible repeat (first|refine blk_drewN ?_ _|refine blk_drew ?_|refine blk_alloc ?_ _));refine blk_put (cs:=#[.slice none 0 0,.int .i64 0]) ?_ 0 _ rfl;(with_reducible repeat (first|refine blk_drewN ?_ _|refine blk_drew ?_|refine blk_alloc ?_ _));exact BK154.out) Try.underlying28 rfl (by kernel_rfl)) rfl ?_
   exact ⟨_,er,by (with_reducible repeat (first|apply Kd.R_alloc|apply Kd.R_drewN|apply Kd.R_drew));exact Kd.R_mono (Kd.R_far (p:=⟨gb154,1,none⟩) (Kd.R_far (p:=⟨gb154,0,none⟩) (Kd.R_types HO157.out BK154.out (by decide)) (fun _ hk=>hk.2) (.slice Ao14 t155.length co14)) (fun _ hk=>hk.2) (.int .i64 t158)) (fun _ hk=>trivial),bl⟩
  ·rw [if_neg c7] at H
   have c7b0:decide (t161 < 0)=false:=decide_eq_false c7
   clear c7
   obtain ⟨ji24,hji24⟩:∃ j_:Int,(wrap64 ((t155.length:Int) - 1))=j_:=⟨_,rfl⟩
   first|rw [hji24] at H|simp only [hji24] at H
   (try rw [hji24] at A3)
   (try rw [hji24] at A4)
   (try rw [hji24] at A6)
   have hji24w:(IntKind.i64.wrap ((t155.length:Int) - 1))=ji24:=(i64_w _).trans hji24
   by_cases c25:0≤(ji24)
   case neg =>
    rw [if_neg c25] at H
    exact absurd H (by simp)
   rw [if_pos c25] at H
   have c25b0:decide (0≤(ji24))=true:=decide_eq_true c25
   clear c25
   by_cases c26:(ji24) < (t155.length:Int)
   case neg =>
    rw [if_neg c26] at H
    exact absurd H (by simp)
   rw [if_pos c26] at H
   have c26b0:decide ((ji24) < (t155.length:Int))=true:=decide_eq_true c26
   clear c26
   by_cases c27:0≤t161
   case neg =>
    rw [if_neg c27] at H
    exact absurd H (by simp)
   rw [if_pos c27] at H
   have c27b0:decide (0≤t161)=true:=decide_eq_true c27
   clear c27
   by_cases c28:t161 < (t155.length:Int)
   case neg =>
    rw [if_neg c28] at H
    exact absurd H (by simp)
   rw [if_pos c28] at H
   have c28b0:decide (t161 < (t155.length:Int))=true:=decide_eq_true c28
   clear c28
   obtain ⟨y163,hy163⟩:∃ y_:List (S56),y_=(t155.set (t161:Int).toNat (⟨(rd_T56 t155 (ji24)).f0,(rd_T56 t155 (ji24)).f1,(rd_T56 t155 (ji24)).f2⟩:S56)):=⟨_,rfl⟩
   replace H:(if (ji24)≤(t155.length:Int) then ((some (y163.take ((ji24):Int).toNat:List (S56))).bind fun y164=>(if t161 < (ji24) then ((spec_l03Up.f k y164 t161).bind fun t167=>((spec_l03Down.f k t167 t161).bind fun t168=>(some (t168,t158,true)))) else (some (y164,t158,true)))) else (none))=some (r1,r2,r3):=by first|(rw [hy163];with_reducible exact H)|(have H2_:=(Option.bind_some _ _).symm.trans H;rw [hy163];with_reducible exact H2_)|(have H2_:=(Option.bind_some _ _).symm.trans H;with_reducible exact H2_)|with_reducible exact H|(rw [hy163];exact H)|exact H
   have Ny163:=Aside0.mk hy163
   clear hy163
   by_cases c30:(ji24)≤(t155.length:Int)
   case neg =>
    rw [if_neg c30] at H
    exact absurd H (by simp)
   rw [if_pos c30] at H
   have c30b0:=eq_true c30
   have c30b1:decide ((ji24)≤(t155.length:Int))=true:=decide_eq_true c30
   clear c30
   obtain ⟨y164,hy164⟩:∃ y_:List (S56),y_=(y163.take ((ji24):Int).toNat):=⟨_,rfl⟩
   replace H:(if t161 < (ji24) then ((spec_l03Up.f k y164 t161).bind fun t167=>((spec_l03Down.f k t167 t161).bind fun t168=>(some (t168,t158,true)))) else (some (y164,t158,true)))=some (r1,r2,r3):=by first|(rw [hy164];with_reducible exact H)|(have H2_:=(Option.bind_some _ _).symm.trans H;rw [hy164];with_reducible exact H2_)|(have H2_:=(Option.bind_some _ _).symm.trans H;with_reducible exact H2_)|with_reducible exact H|(rw [hy164];exact H)|exact H
   have Ny164:=Aside0.mk hy164
   clear hy164
   by_cases c31:t161 < (ji24)
   ·rw [if_pos c31] at H
    have c31b0:decide (t161 < (ji24))=true:=decide_eq_true c31
    clear c31
    replace H:=Option.bind_eq_some_iff.mp H
    obtain ⟨t167,A320,H⟩:=H
    have A32:=Aside0.mk A320
    clear A320
    replace H:=Option.bind_eq_some_iff.mp H
    obtain ⟨t168,A330,H⟩:=H
    have A33:=Aside0.mk A330
    clear A330
    simp only [Option.some.injEq,Prod.mk.injEq] at H
    obtain ⟨rfl,rfl,rfl⟩:=H
    go_enter Try.func10,Try.ntmps10
    try go_wp2_with (first|((with_reducible refine gate_dst (N:=2) rfl ?_);refine bx 2 #[.slice A0_0 l0_0.length c0_0,.int .i64 a0_1] 28 ?_;intro gb153 hg w34 hbox hb;have BK153:=Aside0.mk (hbox);have GW153:=Aside0.mk (bz hg:w.heap.size≤gb153);have GE153:=GW153;replace HB:=Aside0.mk (below_step bl hb);clear hb hbox hg)|((with_reducible refine gate_dst (N:=4) rfl ?_);refine bx 4 #[.slice none 0 0,.int .i64 0] 28 ?_;intro gb154 hg w35 hbox hb;have BK154:=Aside0.mk (hbox);have GW154:=Aside0.mk (bz hg:w.heap.size≤gb154);have GE154:=GW154;replace HB:=Aside0.mk (below_step bl hb);have NB153_154:=Aside0.mk (nl hg BK153:gb153≠gb154);have NB154_153:=Aside0.mk (nr hg BK153:gb154≠gb153);replace BK153:=Aside0.mk (blk_below (bk BK153) hb);clear hb hbox hg;have hnb36:=NB153_154.out;have hnc36:=NB154_153.out;obtain ⟨hcz37_0,hcz37_1,hfz37_0,hfz37_1⟩:=ck2 BK153.out)|((with_reducible refine gate_callee (f:=39) rfl ?_);refine gl (some 10) Try.func39 #[.agg #[.slice A0_0 l0_0.length c0_0,.int .i64 a0_1]] ?_;(with_reducible refine (spec_l03Copy.calls k _ _ l0_0 a0_1 t155 t158 _ ?side1 ?side2 A3.out).mono ?_);(case side1=>exact kc HR0_0);(case side2=>exact HC0_0.out);rintro e w38 ⟨v156,rfl,ho0,hb⟩;refine ⟨_,rfl,?_⟩;have HO157:=Aside0.mk (Kd.R_lower ho0 (below_size bl));replace BK153:=Aside0.mk (blk_below (bk BK153) hb);replace BK154:=Aside0.mk (blk_below (bk BK154) hb);replace HB:=Aside0.mk (below_step bl hb);(try clear hb);(try clear hb2);(try clear hk);(try clear hi);(try clear ho0))|((with_reducible refine gate_dst (N:=6) rfl ?_);refine bx 6 #[.slice none 0 0,.int .i64 0] 28 ?_;intro gb159 hg w39 hbox hb;replace HO157:=Aside0.mk (Kd.R_below (kr HO157) hb);have BK159:=Aside0.mk (hbox);have GW159:=Aside0.mk (bz hg:w.heap.size≤gb159);have GE159:=GW159;replace HB:=Aside0.mk (below_step bl hb);have NB153_159:=Aside0.mk (nl hg BK153:gb153≠gb159);have NB159_153:=Aside0.mk (nr hg BK153:gb159≠gb153);replace BK153:=Aside0.mk (blk_below (bk BK153) hb);have NB154_159:=Aside0.mk (nl hg BK154:gb154≠gb159);have NB159_154:=Aside0.mk (nr hg BK154:gb159≠gb154);replace BK154:=Aside0.mk (blk_below (bk BK154) hb);clear hb hbox hg;obtain ⟨Ao40,co40,eo40⟩:=Kd.R_slice HO157.out;subst eo40;have hnb41:=NB159_153.out;have hnc41:=NB153_159.out;have hnb42:=NB159_154.out;have hnc42:=NB154_159.out;obtain ⟨hcz43_0,hcz43_1,hfz43_0,hfz43_1⟩:=ck2 BK159.out;obtain ⟨hcz44_0,hcz44_1,hfz44_0,hfz44_1⟩:=ck2 BK153.out)|((with_reducible refine gate_callee (f:=34) rfl ?_);refine gl (some 12) Try.func34 #[.agg #[.slice A0_0 l0_0.length c0_0,.int .i64 a0_1]] ?_;(with_reducible refine (spec_HeapOk.calls k _ _ l0_0 a0_1 true _ ?side1 ?side2 A4.out).mono ?_);(case side1=>exact Kd.C_below HR0_0.out bl);(case side2=>exact HC0_0.out);rintro e w45 ⟨rfl,hb⟩;refine ⟨_,rfl,?_⟩;replace HO157:=Aside0.mk (Kd.R_below (by (with_reducible repeat (first|apply Kd.R_alloc|apply Kd.R_drewN|apply Kd.R_drew));exact (Kd.R_mono (Kd.R_far (p:=⟨gb159,1,none⟩) (Kd.R_far (p:=⟨gb159,0,none⟩) (Kd.R_types HO157.out BK159.out (by decide)) (fun _ hk=>hk.2) (.slice Ao40 t155.length co40)) (fun _ hk=>hk.2) (.int .i64 t158)) (fun _ h_=>h_.1))) hb);replace BK153:=Aside0.mk (blk_below (g:=gb153) (o:=.cells #[.slice A0_0 l0_0.length c0_0,.int .i64 a0_1] 28 (0,0)) (bf BK153) hb);replace BK154:=Aside0.mk (blk_below (g:=gb154) (o:=.cells #[.slice none 0 0,.int .i64 0] 28 (0,0)) (bf BK154) hb);replace BK159:=Aside0.mk (blk_below (g:=gb159) (o:=.cells #[.slice Ao40 t155.length co40,.int .i64 t158] 28 (0,0)) (by (with_reducible repeat (first|refine blk_drewN ?_ _|refine blk_drew ?_|refine blk_alloc ?_ _));refine blk_put (cs:=#[.slice Ao40 t155.length co40,.int .i64 0]) ?_ 1 _ rfl;(with_reducible repeat (first|refine blk_drewN ?_ _|refine blk_drew ?_|refine blk_alloc ?_ _));refine blk_put (cs:=#[.slice none 0 0,.int .i64 0]) ?_ 0 _ rfl;(with_reducible repeat (first|refine blk_drewN ?_ _|refine blk_drew ?_|refine blk_alloc ?_ _));exact BK159.out) hb);replace HB:=Aside0.mk (below_step bl hb);(try clear hb);(try clear hb2);(try clear hk);(try clear hi);obtain ⟨hcz46_0,hcz46_1,hfz46_0,hfz46_1⟩:=ck2 BK153.out)|((with_reducible refine gate_callee (f:=40) rfl ?_);refine gl (some 17) Try.func40 #[.agg #[.slice A0_0 l0_0.length c0_0,.int .i64 a0_1],.int .i64 a1] ?_;(with_reducible refine (spec_l03Find.calls k _ _ l0_0 a0_1 a1 t161 _ ?side1 ?side2 A6.out).mono ?_);(case side1=>exact kc HR0_0);(case side2=>exact HC0_0.out);rintro e w47 ⟨rfl,hb⟩;refine ⟨_,rfl,?_⟩;replace HO157:=Aside0.mk (Kd.R_below (kr HO157) hb);replace BK153:=Aside0.mk (blk_below (bk BK153) hb);replace BK154:=Aside0.mk (blk_below (bk BK154) hb);replace BK159:=Aside0.mk (blk_below (bk BK159) hb);replace HB:=Aside0.mk (below_step bl hb);(try clear hb);(try clear hb2);(try clear hk);(try clear hi);obtain ⟨hcz48_0,hcz48_1,hfz48_0,hfz48_1⟩:=ck2 BK159.out))
    replace HO157:=Aside0.mk (Kd.R_drew HO157.out)
    replace BK153:=Aside0.mk (blk_drew BK153.out)
    replace BK154:=Aside0.mk (blk_drew BK154.out)
    replace BK159:=Aside0.mk (blk_drew BK159.out)
    replace HB:=Aside0.mk (below_drew1 HB.out)
    have p162:0≤((ji24):Int):=od
    have q162:(ji24) < (t155.length:Int):=od
    obtain ⟨ad162,e162,hx162_0,hx162_1,hx162_2⟩:=at_T56 (Kd.R_reads' HO157.out).2.2 (ji24) p162 q162
    cases e162
    replace p162:=eq_true p162
    replace q162:=eq_true q162
    have p29:0≤(t161:Int):=od
    have q29:(t161:Int) < ((t155.length:Int):Int):=od
    obtain ⟨go29,co29,eo29,gb29,gl29,cl29,HG29⟩:=Kd.R_form HO157.out (by omega)
    (first|cases eo29|(injection eo29 with ea_ en_ ec_;(first|subst ea_|(injection ea_ with ea_;subst ea_));subst ec_;clear en_))
    have GB29:=Aside0.mk gb29
    have GG29:=Aside0.mk HG29
    clear gb29 gl29 HG29
    (first|simp only [add_plain] at hx162_0|skip)
    (first|simp only [add_plain] at hx162_1|skip)
    (first|simp only [add_plain] at hx162_2|skip)
    obtain ⟨ce29,hcl29,hM29,hcc29,hfr29⟩:=Kd.R_elem HO157.out z56 (t161:Int) p29 q29
    obtain rfl:=k56_openM hM29
    have hx29_0:World.cell? _ ⟨go29,(t161:Int).toNat * 3,none⟩=some (.int .i64 ((rd_T56 t155 t161).f0)):=hcc29 0 _ rfl
    have hx29_1:World.cell? _ ⟨go29,(t161:Int).toNat * 3 + 1,none⟩=some (.int .i64 ((rd_T56 t155 t161).f1)):=hcc29 1 _ rfl
    have hx29_2:World.cell? _ ⟨go29,(t161:Int).toNat * 3 + 2,none⟩=some (.int .i64 ((rd_T56 t155 t161).f2)):=hcc29 2 _ rfl
    have hf29_0:World.frozen? _ ⟨go29,(t161:Int).toNat * 3,none⟩=false:=hfr29 0
    have hf29_1:World.frozen? _ ⟨go29,(t161:Int).toNat * 3 + 1,none⟩=false:=hfr29 1
    have hf29_2:World.frozen? _ ⟨go29,(t161:Int).toNat * 3 + 2,none⟩=false:=hfr29 2
    clear hcl29 hcc29 hfr29 hM29
    replace p29:=eq_true p29
    replace q29:=eq_true q29
    obtain ⟨ce50,hcl50,hM50,hcc50,hfr50⟩:=Kd.R_elem HO157.out z56 (t161:Int) od (by have h_:(t161:Int) < ((t155.length:Int):Int):=od;first|exact h_|(have e_:=(Kd.R_reads' HO157.out).1;omega)|simpa using h_)
    obtain rfl:=k56_openM hM50
    have HP50:=(Kd.R_seg HO157.out (t161:Int) od (by have h_:(t161:Int) < ((t155.length:Int):Int):=od;first|exact h_|(have e_:=(Kd.R_reads' HO157.out).1;omega)|simpa using h_) (seg:=[.int .i64 ((rd_T56 t155 (ji24)).f0),.int .i64 ((rd_T56 t155 (ji24)).f1),.int .i64 ((rd_T56 t155 (ji24)).f2)]) (j:=0) hcl50 hcc50 (show 3≤3 from by decide) (x':=(⟨(rd_T56 t155 (ji24)).f0,(rd_T56 t155 (ji24)).f1,(rd_T56 t155 (ji24)).f2⟩:S56)) (k56_mkM _ _ _ (⟨(rd_T56 t155 (ji24)).f0,(rd_T56 t155 (ji24)).f1,(rd_T56 t155 (ji24)).f2⟩:S56) ) (fun _ hk=>hk)).1
    rw [← Ny163.out] at HP50
    have HQ50:=Aside0.mk HP50
    clear hcl50 hcc50 hfr50 hM50 HP50
    refine start_ (n:=10) (S:=fun w'=>w'.cell? ⟨gb159,0,none⟩=some (.slice (some ⟨go29,0,none⟩) t155.length co40)∧w'.cell? ⟨gb159,1,none⟩=some (.int .i64 t158)∧w'.cell? ⟨go29,(((ji24)).toNat * 3),none⟩=some (.int .i64 ((rd_T56 t155 (ji24)).f0))∧w'.cell? ⟨go29,(((ji24)).toNat * 3) + 1,none⟩=some (.int .i64 ((rd_T56 t155 (ji24)).f1))∧w'.cell? ⟨go29,(((ji24)).toNat * 3) + 2,none⟩=some (.int .i64 ((rd_T56 t155 (ji24)).f2))) (ds:=[9]) (bs 10 0) (by kernel_rfl) rfl rfl ⟨bc BK159 0,bc BK159 1,hx162_0,hx162_1,hx162_2⟩ (fun hHeld=>?_);refine with_tabW spec_CancelDue.tab8 spec_CancelDue.bits8 (fun HT_ HW_=>?_)
    generalize w47.drew=w49 at HO157 BK153 BK154 BK159 HB GG29 HQ50 hf29_0 hf29_1 hf29_2 hx162_0 hx162_1 hx162_2 hx29_0 hx29_1 hx29_2 hHeld ⊢
    refine pq 0 25 (bs 10 1) HT_ ?_
    refine pq 2 27 (bs 10 5) HT_ ?_
    refine pq 3 28 (bs 10 13) HT_ ?_
    refine pq 5 30 (bs 10 45) HT_ ?_
    refine tq 1 26 (bs 10 47) HT_ HW_ hHeld ?_
    refine tq 4 29 (bs 10 63) HT_ HW_ hHeld ?_
    refine pq 6 31 (bs 10 127) HT_ ?_
    refine tq 7 32 (bs 10 255) HT_ HW_ hHeld ?_
    refine pq 8 33 (bs 10 511) HT_ ?_
    refine last_ (i:=9) (N:=none) (bs 10 1023) rfl rfl (one_of HT_.out (by kernel_rfl)) (by decide) (fun K hK=>?_)
    refine skip_ (w1:=?_) (by rfl) rfl ?_ ?_
    rotate_left
    ·go_simp
     rfl
    refine hK.out _ _ ?_
    clear hK K
    refine done_ (done_of HT_.out (by kernel_rfl)) ?_
    have n0_:Aside0 (Kd.R k56 56 (((w49.setCell ⟨go29,(t161:Int).toNat * 3,none⟩ (.int .i64 ((rd_T56 t155 (ji24)).f0))).setCell ⟨go29,(t161:Int).toNat * 3 + 1,none⟩ (.int .i64 ((rd_T56 t155 (ji24)).f1))).setCell ⟨go29,(t161:Int).toNat * 3 + 2,none⟩ (.int .i64 ((rd_T56 t155 (ji24)).f2))) w.heap.size (fun _=>True) (.slice (some ⟨go29,0,none⟩) t155.length co40) y163):=⟨kr HQ50⟩
    have n1_:Aside0 ((((w49.setCell ⟨go29,(t161:Int).toNat * 3,none⟩ (.int .i64 ((rd_T56 t155 (ji24)).f0))).setCell ⟨go29,(t161:Int).toNat * 3 + 1,none⟩ (.int .i64 ((rd_T56 t155 (ji24)).f1))).setCell ⟨go29,(t161:Int).toNat * 3 + 2,none⟩ (.int .i64 ((rd_T56 t155 (ji24)).f2))).heap[gb153]? = some (.cells #[.slice A0_0 l0_0.length c0_0,.int .i64 a0_1] 28 (0,0))):=⟨by (with_reducible repeat (first|refine blk_drewN ?_ _|refine blk_drew ?_|refine blk_alloc ?_ _));refine blk_far ?_ (by have h_:=Kd.R_ne HO157.out BK153.out (by decide);intro e_;exact h_ (by rw [e_];rfl)) _;(with_reducible repeat (first|refine blk_drewN ?_ _|refine blk_drew ?_|refine blk_alloc ?_ _));refine blk_far ?_ (by have h_:=Kd.R_ne HO157.out BK153.out (by decide);intro e_;exact h_ (by rw [e_];rfl)) _;(with_reducible repeat (first|refine blk_drewN ?_ _|refine blk_drew ?_|refine blk_alloc ?_ _));refine blk_far ?_ (by have h_:=Kd.R_ne HO157.out BK153.out (by decide);intro e_;exact h_ (by rw [e_];rfl)) _;(with_reducible repeat (first|refine blk_drewN ?_ _|refine blk_drew ?_|refine blk_alloc ?_ _));exact BK153.out⟩
    have n2_:Aside0 ((((w49.setCell ⟨go29,(t161:Int).toNat * 3,none⟩ (.int .i64 ((rd_T56 t155 (ji24)).f0))).setCell ⟨go29,(t161:Int).toNat * 3 + 1,none⟩ (.int .i64 ((rd_T56 t155 (ji24)).f1))).setCell ⟨go29,(t161:Int).toNat * 3 + 2,none⟩ (.int .i64 ((rd_T56 t155 (ji24)).f2))).heap[gb154]? = some (.cells #[.slice none 0 0,.int .i64 0] 28 (0,0))):=⟨by (with_reducible repeat (first|refine blk_drewN ?_ _|refine blk_drew ?_|refine blk_alloc ?_ _));refine blk_far ?_ (by have h_:=Kd.R_ne HO157.out BK154.out (by decide);intro e_;exact h_ (by rw [e_];rfl)) _;(with_reducible repeat (first|refine blk_drewN ?_ _|refine blk_drew ?_|refine blk_alloc ?_ _));refine blk_far ?_ (by have h_:=Kd.R_ne HO157.out BK154.out (by decide);intro e_;exact h_ (by rw [e_];rfl)) _;(with_reducible repeat (first|refine blk_drewN ?_ _|refine blk_drew ?_|refine blk_alloc ?_ _));refine blk_far ?_ (by have h_:=Kd.R_ne HO157.out BK154.out (by decide);intro e_;exact h_ (by rw [e_];rfl)) _;(with_reducible repeat (first|refine blk_drewN ?_ _|refine blk_drew ?_|refine blk_alloc ?_ _));exact BK154.out⟩
    have n3_:Aside0 ((((w49.setCell ⟨go29,(t161:Int).toNat * 3,none⟩ (.int .i64 ((rd_T56 t155 (ji24)).f0))).setCell ⟨go29,(t161:Int).toNat * 3 + 1,none⟩ (.int .i64 ((rd_T56 t155 (ji24)).f1))).setCell ⟨go29,(t161:Int).toNat * 3 + 2,none⟩ (.int .i64 ((rd_T56 t155 (ji24)).f2))).heap[gb159]? = some (.cells #[.slice (some ⟨go29,0,none⟩) t155.length co40,.int .i64 t158] 28 (0,0))):=⟨by (with_reducible repeat (first|refine blk_drewN ?_ _|refine blk_drew ?_|refine blk_alloc ?_ _));refine blk_far ?_ (by have h_:=Kd.R_ne HO157.out BK159.out (by decide);intro e_;exact h_ (by rw [e_];rfl)) _;(with_reducible repeat (first|refine blk_drewN ?_ _|refine blk_drew ?_|refine blk_alloc ?_ _));refine blk_far ?_ (by have h_:=Kd.R_ne HO157.out BK159.out (by decide);intro e_;exact h_ (by rw [e_];rfl)) _;(with_reducible repeat (first|refine blk_drewN ?_ _|refine blk_drew ?_|refine blk_alloc ?_ _));refine blk_far ?_ (by have h_:=Kd.R_ne HO157.out BK159.out (by decide);intro e_;exact h_ (by rw [e_];rfl)) _;(with_reducible repeat (first|refine blk_drewN ?_ _|refine blk_drew ?_|refine blk_alloc ?_ _));exact BK159.out⟩
    have n4_:Aside0 (Below w.heap.size w (((w49.setCell ⟨go29,(t161:Int).toNat * 3,none⟩ (.int .i64 ((rd_T56 t155 (ji24)).f0))).setCell ⟨go29,(t161:Int).toNat * 3 + 1,none⟩ (.int .i64 ((rd_T56 t155 (ji24)).f1))).setCell ⟨go29,(t161:Int).toNat * 3 + 2,none⟩ (.int .i64 ((rd_T56 t155 (ji24)).f2)))):=⟨by repeat (first|(with_reducible first|exact HB.out|apply below_alloc|apply pw_below_drewN|apply below_drew1|refine below_set ?_ GB29.out|refine below_set ?_ GB29.out|refine below_set ?_ GB29.out|refine below_set ?_ GE153.out|refine below_set ?_ GE154.out|refine below_set ?_ GE159.out)|exact HB.out)⟩
    (try clear HO157)
    (try clear BK153)
    (try clear BK154)
    (try clear BK159)
    (try clear HB)
    generalize (((w49.setCell ⟨go29,(t161:Int).toNat * 3,none⟩ (.int .i64 ((rd_T56 t155 (ji24)).f0))).setCell ⟨go29,(t161:Int).toNat * 3 + 1,none⟩ (.int .i64 ((rd_T56 t155 (ji24)).f1))).setCell ⟨go29,(t161:Int).toNat * 3 + 2,none⟩ (.int .i64 ((rd_T56 t155 (ji24)).f2)))=w51 at n0_ n1_ n2_ n3_ n4_ ⊢
    have HO157:=n0_
    have BK153:=n1_
    have BK154:=n2_
    have BK159:=n3_
    have HB:=n4_
    clear n0_ n1_ n2_ n3_ n4_
    obtain ⟨hcz52_0,hcz52_1,hfz52_0,hfz52_1⟩:=ck2 BK159.out
    have q53:((ji24):Int)≤((t155.length:Int):Int):=od
    obtain ⟨i053,hi053,_,hsz53,_⟩:=info_parts info56
    have hcut53:=cut_to (P:=Try.prog) 26 56 .i64 Try.underlying26 hi053 (some ⟨go29,0,none⟩) t155.length co40 (ji24) od q53 (Kd.R_reads' HO157.out).2.1
    have hr53:=Kd.R_take (m:=((ji24):Int).toNat) HO157.out (by first|omega|(have e_:=(Kd.R_reads' HO157.out).1;omega))
    have hy53:y164.length=((ji24):Int).toNat:=(by rw [Ny164.out,List.length_take];first|omega|(have e_:=(Kd.R_reads' HO157.out).1;omega))
    rw [← Ny164.out] at hr53
    rw [← hy53] at hr53 hcut53
    clear hy53 hi053 hsz53 HO157
    have HO166:=Aside0.mk hr53
    clear hr53
    replace q53:=eq_true q53
    try go_wp2_with (first|((with_reducible refine gate_store (t:=26) (p:=38) rfl ?_);refine sx 26 38 (w51.setCell ⟨gb159,0,none⟩ (.slice (some ⟨go29,0,none⟩) y164.length co40)) ?_;intro w54 hw;have n0_:Aside0 (Kd.R k56 56 w54 w.heap.size (fun _=>True) (.slice (some ⟨go29,0,none⟩) y164.length co40) y164):=⟨(by rw [hw];exact (by (with_reducible repeat (first|apply Kd.R_alloc|apply Kd.R_drewN|apply Kd.R_drew));exact Kd.R_mono (Kd.R_far (p:=⟨gb159,0,none⟩) (Kd.R_types HO166.out BK159.out (by decide)) (fun _ hk=>hk.2) (.slice (some ⟨go29,0,none⟩) y164.length co40)) (fun _ hk=>trivial)))⟩;have n1_:Aside0 (w54.heap[gb153]? = some (.cells #[.slice A0_0 l0_0.length c0_0,.int .i64 a0_1] 28 (0,0))):=⟨(by rw [hw];exact (bf BK153))⟩;have n2_:Aside0 (w54.heap[gb154]? = some (.cells #[.slice none 0 0,.int .i64 0] 28 (0,0))):=⟨(by rw [hw];exact (bf BK154))⟩;have n3_:Aside0 (w54.heap[gb159]? = some (.cells #[.slice (some ⟨go29,0,none⟩) y164.length co40,.int .i64 t158] 28 (0,0))):=⟨(by rw [hw];exact (by (with_reducible repeat (first|refine blk_drewN ?_ _|refine blk_drew ?_|refine blk_alloc ?_ _));refine blk_put (cs:=#[.slice (some ⟨go29,0,none⟩) t155.length co40,.int .i64 t158]) ?_ 0 _ rfl;(with_reducible repeat (first|refine blk_drewN ?_ _|refine blk_drew ?_|refine blk_alloc ?_ _));exact BK159.out))⟩;have n4_:Aside0 (Below w.heap.size w w54):=⟨(by rw [hw];exact bl)⟩;clear hw;clear HO166;clear BK153;clear BK154;clear BK159;clear HB;have HO166:=n0_;have BK153:=n1_;have BK154:=n2_;have BK159:=n3_;have HB:=n4_;clear n0_ n1_ n2_ n3_ n4_;obtain ⟨hcz55_0,hcz55_1,hfz55_0,hfz55_1⟩:=ck2 BK159.out)|((with_reducible refine gate_callee (f:=41) rfl ?_);refine gl (some 45) Try.func41 #[.slice (some ⟨go29,0,none⟩) y164.length co40,.int .i64 t161] ?_;(with_reducible refine (spec_l03Up.calls k (fun k_=>some k_=(.slice (some ⟨go29,0,none⟩) y164.length co40:Value).ownBlock) (.slice (some ⟨go29,0,none⟩) y164.length co40) y164 t161 t167 w _ ?side1 ?side2 A32.out).mono ?_);(case side1=>repeat (first|(with_reducible first|exact HB.out|apply below_alloc|apply pw_below_drewN|apply below_drew1|refine below_set ?_ GE153.out|refine below_set ?_ GE154.out|refine below_set ?_ GE159.out)|exact HB.out));(case side2=>exact Kd.R_tight rfl HO166.out);rintro e w56 ⟨rfl,hy0,hb,hkp⟩;refine ⟨_,rfl,?_⟩;replace BK153:=Aside0.mk (blk_kept (bk BK153) hkp (fun hs_=>(fun e_=>(Kd.R_ne HO166.out BK153.out (by decide)) e_) hs_));replace BK154:=Aside0.mk (blk_kept (bk BK154) hkp (fun hs_=>(fun e_=>(Kd.R_ne HO166.out BK154.out (by decide)) e_) hs_));replace BK159:=Aside0.mk (blk_kept (bk BK159) hkp (fun hs_=>(fun e_=>(Kd.R_ne HO166.out BK159.out (by decide)) e_) hs_));replace HO166:=Aside0.mk (Kd.R_reok rfl hy0 (fun k_ e_=>HO166.out.1 k_ e_));replace HB:=Aside0.mk (hb);(try clear hb);(try clear hkp);(try clear hy0);obtain ⟨hcz57_0,hcz57_1,hfz57_0,hfz57_1⟩:=ck2 BK159.out)|((with_reducible refine gate_callee (f:=42) rfl ?_);refine gl (some 49) Try.func42 #[.slice (some ⟨go29,0,none⟩) y164.length co40,.int .i64 t161] ?_;(with_reducible refine (spec_l03Down.calls k (fun k_=>some k_=(.slice (some ⟨go29,0,none⟩) y164.length co40:Value).ownBlock) (.slice (some ⟨go29,0,none⟩) y164.length co40) t167 t161 t168 w _ ?side1 ?side2 A33.out).mono ?_);(case side1=>repeat (first|(with_reducible first|exact HB.out|apply below_alloc|apply pw_below_drewN|apply below_drew1|refine below_set ?_ GE153.out|refine below_set ?_ GE154.out|refine below_set ?_ GE159.out)|exact HB.out));(case side2=>exact Kd.R_tight rfl HO166.out);rintro e w58 ⟨rfl,hy0,hb,hkp⟩;refine ⟨_,rfl,?_⟩;replace BK153:=Aside0.mk (blk_kept (bk BK153) hkp (fun hs_=>(fun e_=>(Kd.R_ne HO166.out BK153.out (by decide)) e_) hs_));replace BK154:=Aside0.mk (blk_kept (bk BK154) hkp (fun hs_=>(fun e_=>(Kd.R_ne HO166.out BK154.out (by decide)) e_) hs_));replace BK159:=Aside0.mk (blk_kept (bk BK159) hkp (fun hs_=>(fun e_=>(Kd.R_ne HO166.out BK159.out (by decide)) e_) hs_));replace HO166:=Aside0.mk (Kd.R_reok rfl hy0 (fun k_ e_=>HO166.out.1 k_ e_));replace HB:=Aside0.mk (hb);(try clear hb);(try clear hkp);(try clear hy0);obtain ⟨hcz59_0,hcz59_1,hfz59_0,hfz59_1⟩:=ck2 BK159.out;obtain ⟨hcz60_0,hcz60_1,hfz60_0,hfz60_1⟩:=ck2 BK154.out))
    refine bodyPost_ret (results_ct rfl _ _ gb154 28 #[.slice (some ⟨go29,0,none⟩) y164.length co40,.int .i64 t158] (0,0) _ rfl (by (with_reducible repeat (first|refine blk_drewN ?_ _|refine blk_drew ?_|refine blk_alloc ?_ _));refine blk_put (cs:=#[.slice (some ⟨go29,0,none⟩) y164.length co40,.int .i64 0]) ?_ 1 _ rfl;(with_reducible repeat (first|refine blk_drewN ?_ _|refine blk_drew ?_|refine blk_alloc ?_ _));refine blk_put (cs:=#[.slice none 0 0,.int .i64 0]) ?_ 0 _ rfl;(with_reducible repeat (first|refine blk_drewN ?_ _|refine blk_drew ?_|refine blk_alloc ?_ _));exact BK154.out) Try.underlying28 rfl (by kernel_rfl)) rfl ?_
    exact ⟨_,by first|rfl|(simp [errW_none,errW_some] <;> rfl)|(simp only [← hji24];first|rfl|(simp [errW_none,errW_some] <;> rfl))|(simp [*,errW_none,errW_some] <;> rfl),by (with_reducible repeat (first|apply Kd.R_alloc|apply Kd.R_drewN|apply Kd.R_drew));exact Kd.R_mono (Kd.R_far (p:=⟨gb154,1,none⟩) (Kd.R_far (p:=⟨gb154,0,none⟩) (Kd.R_types HO166.out BK154.out (by decide)) (fun _ hk=>hk.2) (.slice (some ⟨go29,0,none⟩) y164.length co40)) (fun _ hk=>hk.2) (.int .i64 t158)) (fun _ hk=>trivial),bl⟩
   ·rw [if_neg c31] at H
    have c31b0:decide (t161 < (ji24))=false:=decide_eq_false c31
    clear c31
    simp only [Option.some.injEq,Prod.mk.injEq] at H
    obtain ⟨rfl,rfl,rfl⟩:=H
    go_enter Try.func10,Try.ntmps10
    try go_wp2_with (first|((with_reducible refine gate_dst (N:=2) rfl ?_);refine bx 2 #[.slice A0_0 l0_0.length c0_0,.int .i64 a0_1] 28 ?_;intro gb153 hg w61 hbox hb;have BK153:=Aside0.mk (hbox);have GW153:=Aside0.mk (bz hg:w.heap.size≤gb153);have GE153:=GW153;replace HB:=Aside0.mk (below_step bl hb);clear hb hbox hg)|((with_reducible refine gate_dst (N:=4) rfl ?_);refine bx 4 #[.slice none 0 0,.int .i64 0] 28 ?_;intro gb154 hg w62 hbox hb;have BK154:=Aside0.mk (hbox);have GW154:=Aside0.mk (bz hg:w.heap.size≤gb154);have GE154:=GW154;replace HB:=Aside0.mk (below_step bl hb);have NB153_154:=Aside0.mk (nl hg BK153:gb153≠gb154);have NB154_153:=Aside0.mk (nr hg BK153:gb154≠gb153);replace BK153:=Aside0.mk (blk_below (bk BK153) hb);clear hb hbox hg;have hnb63:=NB153_154.out;have hnc63:=NB154_153.out;obtain ⟨hcz64_0,hcz64_1,hfz64_0,hfz64_1⟩:=ck2 BK153.out)|((with_reducible refine gate_callee (f:=39) rfl ?_);refine gl (some 10) Try.func39 #[.agg #[.slice A0_0 l0_0.length c0_0,.int .i64 a0_1]] ?_;(with_reducible refine (spec_l03Copy.calls k _ _ l0_0 a0_1 t155 t158 _ ?side1 ?side2 A3.out).mono ?_);(case side1=>exact kc HR0_0);(case side2=>exact HC0_0.out);rintro e w65 ⟨v156,rfl,ho0,hb⟩;refine ⟨_,rfl,?_⟩;have HO157:=Aside0.mk (Kd.R_lower ho0 (below_size bl));replace BK153:=Aside0.mk (blk_below (bk BK153) hb);replace BK154:=Aside0.mk (blk_below (bk BK154) hb);replace HB:=Aside0.mk (below_step bl hb);(try clear hb);(try clear hb2);(try clear hk);(try clear hi);(try clear ho0))|((with_reducible refine gate_dst (N:=6) rfl ?_);refine bx 6 #[.slice none 0 0,.int .i64 0] 28 ?_;intro gb159 hg w66 hbox hb;replace HO157:=Aside0.mk (Kd.R_below (kr HO157) hb);have BK159:=Aside0.mk (hbox);have GW159:=Aside0.mk (bz hg:w.heap.size≤gb159);have GE159:=GW159;replace HB:=Aside0.mk (below_step bl hb);have NB153_159:=Aside0.mk (nl hg BK153:gb153≠gb159);have NB159_153:=Aside0.mk (nr hg BK153:gb159≠gb153);replace BK153:=Aside0.mk (blk_below (bk BK153) hb);have NB154_159:=Aside0.mk (nl hg BK154:gb154≠gb159);have NB159_154:=Aside0.mk (nr hg BK154:gb159≠gb154);replace BK154:=Aside0.mk (blk_below (bk BK154) hb);clear hb hbox hg;obtain ⟨Ao67,co67,eo67⟩:=Kd.R_slice HO157.out;subst eo67;have hnb68:=NB159_153.out;have hnc68:=NB153_159.out;have hnb69:=NB159_154.out;have hnc69:=NB154_159.out;obtain ⟨hcz70_0,hcz70_1,hfz70_0,hfz70_1⟩:=ck2 BK159.out;obtain ⟨hcz71_0,hcz71_1,hfz71_0,hfz71_1⟩:=ck2 BK153.out)|((with_reducible refine gate_callee (f:=34) rfl ?_);refine gl (some 12) Try.func34 #[.agg #[.slice A0_0 l0_0.length c0_0,.int .i64 a0_1]] ?_;(with_reducible refine (spec_HeapOk.calls k _ _ l0_0 a0_1 true _ ?side1 ?side2 A4.out).mono ?_);(case side1=>exact Kd.C_below HR0_0.out bl);(case side2=>exact HC0_0.out);rintro e w72 ⟨rfl,hb⟩;refine ⟨_,rfl,?_⟩;replace HO157:=Aside0.mk (Kd.R_below (by (with_reducible repeat (first|apply Kd.R_alloc|apply Kd.R_drewN|apply Kd.R_drew));exact (Kd.R_mono (Kd.R_far (p:=⟨gb159,1,none⟩) (Kd.R_far (p:=⟨gb159,0,none⟩) (Kd.R_types HO157.out BK159.out (by decide)) (fun _ hk=>hk.2) (.slice Ao67 t155.length co67)) (fun _ hk=>hk.2) (.int .i64 t158)) (fun _ h_=>h_.1))) hb);replace BK153:=Aside0.mk (blk_below (g:=gb153) (o:=.cells #[.slice A0_0 l0_0.length c0_0,.int .i64 a0_1] 28 (0,0)) (bf BK153) hb);replace BK154:=Aside0.mk (blk_below (g:=gb154) (o:=.cells #[.slice none 0 0,.int .i64 0] 28 (0,0)) (bf BK154) hb);replace BK159:=Aside0.mk (blk_below (g:=gb159) (o:=.cells #[.slice Ao67 t155.length co67,.int .i64 t158] 28 (0,0)) (by (with_reducible repeat (first|refine blk_drewN ?_ _|refine blk_drew ?_|refine blk_alloc ?_ _));refine blk_put (cs:=#[.slice Ao67 t155.length co67,.int .i64 0]) ?_ 1 _ rfl;(with_reducible repeat (first|refine blk_drewN ?_ _|refine blk_drew ?_|refine blk_alloc ?_ _));refine blk_put (cs:=#[.slice none 0 0,.int .i64 0]) ?_ 0 _ rfl;(with_reducible repeat (first|refine blk_drewN ?_ _|refine blk_drew ?_|refine blk_alloc ?_ _));exact BK159.out) hb);replace HB:=Aside0.mk (below_step bl hb);(try clear hb);(try clear hb2);(try clear hk);(try clear hi);obtain ⟨hcz73_0,hcz73_1,hfz73_0,hfz73_1⟩:=ck2 BK153.out)|((with_reducible refine gate_callee (f:=40) rfl ?_);refine gl (some 17) Try.func40 #[.agg #[.slice A0_0 l0_0.length c0_0,.int .i64 a0_1],.int .i64 a1] ?_;(with_reducible refine (spec_l03Find.calls k _ _ l0_0 a0_1 a1 t161 _ ?side1 ?side2 A6.out).mono ?_);(case side1=>exact kc HR0_0);(case side2=>exact HC0_0.out);rintro e w74 ⟨rfl,hb⟩;refine ⟨_,rfl,?_⟩;replace HO157:=Aside0.mk (Kd.R_below (kr HO157) hb);replace BK153:=Aside0.mk (blk_below (bk BK153) hb);replace BK154:=Aside0.mk (blk_below (bk BK154) hb);replace BK159:=Aside0.mk (blk_below (bk BK159) hb);replace HB:=Aside0.mk (below_step bl hb);(try clear hb);(try clear hb2);(try clear hk);(try clear hi);obtain ⟨hcz75_0,hcz75_1,hfz75_0,hfz75_1⟩:=ck2 BK159.out))
    replace HO157:=Aside0.mk (Kd.R_drew HO157.out)
    replace BK153:=Aside0.mk (blk_drew BK153.out)
    replace BK154:=Aside0.mk (blk_drew BK154.out)
    replace BK159:=Aside0.mk (blk_drew BK159.out)
    replace HB:=Aside0.mk (below_drew1 HB.out)
    have p162:0≤((ji24):Int):=od
    have q162:(ji24) < (t155.length:Int):=od
    obtain ⟨ad162,e162,hx162_0,hx162_1,hx162_2⟩:=at_T56 (Kd.R_reads' HO157.out).2.2 (ji24) p162 q162
    cases e162
    replace p162:=eq_true p162
    replace q162:=eq_true q162
    have p29:0≤(t161:Int):=od
    have q29:(t161:Int) < ((t155.length:Int):Int):=od
    obtain ⟨go29,co29,eo29,gb29,gl29,cl29,HG29⟩:=Kd.R_form HO157.out (by omega)
    (first|cases eo29|(injection eo29 with ea_ en_ ec_;(first|subst ea_|(injection ea_ with ea_;subst ea_));subst ec_;clear en_))
    have GB29:=Aside0.mk gb29
    have GG29:=Aside0.mk HG29
    clear gb29 gl29 HG29
    (first|simp only [add_plain] at hx162_0|skip)
    (first|simp only [add_plain] at hx162_1|skip)
    (first|simp only [add_plain] at hx162_2|skip)
    obtain ⟨ce29,hcl29,hM29,hcc29,hfr29⟩:=Kd.R_elem HO157.out z56 (t161:Int) p29 q29
    obtain rfl:=k56_openM hM29
    have hx29_0:World.cell? _ ⟨go29,(t161:Int).toNat * 3,none⟩=some (.int .i64 ((rd_T56 t155 t161).f0)):=hcc29 0 _ rfl
    have hx29_1:World.cell? _ ⟨go29,(t161:Int).toNat * 3 + 1,none⟩=some (.int .i64 ((rd_T56 t155 t161).f1)):=hcc29 1 _ rfl
    have hx29_2:World.cell? _ ⟨go29,(t161:Int).toNat * 3 + 2,none⟩=some (.int .i64 ((rd_T56 t155 t161).f2)):=hcc29 2 _ rfl
    have hf29_0:World.frozen? _ ⟨go29,(t161:Int).toNat * 3,none⟩=false:=hfr29 0
    have hf29_1:World.frozen? _ ⟨go29,(t161:Int).toNat * 3 + 1,none⟩=false:=hfr29 1
    have hf29_2:World.frozen? _ ⟨go29,(t161:Int).toNat * 3 + 2,none⟩=false:=hfr29 2
    clear hcl29 hcc29 hfr29 hM29
    replace p29:=eq_true p29
    replace q29:=eq_true q29
    obtain ⟨ce77,hcl77,hM77,hcc77,hfr77⟩:=Kd.R_elem HO157.out z56 (t161:Int) od (by have h_:(t161:Int) < ((t155.length:Int):Int):=od;first|exact h_|(have e_:=(Kd.R_reads' HO157.out).1;omega)|simpa using h_)
    obtain rfl:=k56_openM hM77
    have HP77:=(Kd.R_seg HO157.out (t161:Int) od (by have h_:(t161:Int) < ((t155.length:Int):Int):=od;first|exact h_|(have e_:=(Kd.R_reads' HO157.out).1;omega)|simpa using h_) (seg:=[.int .i64 ((rd_T56 t155 (ji24)).f0),.int .i64 ((rd_T56 t155 (ji24)).f1),.int .i64 ((rd_T56 t155 (ji24)).f2)]) (j:=0) hcl77 hcc77 (show 3≤3 from by decide) (x':=(⟨(rd_T56 t155 (ji24)).f0,(rd_T56 t155 (ji24)).f1,(rd_T56 t155 (ji24)).f2⟩:S56)) (k56_mkM _ _ _ (⟨(rd_T56 t155 (ji24)).f0,(rd_T56 t155 (ji24)).f1,(rd_T56 t155 (ji24)).f2⟩:S56) ) (fun _ hk=>hk)).1
    rw [← Ny163.out] at HP77
    have HQ77:=Aside0.mk HP77
    clear hcl77 hcc77 hfr77 hM77 HP77
    refine start_ (n:=10) (S:=fun w'=>w'.cell? ⟨gb159,0,none⟩=some (.slice (some ⟨go29,0,none⟩) t155.length co67)∧w'.cell? ⟨gb159,1,none⟩=some (.int .i64 t158)∧w'.cell? ⟨go29,(((ji24)).toNat * 3),none⟩=some (.int .i64 ((rd_T56 t155 (ji24)).f0))∧w'.cell? ⟨go29,(((ji24)).toNat * 3) + 1,none⟩=some (.int .i64 ((rd_T56 t155 (ji24)).f1))∧w'.cell? ⟨go29,(((ji24)).toNat * 3) + 2,none⟩=some (.int .i64 ((rd_T56 t155 (ji24)).f2))) (ds:=[9]) (bs 10 0) (by kernel_rfl) rfl rfl ⟨bc BK159 0,bc BK159 1,hx162_0,hx162_1,hx162_2⟩ (fun hHeld=>?_);refine with_tabW spec_CancelDue.tab8 spec_CancelDue.bits8 (fun HT_ HW_=>?_)
    generalize w74.drew=w76 at HO157 BK153 BK154 BK159 HB GG29 HQ77 hf29_0 hf29_1 hf29_2 hx162_0 hx162_1 hx162_2 hx29_0 hx29_1 hx29_2 hHeld ⊢
    refine pq 0 25 (bs 10 1) HT_ ?_
    refine pq 2 27 (bs 10 5) HT_ ?_
    refine pq 3 28 (bs 10 13) HT_ ?_
    refine pq 5 30 (bs 10 45) HT_ ?_
    refine tq 1 26 (bs 10 47) HT_ HW_ hHeld ?_
    refine tq 4 29 (bs 10 63) HT_ HW_ hHeld ?_
    refine pq 6 31 (bs 10 127) HT_ ?_
    refine tq 7 32 (bs 10 255) HT_ HW_ hHeld ?_
    refine pq 8 33 (bs 10 511) HT_ ?_
    refine last_ (i:=9) (N:=none) (bs 10 1023) rfl rfl (one_of HT_.out (by kernel_rfl)) (by decide) (fun K hK=>?_)
    refine skip_ (w1:=?_) (by rfl) rfl ?_ ?_
    rotate_left
    ·go_simp
     rfl
    refine hK.out _ _ ?_
    clear hK K
    refine done_ (done_of HT_.out (by kernel_rfl)) ?_
    have n0_:Aside0 (Kd.R k56 56 (((w76.setCell ⟨go29,(t161:Int).toNat * 3,none⟩ (.int .i64 ((rd_T56 t155 (ji24)).f0))).setCell ⟨go29,(t161:Int).toNat * 3 + 1,none⟩ (.int .i64 ((rd_T56 t155 (ji24)).f1))).setCell ⟨go29,(t161:Int).toNat * 3 + 2,none⟩ (.int .i64 ((rd_T56 t155 (ji24)).f2))) w.heap.size (fun _=>True) (.slice (some ⟨go29,0,none⟩) t155.length co67) y163):=⟨kr HQ77⟩
    have n1_:Aside0 ((((w76.setCell ⟨go29,(t161:Int).toNat * 3,none⟩ (.int .i64 ((rd_T56 t155 (ji24)).f0))).setCell ⟨go29,(t161:Int).toNat * 3 + 1,none⟩ (.int .i64 ((rd_T56 t155 (ji24)).f1))).setCell ⟨go29,(t161:Int).toNat * 3 + 2,none⟩ (.int .i64 ((rd_T56 t155 (ji24)).f2))).heap[gb153]? = some (.cells #[.slice A0_0 l0_0.length c0_0,.int .i64 a0_1] 28 (0,0))):=⟨by (with_reducible repeat (first|refine blk_drewN ?_ _|refine blk_drew ?_|refine blk_alloc ?_ _));refine blk_far ?_ (by have h_:=Kd.R_ne HO157.out BK153.out (by decide);intro e_;exact h_ (by rw [e_];rfl)) _;(with_reducible repeat (first|refine blk_drewN ?_ _|refine blk_drew ?_|refine blk_alloc ?_ _));refine blk_far ?_ (by have h_:=Kd.R_ne HO157.out BK153.out (by decide);intro e_;exact h_ (by rw [e_];rfl)) _;(with_reducible repeat (first|refine blk_drewN ?_ _|refine blk_drew ?_|refine blk_alloc ?_ _));refine blk_far ?_ (by have h_:=Kd.R_ne HO157.out BK153.out (by decide);intro e_;exact h_ (by rw [e_];rfl)) _;(with_reducible repeat (first|refine blk_drewN ?_ _|refine blk_drew ?_|refine blk_alloc ?_ _));exact BK153.out⟩
    have n2_:Aside0 ((((w76.setCell ⟨go29,(t161:Int).toNat * 3,none⟩ (.int .i64 ((rd_T56 t155 (ji24)).f0))).setCell ⟨go29,(t161:Int).toNat * 3 + 1,none⟩ (.int .i64 ((rd_T56 t155 (ji24)).f1))).setCell ⟨go29,(t161:Int).toNat * 3 + 2,none⟩ (.int .i64 ((rd_T56 t155 (ji24)).f2))).heap[gb154]? = some (.cells #[.slice none 0 0,.int .i64 0] 28 (0,0))):=⟨by (with_reducible repeat (first|refine blk_drewN ?_ _|refine blk_drew ?_|refine blk_alloc ?_ _));refine blk_far ?_ (by have h_:=Kd.R_ne HO157.out BK154.out (by decide);intro e_;exact h_ (by rw [e_];rfl)) _;(with_reducible repeat (first|refine blk_drewN ?_ _|refine blk_drew ?_|refine blk_alloc ?_ _));refine blk_far ?_ (by have h_:=Kd.R_ne HO157.out BK154.out (by decide);intro e_;exact h_ (by rw [e_];rfl)) _;(with_reducible repeat (first|refine blk_drewN ?_ _|refine blk_drew ?_|refine blk_alloc ?_ _));refine blk_far ?_ (by have h_:=Kd.R_ne HO157.out BK154.out (by decide);intro e_;exact h_ (by rw [e_];rfl)) _;(with_reducible repeat (first|refine blk_drewN ?_ _|refine blk_drew ?_|refine blk_alloc ?_ _));exact BK154.out⟩
    have n3_:Aside0 ((((w76.setCell ⟨go29,(t161:Int).toNat * 3,none⟩ (.int .i64 ((rd_T56 t155 (ji24)).f0))).setCell ⟨go29,(t161:Int).toNat * 3 + 1,none⟩ (.int .i64 ((rd_T56 t155 (ji24)).f1))).setCell ⟨go29,(t161:Int).toNat * 3 + 2,none⟩ (.int .i64 ((rd_T56 t155 (ji24)).f2))).heap[gb159]? = some (.cells #[.slice (some ⟨go29,0,none⟩) t155.length co67,.int .i64 t158] 28 (0,0))):=⟨by (with_reducible repeat (first|refine blk_drewN ?_ _|refine blk_drew ?_|refine blk_alloc ?_ _));refine blk_far ?_ (by have h_:=Kd.R_ne HO157.out BK159.out (by decide);intro e_;exact h_ (by rw [e_];rfl)) _;(with_reducible repeat (first|refine blk_drewN ?_ _|refine blk_drew ?_|refine blk_alloc ?_ _));refine blk_far ?_ (by have h_:=Kd.R_ne HO157.out BK159.out (by decide);intro e_;exact h_ (by rw [e_];rfl)) _;(with_reducible repeat (first|refine blk_drewN ?_ _|refine blk_drew ?_|refine blk_alloc ?_ _));refine blk_far ?_ (by have h_:=Kd.R_ne HO157.out BK159.out (by decide);intro e_;exact h_ (by rw [e_];rfl)) _;(with_reducible repeat (first|refine blk_drewN ?_ _|refine blk_drew ?_|refine blk_alloc ?_ _));exact BK159.out⟩
    have n4_:Aside0 (Below w.heap.size w (((w76.setCell ⟨go29,(t161:Int).toNat * 3,none⟩ (.int .i64 ((rd_T56 t155 (ji24)).f0))).setCell ⟨go29,(t161:Int).toNat * 3 + 1,none⟩ (.int .i64 ((rd_T56 t155 (ji24)).f1))).setCell ⟨go29,(t161:Int).toNat * 3 + 2,none⟩ (.int .i64 ((rd_T56 t155 (ji24)).f2)))):=⟨by repeat (first|(with_reducible first|exact HB.out|apply below_alloc|apply pw_below_drewN|apply below_drew1|refine below_set ?_ GB29.out|refine below_set ?_ GB29.out|refine below_set ?_ GB29.out|refine below_set ?_ GE153.out|refine below_set ?_ GE154.out|refine below_set ?_ GE159.out)|exact HB.out)⟩
    (try clear HO157)
    (try clear BK153)
    (try clear BK154)
    (try clear BK159)
    (try clear HB)
    generalize (((w76.setCell ⟨go29,(t161:Int).toNat * 3,none⟩ (.int .i64 ((rd_T56 t155 (ji24)).f0))).setCell ⟨go29,(t161:Int).toNat * 3 + 1,none⟩ (.int .i64 ((rd_T56 t155 (ji24)).f1))).setCell ⟨go29,(t161:Int).toNat * 3 + 2,none⟩ (.int .i64 ((rd_T56 t155 (ji24)).f2)))=w78 at n0_ n1_ n2_ n3_ n4_ ⊢
    have HO157:=n0_
    have BK153:=n1_
    have BK154:=n2_
    have BK159:=n3_
    have HB:=n4_
    clear n0_ n1_ n2_ n3_ n4_
    obtain ⟨hcz79_0,hcz79_1,hfz79_0,hfz79_1⟩:=ck2 BK159.out
    have q80:((ji24):Int)≤((t155.length:Int):Int):=od
    obtain ⟨i080,hi080,_,hsz80,_⟩:=info_parts info56
    have hcut80:=cut_to (P:=Try.prog) 26 56 .i64 Try.underlying26 hi080 (some ⟨go29,0,none⟩) t155.length co67 (ji24) od q80 (Kd.R_reads' HO157.out).2.1
    have hr80:=Kd.R_take (m:=((ji24):Int).toNat) HO157.out (by first|omega|(have e_:=(Kd.R_reads' HO157.out).1;omega))
    have hy80:y164.length=((ji24):Int).toNat:=(by rw [Ny164.out,List.length_take];first|omega|(have e_:=(Kd.R_reads' HO157.out).1;omega))
    rw [← Ny164.out] at hr80
    rw [← hy80] at hr80 hcut80
    clear hy80 hi080 hsz80 HO157
    have HO166:=Aside0.mk hr80
    clear hr80
    replace q80:=eq_true q80
    obtain ⟨hcz81_0,hcz81_1,hfz81_0,hfz81_1⟩:=ck2 BK154.out
    try go_wp2
    refine bodyPost_ret (results_ct rfl _ _ gb154 28 #[.slice (some ⟨go29,0,none⟩) y164.length co67,.int .i64 t158] (0,0) _ rfl (by (with_reducible repeat (first|refine blk_drewN ?_ _|refine blk_drew ?_|refine blk_alloc ?_ _));refine blk_put (cs:=#[.slice (some ⟨go29,0,none⟩) y164.length co67,.int .i64 0]) ?_ 1 _ rfl;(with_reducible repeat (first|refine blk_drewN ?_ _|refine blk_drew ?_|refine blk_alloc ?_ _));refine blk_put (cs:=#[.slice none 0 0,.int .i64 0]) ?_ 0 _ rfl;(with_reducible repeat (first|refine blk_drewN ?_ _|refine blk_drew ?_|refine blk_alloc ?_ _));refine blk_far ?_ NB154_159.out _;(with_reducible repeat (first|refine blk_drewN ?_ _|refine blk_drew ?_|refine blk_alloc ?_ _));exact BK154.out) Try.underlying28 rfl (by kernel_rfl)) rfl ?_
    exact ⟨_,by first|rfl|(simp [errW_none,errW_some] <;> rfl)|(simp only [← hji24];first|rfl|(simp [errW_none,errW_some] <;> rfl))|(simp [*,errW_none,errW_some] <;> rfl),by (with_reducible repeat (first|apply Kd.R_alloc|apply Kd.R_drewN|apply Kd.R_drew));exact Kd.R_mono (Kd.R_far (p:=⟨gb154,1,none⟩) (Kd.R_far (p:=⟨gb154,0,none⟩) (Kd.R_far (p:=⟨gb159,0,none⟩) (Kd.R_types (Kd.R_types HO166.out BK159.out (by decide)) BK154.out (by decide)) (fun _ hk=>hk.1.2) (.slice (some ⟨go29,0,none⟩) y164.length co67)) (fun _ hk=>hk.2) (.slice (some ⟨go29,0,none⟩) y164.length co67)) (fun _ hk=>hk.2) (.int .i64 t158)) (fun _ hk=>trivial),bl⟩
 ·replace c5:=Bool.eq_false_iff.mpr c5
  subst c5
  rw [if_neg nft] at H
  simp only [Option.some.injEq,Prod.mk.injEq] at H
  obtain ⟨rfl,rfl,rfl⟩:=H
  go_enter Try.func10,Try.ntmps10
  go_wp2_with (first|((with_reducible refine gate_dst (N:=2) rfl ?_);refine bx 2 #[.slice A0_0 l0_0.length c0_0,.int .i64 a0_1] 28 ?_;intro gb153 hg w82 hbox hb;have BK153:=Aside0.mk (hbox);have GW153:=Aside0.mk (bz hg:w.heap.size≤gb153);have GE153:=GW153;replace HB:=Aside0.mk (below_step bl hb);clear hb hbox hg)|((with_reducible refine gate_dst (N:=4) rfl ?_);refine bx 4 #[.slice none 0 0,.int .i64 0] 28 ?_;intro gb154 hg w83 hbox hb;have BK154:=Aside0.mk (hbox);have GW154:=Aside0.mk (bz hg:w.heap.size≤gb154);have GE154:=GW154;replace HB:=Aside0.mk (below_step bl hb);have NB153_154:=Aside0.mk (nl hg BK153:gb153≠gb154);have NB154_153:=Aside0.mk (nr hg BK153:gb154≠gb153);replace BK153:=Aside0.mk (blk_below (bk BK153) hb);clear hb hbox hg;have hnb84:=NB153_154.out;have hnc84:=NB154_153.out;obtain ⟨hcz85_0,hcz85_1,hfz85_0,hfz85_1⟩:=ck2 BK153.out)|((with_reducible refine gate_callee (f:=39) rfl ?_);refine gl (some 10) Try.func39 #[.agg #[.slice A0_0 l0_0.length c0_0,.int .i64 a0_1]] ?_;(with_reducible refine (spec_l03Copy.calls k _ _ l0_0 a0_1 t155 t158 _ ?side1 ?side2 A3.out).mono ?_);(case side1=>exact kc HR0_0);(case side2=>exact HC0_0.out);rintro e w86 ⟨v156,rfl,ho0,hb⟩;refine ⟨_,rfl,?_⟩;have HO157:=Aside0.mk (Kd.R_lower ho0 (below_size bl));replace BK153:=Aside0.mk (blk_below (bk BK153) hb);replace BK154:=Aside0.mk (blk_below (bk BK154) hb);replace HB:=Aside0.mk (below_step bl hb);(try clear hb);(try clear hb2);(try clear hk);(try clear hi);(try clear ho0))|((with_reducible refine gate_dst (N:=6) rfl ?_);refine bx 6 #[.slice none 0 0,.int .i64 0] 28 ?_;intro gb159 hg w87 hbox hb;replace HO157:=Aside0.mk (Kd.R_below (kr HO157) hb);have BK159:=Aside0.mk (hbox);have GW159:=Aside0.mk (bz hg:w.heap.size≤gb159);have GE159:=GW159;replace HB:=Aside0.mk (below_step bl hb);have NB153_159:=Aside0.mk (nl hg BK153:gb153≠gb159);have NB159_153:=Aside0.mk (nr hg BK153:gb159≠gb153);replace BK153:=Aside0.mk (blk_below (bk BK153) hb);have NB154_159:=Aside0.mk (nl hg BK154:gb154≠gb159);have NB159_154:=Aside0.mk (nr hg BK154:gb159≠gb154);replace BK154:=Aside0.mk (blk_below (bk BK154) hb);clear hb hbox hg;obtain ⟨Ao88,co88,eo88⟩:=Kd.R_slice HO157.out;subst eo88;have hnb89:=NB159_153.out;have hnc89:=NB153_159.out;have hnb90:=NB159_154.out;have hnc90:=NB154_159.out;obtain ⟨hcz91_0,hcz91_1,hfz91_0,hfz91_1⟩:=ck2 BK159.out;obtain ⟨hcz92_0,hcz92_1,hfz92_0,hfz92_1⟩:=ck2 BK153.out)|((with_reducible refine gate_callee (f:=34) rfl ?_);refine gl (some 12) Try.func34 #[.agg #[.slice A0_0 l0_0.length c0_0,.int .i64 a0_1]] ?_;(with_reducible refine (spec_HeapOk.calls k _ _ l0_0 a0_1 false _ ?side1 ?side2 A4.out).mono ?_);(case side1=>exact Kd.C_below HR0_0.out bl);(case side2=>exact HC0_0.out);rintro e w93 ⟨rfl,hb⟩;refine ⟨_,rfl,?_⟩;replace HO157:=Aside0.mk (Kd.R_below (by (with_reducible repeat (first|apply Kd.R_alloc|apply Kd.R_drewN|apply Kd.R_drew));exact (Kd.R_mono (Kd.R_far (p:=⟨gb159,1,none⟩) (Kd.R_far (p:=⟨gb159,0,none⟩) (Kd.R_types HO157.out BK159.out (by decide)) (fun _ hk=>hk.2) (.slice Ao88 t155.length co88)) (fun _ hk=>hk.2) (.int .i64 t158)) (fun _ h_=>h_.1))) hb);replace BK153:=Aside0.mk (blk_below (g:=gb153) (o:=.cells #[.slice A0_0 l0_0.length c0_0,.int .i64 a0_1] 28 (0,0)) (bf BK153) hb);replace BK154:=Aside0.mk (blk_below (g:=gb154) (o:=.cells #[.slice none 0 0,.int .i64 0] 28 (0,0)) (bf BK154) hb);replace BK159:=Aside0.mk (blk_below (g:=gb159) (o:=.cells #[.slice Ao88 t155.length co88,.int .i64 t158] 28 (0,0)) (by (with_reducible repeat (first|refine blk_drewN ?_ _|refine blk_drew ?_|refine blk_alloc ?_ _));refine blk_put (cs:=#[.slice Ao88 t155.length co88,.int .i64 0]) ?_ 1 _ rfl;(with_reducible repeat (first|refine blk_drewN ?_ _|refine blk_drew ?_|refine blk_alloc ?_ _));refine blk_put (cs:=#[.slice none 0 0,.int .i64 0]) ?_ 0 _ rfl;(with_reducible repeat (first|refine blk_drewN ?_ _|refine blk_drew ?_|refine blk_alloc ?_ _));exact BK159.out) hb);replace HB:=Aside0.mk (below_step bl hb);(try clear hb);(try clear hb2);(try clear hk);(try clear hi);obtain ⟨hcz94_0,hcz94_1,hfz94_0,hfz94_1⟩:=ck2 BK159.out;obtain ⟨hcz95_0,hcz95_1,hfz95_0,hfz95_1⟩:=ck2 BK154.out))
  refine bodyPost_ret (results_ct rfl _ _ gb154 28 #[.slice Ao88 t155.length co88,.int .i64 t158] (0,0) _ rfl (by (with_reducible repeat (first|refine blk_drewN ?_ _|refine blk_drew ?_|refine blk_alloc ?_ _));refine blk_put (cs:=#[.slice Ao88 t155.length co88,.int .i64 0]) ?_ 1 _ rfl;(with_reducible repeat (first|refine blk_drewN ?_ _|refine blk_drew ?_|refine blk_alloc ?_ _));refine blk_put (cs:=#[.slice none 0 0,.int .i64 0]) ?_ 0 _ rfl;(with_reducible repeat (first|refine blk_drewN ?_ _|refine blk_drew ?_|refine blk_alloc ?_ _));exact BK154.out) Try.underlying28 rfl (by kernel_rfl)) rfl ?_
  exact ⟨_,er,by (with_reducible repeat (first|apply Kd.R_alloc|apply Kd.R_drewN|apply Kd.R_drew));exact Kd.R_mono (Kd.R_far (p:=⟨gb154,1,none⟩) (Kd.R_far (p:=⟨gb154,0,none⟩) (Kd.R_types HO157.out BK154.out (by decide)) (fun _ hk=>hk.2) (.slice Ao88 t155.length co88)) (fun _ hk=>hk.2) (.int .i64 t158)) (fun _ hk=>trivial),bl⟩

/-! ### laws_toDue: function 69 -/
def laws_toDue.f (a0_0:Int) (a0_1:Int) (a0_2:Int):Option (Int × Int × Int):=some (a0_0,a0_1,a0_2)
set_option maxHeartbeats 8000000 in
set_option maxRecDepth 100000 in
theorem laws_toDue.calls (a0_0:Int) (a0_1:Int) (a0_2:Int) (r1:Int) (r2:Int) (r3:Int) (w:World) (h:laws_toDue.f a0_0 a0_1 a0_2=some (r1,r2,r3)) :
  Calls Try.prog 69 #[.agg #[.int .i64 a0_0,.int .i64 a0_1,.int .i64 a0_2]] w fun e w'=>e = .returned (.agg #[.int .i64 r1,.int .i64 r2,.int .i64 r3])∧Below w.heap.size w w':=by
 have hu84:=Try.underlying84
 have hu56:=Try.underlying56
 have HB:=Aside0.mk (Below.refl w.heap.size w)
 have H:(some (a0_0,a0_1,a0_2))=some (r1,r2,r3):=h
 clear h
 simp only [Option.some.injEq,Prod.mk.injEq] at H
 obtain ⟨rfl,rfl,rfl⟩:=H
 go_enter Try.func69,Try.ntmps69
 go_wp2_with (first|((with_reducible refine gate_dst (N:=1) rfl ?_);refine bx 1 #[.int .i64 a0_0,.int .i64 a0_1,.int .i64 a0_2] 84 ?_;intro gb169 hg w2 hbox hb;have BK169:=Aside0.mk (hbox);have GW169:=Aside0.mk (bz hg:w.heap.size≤gb169);have GE169:=GW169;replace HB:=Aside0.mk (below_step bl hb);clear hb hbox hg)|((with_reducible refine gate_dst (N:=2) rfl ?_);refine bx 2 #[.int .i64 0,.int .i64 0,.int .i64 0] 56 ?_;intro gb170 hg w3 hbox hb;have BK170:=Aside0.mk (hbox);have GW170:=Aside0.mk (bz hg:w.heap.size≤gb170);have GE170:=GW170;replace HB:=Aside0.mk (below_step bl hb);have NB169_170:=Aside0.mk (nl hg BK169:gb169≠gb170);have NB170_169:=Aside0.mk (nr hg BK169:gb170≠gb169);replace BK169:=Aside0.mk (blk_below (bk BK169) hb);clear hb hbox hg)|((with_reducible refine gate_dst (N:=3) rfl ?_);refine bx 3 #[.int .i64 0,.int .i64 0,.int .i64 0] 56 ?_;intro gb171 hg w4 hbox hb;have BK171:=Aside0.mk (hbox);have GW171:=Aside0.mk (bz hg:w.heap.size≤gb171);have GE171:=GW171;replace HB:=Aside0.mk (below_step bl hb);have NB169_171:=Aside0.mk (nl hg BK169:gb169≠gb171);have NB171_169:=Aside0.mk (nr hg BK169:gb171≠gb169);replace BK169:=Aside0.mk (blk_below (bk BK169) hb);have NB170_171:=Aside0.mk (nl hg BK170:gb170≠gb171);have NB171_170:=Aside0.mk (nr hg BK170:gb171≠gb170);replace BK170:=Aside0.mk (blk_below (bk BK170) hb);clear hb hbox hg;have hnb5:=NB169_170.out;have hnc5:=NB170_169.out;have hnb6:=NB169_171.out;have hnc6:=NB171_169.out;obtain ⟨hcz7_0,hcz7_1,hcz7_2,hfz7_0,hfz7_1,hfz7_2⟩:=ck3 BK169.out;have hnb8:=NB171_170.out;have hnc8:=NB170_171.out;obtain ⟨hcz9_0,hcz9_1,hcz9_2,hfz9_0,hfz9_1,hfz9_2⟩:=ck3 BK171.out;obtain ⟨hcz10_0,hcz10_1,hcz10_2,hfz10_0,hfz10_1,hfz10_2⟩:=ck3 BK170.out))
 refine bodyPost_ret (results_cell_row rfl _ _ gb170 56 #[.int .i64 a0_0,.int .i64 a0_1,.int .i64 a0_2] (0,0) _ rfl (by (with_reducible repeat (first|refine blk_drewN ?_ _|refine blk_drew ?_|refine blk_alloc ?_ _));refine blk_put (cs:=#[.int .i64 a0_0,.int .i64 a0_1,.int .i64 0]) ?_ 2 _ rfl;(with_reducible repeat (first|refine blk_drewN ?_ _|refine blk_drew ?_|refine blk_alloc ?_ _));refine blk_put (cs:=#[.int .i64 a0_0,.int .i64 0,.int .i64 0]) ?_ 1 _ rfl;(with_reducible repeat (first|refine blk_drewN ?_ _|refine blk_drew ?_|refine blk_alloc ?_ _));refine blk_put (cs:=#[.int .i64 0,.int .i64 0,.int .i64 0]) ?_ 0 _ rfl;(with_reducible repeat (first|refine blk_drewN ?_ _|refine blk_drew ?_|refine blk_alloc ?_ _));refine blk_far ?_ NB170_171.out _;(with_reducible repeat (first|refine blk_drewN ?_ _|refine blk_drew ?_|refine blk_alloc ?_ _));refine blk_far ?_ NB170_171.out _;(with_reducible repeat (first|refine blk_drewN ?_ _|refine blk_drew ?_|refine blk_alloc ?_ _));refine blk_far ?_ NB170_171.out _;(with_reducible repeat (first|refine blk_drewN ?_ _|refine blk_drew ?_|refine blk_alloc ?_ _));exact BK170.out) Try.underlying56 rfl (by kernel_rfl)) rfl ?_
 exact ⟨er,bl⟩

/-! ### laws_toDueS: function 43 -/
def laws_toDueS.l0:Nat→List (S84)→List (S56)→Int→Option ((List (S56)))
 | 0,_,_,_=>none
 | k + 1,x0,x3,x4=>if x4 < (x0.length:Int) then (if 0≤x4 then ((laws_toDue.f ((rd_T84 x0 x4).f0) ((rd_T84 x0 x4).f1) ((rd_T84 x0 x4).f2)).bind fun bt176=>(if x4 < (x3.length:Int) then (laws_toDueS.l0 k x0 (x3.set (x4:Int).toNat (⟨bt176.1,bt176.2.1,bt176.2.2⟩:S56)) (wrap64 (x4 + 1))) else (none))) else (none)) else (some x3)
def laws_toDueS.f (k:Nat) (l0:List (S84)):Option ((List (S56))):=if 0≤(l0.length:Int) then (if ((l0.length:Int):Int).toNat≤11728124029610 then (laws_toDueS.l0 k l0 (List.replicate ((l0.length:Int):Int).toNat z56) 0) else (none)) else (none)
theorem laws_toDueS.mono_l:∀ k,(∀ y0 y1 y2,LeO (laws_toDueS.l0 k y0 y1 y2) (laws_toDueS.l0 (k + 1) y0 y1 y2))
 | 0=>fun _ _ _ r h=>by simp [laws_toDueS.l0] at h
 | k + 1=>by
  have ih0:=laws_toDueS.mono_l k
  ·intro y0 y1 y2
   unfold laws_toDueS.l0
   repeat' first
   | (with_reducible exact ih0 _ _ _)
   | (with_reducible exact LeO.refl _)
   | (with_reducible exact LeO.none _)
   | (with_reducible refine LeO.ite ?_ ?_)
   | (with_reducible refine LeO.bind ?_ (fun _=>?_))
   | exact ih0 _ _ _
   | exact LeO.none _
   | refine LeO.ite ?_ ?_
   | refine LeO.bind ?_ (fun _=>?_)
theorem laws_toDueS.mono:∀ a0 k,LeO (laws_toDueS.f k a0) (laws_toDueS.f (k + 1) a0):=by
 intro a0 k
 have ih0:=laws_toDueS.mono_l k
 unfold laws_toDueS.f
 repeat' first
   | (with_reducible exact ih0 _ _ _)
   | (with_reducible exact LeO.refl _)
   | (with_reducible exact LeO.none _)
   | (with_reducible refine LeO.ite ?_ ?_)
   | (with_reducible refine LeO.bind ?_ (fun _=>?_))
   | exact ih0 _ _ _
   | exact LeO.none _
   | refine LeO.ite ?_ ?_
   | refine LeO.bind ?_ (fun _=>?_)
set_option maxHeartbeats 8000000 in
set_option maxRecDepth 100000 in
theorem laws_toDueS.calls (k:Nat) (A0:Option Addr) (c0:Nat) (l0:List (S84)) (r:List (S56)) (w:World) (hr0:Kd.C k84 w A0 l0.length l0) (hc0:l0.length≤c0) (h:laws_toDueS.f k l0=some r) :
  Calls Try.prog 43 #[.slice A0 l0.length c0] w fun e w'=>∃ v0_:Value,e = .returned (v0_)∧Kd.R k56 56 w' w.heap.size (fun _=>True) v0_ r∧Below w.heap.size w w':=by
 have hu84:=Try.underlying84
 have hu56:=Try.underlying56
 have HR0:=Aside0.mk hr0
 have HC0:=Aside0.mk hc0
 clear hr0 hc0
 have HB:=Aside0.mk (Below.refl w.heap.size w)
 have H:(if 0≤(l0.length:Int) then (if ((l0.length:Int):Int).toNat≤11728124029610 then (laws_toDueS.l0 k l0 (List.replicate ((l0.length:Int):Int).toNat z56) 0) else (none)) else (none))=some r:=h
 clear h
 by_cases c2:0≤(l0.length:Int)
 ·rw [if_pos c2] at H
  have c2b0:=eq_true c2
  have c2b1:decide (0≤(l0.length:Int))=true:=decide_eq_true c2
  clear c2
  by_cases c3:((l0.length:Int):Int).toNat≤11728124029610
  case neg =>
   rw [if_neg c3] at H
   exact absurd H (by simp)
  rw [if_pos c3] at H
  have c3b0:=eq_true c3
  have c3b1:decide (((l0.length:Int):Int).toNat≤11728124029610)=true:=decide_eq_true c3
  clear c3
  obtain ⟨y172,hy172⟩:∃ y_:List (S56),y_=(List.replicate ((l0.length:Int):Int).toNat z56):=⟨_,rfl⟩
  replace H:(laws_toDueS.l0 k l0 y172 0)=some r:=by first|(rw [hy172];with_reducible exact H)|(have H2_:=(Option.bind_some _ _).symm.trans H;rw [hy172];with_reducible exact H2_)|(have H2_:=(Option.bind_some _ _).symm.trans H;with_reducible exact H2_)|with_reducible exact H|(rw [hy172];exact H)|exact H
  have Ny172:=Aside0.mk hy172
  clear hy172
  have H':=Aside0.mk H
  clear H
  go_enter Try.func43,Try.ntmps43
  go_wp2_with (first|((with_reducible refine gate_dst (N:=7) rfl ?_);refine Kd.R_make k56 _ 56 rfl (N:=7) rfl 26 _ _ rfl (l0.length:Int) rfl rfl Try.underlying26 (.agg #[(.int .i64 0),(.int .i64 0),(.int .i64 0)]) 24 info56 rfl (by decide) (by omega) z56 (ok:=fun _=>True) (okp:=fun _=>True) (k56_mkM _ _ _ z56 ) (fun _ hk=>hk) trivial od (Nat.le_trans (Nat.mul_le_mul_right _ (od:(l0.length:Int).toNat≤11728124029610)) (by omega)) (Below.refl _ _) (Nat.le_refl _) ?_;intro v173 w4 ho5 hb hg_ hnew_;clear hg_ hnew_;(first|rw [← Ny172.out] at ho5|(simp only [Int.reduceToNat] at ho5;rw [← Ny172.out] at ho5));have HO174:=Aside0.mk (Kd.R_lower ho5 (below_size bl));replace HB:=Aside0.mk (below_step bl hb);clear hb ho5))
  go_loopg [4] k (fun kq v4 w'=>∃ (x3_1:List (S56)) (x4_1:Int),v4 = .int .i64 x4_1∧Aside0 (laws_toDueS.l0 kq l0 x3_1 x4_1=some r)∧Aside0 (kq≤k)∧Aside0 (Kd.R k56 56 w' w.heap.size (fun _=>True) v173 x3_1)∧Aside0 (Below w.heap.size w w'))
  case atStart=>exact ⟨(y172),(0),(by first|rfl|(simp;done)|(simp [*];done)),H',⟨Nat.le_refl _⟩,⟨kr HO174⟩,⟨bl⟩⟩
  case round =>
   clear H'
   try clear c2
   try clear c2b0
   try clear c2b1
   try clear p2
   try clear c3
   try clear c3b0
   try clear c3b1
   try clear c4
   obtain ⟨x3_1,x4_1,rfl,HA,HK1,HO_3,HB⟩:=hrel
   cases gk with
   | zero=>exact absurd HA.out (by simp [laws_toDueS.l0])
   | succ k1 =>
    have H:=HA.out
    clear HA
    simp only [laws_toDueS.l0] at H
    by_cases c6:x4_1 < (l0.length:Int)
    ·rw [if_pos c6] at H
     have c6b0:decide (x4_1 < (l0.length:Int))=true:=decide_eq_true c6
     clear c6
     by_cases c7:0≤x4_1
     case neg =>
      rw [if_neg c7] at H
      exact absurd H (by simp)
     rw [if_pos c7] at H
     have c7b0:decide (0≤x4_1)=true:=decide_eq_true c7
     clear c7
     replace H:=Option.bind_eq_some_iff.mp H
     obtain ⟨⟨t176,t177,t178⟩,A80,H⟩:=H
     replace H:(if x4_1 < (x3_1.length:Int) then (laws_toDueS.l0 k1 l0 (x3_1.set (x4_1:Int).toNat (⟨t176,t177,t178⟩:S56)) (wrap64 (x4_1 + 1))) else (none))=some r:=H
     have A8:=Aside0.mk A80
     clear A80
     by_cases c9:x4_1 < (x3_1.length:Int)
     case neg =>
      rw [if_neg c9] at H
      exact absurd H (by simp)
     rw [if_pos c9] at H
     have c9b0:decide (x4_1 < (x3_1.length:Int))=true:=decide_eq_true c9
     clear c9
     obtain ⟨y179,hy179⟩:∃ y_:List (S56),y_=(x3_1.set (x4_1:Int).toNat (⟨t176,t177,t178⟩:S56)):=⟨_,rfl⟩
     replace H:(laws_toDueS.l0 k1 l0 y179 (wrap64 (x4_1 + 1)))=some r:=by first|(rw [hy179];with_reducible exact H)|(have H2_:=(Option.bind_some _ _).symm.trans H;rw [hy179];with_reducible exact H2_)|(have H2_:=(Option.bind_some _ _).symm.trans H;with_reducible exact H2_)|with_reducible exact H|(rw [hy179];exact H)|exact H
     have Ny179:=Aside0.mk hy179
     clear hy179
     have H':=Aside0.mk H
     clear H
     have p175:0≤(x4_1:Int):=od
     have q175:x4_1 < (l0.length:Int):=od
     obtain ⟨ad175,e175,hx175_0,hx175_1,hx175_2⟩:=at_T84 HR0.out x4_1 p175 q175
     cases e175
     replace hx175_0:=cl HB hx175_0
     replace hx175_1:=cl HB hx175_1
     replace hx175_2:=cl HB hx175_2
     replace p175:=eq_true p175
     replace q175:=eq_true q175
     go_wp2_with (first|((with_reducible refine gate_callee (f:=69) rfl ?_);refine gl (some 20) Try.func69 #[.agg #[.int .i64 ((rd_T84 l0 x4_1).f0),.int .i64 ((rd_T84 l0 x4_1).f1),.int .i64 ((rd_T84 l0 x4_1).f2)]] ?_;(with_reducible refine (laws_toDue.calls ((rd_T84 l0 x4_1).f0) ((rd_T84 l0 x4_1).f1) ((rd_T84 l0 x4_1).f2) t176 t177 t178 _ A8.out).mono ?_);rintro e w11 ⟨rfl,hb⟩;refine ⟨_,rfl,?_⟩;replace HO_3:=Aside0.mk (Kd.R_below (kr HO_3) hb);replace HB:=Aside0.mk (below_step bl hb);(try clear hb);(try clear hb2);(try clear hk);(try clear hi);have p10:0≤(x4_1:Int):=od;have q10:(x4_1:Int) < ((x3_1.length:Int):Int):=od;obtain ⟨go10,co10,eo10,gb10,gl10,cl10,HG10⟩:=Kd.R_form HO_3.out (by omega);(first|cases eo10|(injection eo10 with ea_ en_ ec_;(first|subst ea_|(injection ea_ with ea_;subst ea_));subst ec_;clear en_));have GB10:=Aside0.mk gb10;have GG10:=Aside0.mk HG10;clear gb10 gl10 HG10;obtain ⟨ce10,hcl10,hM10,hcc10,hfr10⟩:=Kd.R_elem HO_3.out z56 (x4_1:Int) p10 q10;obtain rfl:=k56_openM hM10;have hx10_0:w11.cell? ⟨go10,(x4_1:Int).toNat * 3,none⟩=some (.int .i64 ((rd_T56 x3_1 x4_1).f0)):=hcc10 0 _ rfl;have hx10_1:w11.cell? ⟨go10,(x4_1:Int).toNat * 3 + 1,none⟩=some (.int .i64 ((rd_T56 x3_1 x4_1).f1)):=hcc10 1 _ rfl;have hx10_2:w11.cell? ⟨go10,(x4_1:Int).toNat * 3 + 2,none⟩=some (.int .i64 ((rd_T56 x3_1 x4_1).f2)):=hcc10 2 _ rfl;have hf10_0:w11.frozen? ⟨go10,(x4_1:Int).toNat * 3,none⟩=false:=hfr10 0;have hf10_1:w11.frozen? ⟨go10,(x4_1:Int).toNat * 3 + 1,none⟩=false:=hfr10 1;have hf10_2:w11.frozen? ⟨go10,(x4_1:Int).toNat * 3 + 2,none⟩=false:=hfr10 2;clear hcl10 hcc10 hfr10 hM10;replace p10:=eq_true p10;replace q10:=eq_true q10;have HX12:=Aside0.mk (show Kd.R k56 56 w11 w.heap.size (fun _=>True) (.slice (some ⟨go10,0,none⟩) x3_1.length co10) x3_1 from (kr HO_3));obtain ⟨ce12,hcl12,hM12,hcc12,hfr12⟩:=Kd.R_elem HX12.out z56 (x4_1:Int) od (by have h_:(x4_1:Int) < ((x3_1.length:Int):Int):=od;first|exact h_|(have e_:=(Kd.R_reads' HO_3.out).1;omega)|simpa using h_);obtain rfl:=k56_openM hM12;have HP12:=Kd.R_seg HX12.out (x4_1:Int) od (by have h_:(x4_1:Int) < ((x3_1.length:Int):Int):=od;first|exact h_|(have e_:=(Kd.R_reads' HO_3.out).1;omega)|simpa using h_) (seg:=[.int .i64 t176,.int .i64 t177,.int .i64 t178]) (j:=0) hcl12 hcc12 (show 3≤3 from by decide) (x':=(⟨t176,t177,t178⟩:S56)) (k56_mkM _ _ _ (⟨t176,t177,t178⟩:S56) ) (fun _ hk=>hk);have hx12_0:=hcc12 0 _ rfl;(try simp only [show (k56).sz=3 from rfl,Nat.mul_one,Nat.add_zero] at hx12_0);have hf12_0:=hfr12 0;(try simp only [show (k56).sz=3 from rfl,Nat.mul_one,Nat.add_zero] at hf12_0);have hx12_1:=hcc12 1 _ rfl;(try simp only [show (k56).sz=3 from rfl,Nat.mul_one,Nat.add_zero] at hx12_1);have hf12_1:=hfr12 1;(try simp only [show (k56).sz=3 from rfl,Nat.mul_one,Nat.add_zero] at hf12_1);have hx12_2:=hcc12 2 _ rfl;(try simp only [show (k56).sz=3 from rfl,Nat.mul_one,Nat.add_zero] at hx12_2);have hf12_2:=hfr12 2;(try simp only [show (k56).sz=3 from rfl,Nat.mul_one,Nat.add_zero] at hf12_2);clear hcl12 hcc12 hfr12 hM12)|((with_reducible refine gate_store (t:=56) (p:=21) rfl ?_);refine sx 56 21 (((w11.setCell ⟨go10,(x4_1:Int).toNat * 3,none⟩ (.int .i64 t176)).setCell ⟨go10,(x4_1:Int).toNat * 3 + 1,none⟩ (.int .i64 t177)).setCell ⟨go10,(x4_1:Int).toNat * 3 + 2,none⟩ (.int .i64 t178)) ?_;intro w13 hw;have hg:w11.grownBy w13 (some go10):=(by rw [hw];exact HP12.2);have hp_:Kd.R k56 56 w13 w.heap.size (fun _=>True) (.slice (some ⟨go10,0,none⟩) x3_1.length co10) y179:=(by rw [hw,Ny179.out];exact HP12.1);clear HP12;replace HO_3:=Aside0.mk (hp_);replace HB:=Aside0.mk ((by rw [hw];exact below_set (below_set (below_set (HB.out) GB10.out) GB10.out) GB10.out:Below w.heap.size w w13));clear hg hw hp_))
     go_roundg k1
     case measure=>have:=HK1.out;omega
     case rel=>exact ⟨(y179),(wrap64 (x4_1 + 1)),(by first|rfl|(simp;done)|(simp [*];done)),H',⟨by have:=HK1.out;omega⟩,⟨kr HO_3⟩,⟨bl⟩⟩
    ·rw [if_neg c6] at H
     have c6b0:decide (x4_1 < (l0.length:Int))=false:=decide_eq_false c6
     clear c6
     obtain rfl:=Option.some.inj H
     go_wp2
     go_ret
     exact ⟨_,er,kr HO_3,bl⟩
 ·rw [if_neg c2] at H
  exact absurd H (by simp)

/-! ### laws_toHeap: function 11 -/
def laws_toHeap.f (k:Nat) (l0_0:List (S84)) (a0_1:Int):Option ((List (S56)) × Int):=(laws_toDueS.f k l0_0).bind fun t183=>(some (t183,a0_1))
theorem laws_toHeap.mono:∀ a0 a1 k,LeO (laws_toHeap.f k a0 a1) (laws_toHeap.f (k + 1) a0 a1):=by
 intro a0 a1 k
 unfold laws_toHeap.f
 repeat' first
   | (with_reducible exact laws_toDueS.mono _ _)
   | (with_reducible exact LeO.refl _)
   | (with_reducible exact LeO.none _)
   | (with_reducible refine LeO.ite ?_ ?_)
   | (with_reducible refine LeO.bind ?_ (fun _=>?_))
   | exact laws_toDueS.mono _ _
   | exact LeO.none _
   | refine LeO.ite ?_ ?_
   | refine LeO.bind ?_ (fun _=>?_)
set_option maxHeartbeats 8000000 in
set_option maxRecDepth 100000 in
theorem laws_toHeap.calls (k:Nat) (A0_0:Option Addr) (c0_0:Nat) (l0_0:List (S84)) (a0_1:Int) (r1:List (S56)) (r2:Int) (w:World) (hr0_0:Kd.C k84 w A0_0 l0_0.length l0_0) (hc0_0:l0_0.length≤c0_0) (h:laws_toHeap.f k l0_0 a0_1=some (r1,r2)) :
  Calls Try.prog 11 #[.agg #[.slice A0_0 l0_0.length c0_0,.int .i64 a0_1]] w fun e w'=>∃ v0_:Value,e = .returned (.agg #[v0_,.int .i64 r2])∧Kd.R k56 56 w' w.heap.size (fun _=>True) v0_ r1∧Below w.heap.size w w':=by
 have hu24:=Try.underlying24
 have hu28:=Try.underlying28
 have HR0_0:=Aside0.mk hr0_0
 have HC0_0:=Aside0.mk hc0_0
 clear hr0_0 hc0_0
 have HB:=Aside0.mk (Below.refl w.heap.size w)
 have H:((laws_toDueS.f k l0_0).bind fun t183=>(some (t183,a0_1)))=some (r1,r2):=h
 clear h
 replace H:=Option.bind_eq_some_iff.mp H
 obtain ⟨t183,A20,H⟩:=H
 have A2:=Aside0.mk A20
 clear A20
 simp only [Option.some.injEq,Prod.mk.injEq] at H
 obtain ⟨rfl,rfl⟩:=H
 go_enter Try.func11,Try.ntmps11
 go_wp2_with (first|((with_reducible refine gate_dst (N:=1) rfl ?_);refine bx 1 #[.slice A0_0 l0_0.length c0_0,.int .i64 a0_1] 24 ?_;intro gb180 hg w3 hbox hb;have BK180:=Aside0.mk (hbox);have GW180:=Aside0.mk (bz hg:w.heap.size≤gb180);have GE180:=GW180;replace HB:=Aside0.mk (below_step bl hb);clear hb hbox hg)|((with_reducible refine gate_dst (N:=2) rfl ?_);refine bx 2 #[.slice none 0 0,.int .i64 0] 28 ?_;intro gb181 hg w4 hbox hb;have BK181:=Aside0.mk (hbox);have GW181:=Aside0.mk (bz hg:w.heap.size≤gb181);have GE181:=GW181;replace HB:=Aside0.mk (below_step bl hb);have NB180_181:=Aside0.mk (nl hg BK180:gb180≠gb181);have NB181_180:=Aside0.mk (nr hg BK180:gb181≠gb180);replace BK180:=Aside0.mk (blk_below (bk BK180) hb);clear hb hbox hg)|((with_reducible refine gate_dst (N:=3) rfl ?_);refine bx 3 #[.slice none 0 0,.int .i64 0] 28 ?_;intro gb182 hg w5 hbox hb;have BK182:=Aside0.mk (hbox);have GW182:=Aside0.mk (bz hg:w.heap.size≤gb182);have GE182:=GW182;replace HB:=Aside0.mk (below_step bl hb);have NB180_182:=Aside0.mk (nl hg BK180:gb180≠gb182);have NB182_180:=Aside0.mk (nr hg BK180:gb182≠gb180);replace BK180:=Aside0.mk (blk_below (bk BK180) hb);have NB181_182:=Aside0.mk (nl hg BK181:gb181≠gb182);have NB182_181:=Aside0.mk (nr hg BK181:gb182≠gb181);replace BK181:=Aside0.mk (blk_below (bk BK181) hb);clear hb hbox hg;have hnb6:=NB180_181.out;have hnc6:=NB181_180.out;have hnb7:=NB180_182.out;have hnc7:=NB182_180.out;obtain ⟨hcz8_0,hcz8_1,hfz8_0,hfz8_1⟩:=ck2 BK180.out)|((with_reducible refine gate_callee (f:=43) rfl ?_);refine gl (some 6) Try.func43 #[.slice A0_0 l0_0.length c0_0] ?_;(with_reducible refine (laws_toDueS.calls k _ _ l0_0 t183 _ ?side1 ?side2 A2.out).mono ?_);(case side1=>exact kc HR0_0);(case side2=>exact HC0_0.out);rintro e w9 ⟨v184,rfl,ho0,hb⟩;refine ⟨_,rfl,?_⟩;have HO185:=Aside0.mk (Kd.R_lower ho0 (below_size bl));replace BK180:=Aside0.mk (blk_below (bk BK180) hb);replace BK181:=Aside0.mk (blk_below (bk BK181) hb);replace BK182:=Aside0.mk (blk_below (bk BK182) hb);replace HB:=Aside0.mk (below_step bl hb);(try clear hb);(try clear hb2);(try clear hk);(try clear hi);(try clear ho0);obtain ⟨Ao10,co10,eo10⟩:=Kd.R_slice HO185.out;subst eo10;have hnb11:=NB182_181.out;have hnc11:=NB181_182.out;obtain ⟨hcz12_0,hcz12_1,hfz12_0,hfz12_1⟩:=ck2 BK182.out;obtain ⟨hcz13_0,hcz13_1,hfz13_0,hfz13_1⟩:=ck2 BK180.out;obtain ⟨hcz14_0,hcz14_1,hfz14_0,hfz14_1⟩:=ck2 BK181.out))
 refine bodyPost_ret (results_cell_row rfl _ _ gb181 28 #[.slice Ao10 t183.length co10,.int .i64 a0_1] (0,0) _ rfl (by (with_reducible repeat (first|refine blk_drewN ?_ _|refine blk_drew ?_|refine blk_alloc ?_ _));refine blk_put (cs:=#[.slice Ao10 t183.length co10,.int .i64 0]) ?_ 1 _ rfl;(with_reducible repeat (first|refine blk_drewN ?_ _|refine blk_drew ?_|refine blk_alloc ?_ _));refine blk_put (cs:=#[.slice none 0 0,.int .i64 0]) ?_ 0 _ rfl;(with_reducible repeat (first|refine blk_drewN ?_ _|refine blk_drew ?_|refine blk_alloc ?_ _));refine blk_far ?_ NB181_182.out _;(with_reducible repeat (first|refine blk_drewN ?_ _|refine blk_drew ?_|refine blk_alloc ?_ _));refine blk_far ?_ NB181_182.out _;(with_reducible repeat (first|refine blk_drewN ?_ _|refine blk_drew ?_|refine blk_alloc ?_ _));exact BK181.out) Try.underlying28 rfl (by kernel_rfl)) rfl ?_
 exact ⟨_,er,by (with_reducible repeat (first|apply Kd.R_alloc|apply Kd.R_drewN|apply Kd.R_drew));exact Kd.R_mono (Kd.R_far (p:=⟨gb181,1,none⟩) (Kd.R_far (p:=⟨gb181,0,none⟩) (Kd.R_far (p:=⟨gb182,1,none⟩) (Kd.R_far (p:=⟨gb182,0,none⟩) (Kd.R_types (Kd.R_types HO185.out BK182.out (by decide)) BK181.out (by decide)) (fun _ hk=>hk.1.2) (.slice Ao10 t183.length co10)) (fun _ hk=>hk.1.2) (.int .i64 a0_1)) (fun _ hk=>hk.2) (.slice Ao10 t183.length co10)) (fun _ hk=>hk.2) (.int .i64 a0_1)) (fun _ hk=>trivial),bl⟩

/-! ### impl_Due_70: function 70 -/
def impl_Due_70.f (l0:List (S56)):Option ((List (S56))):=(some (([]:List (S56)):List (S56))).bind fun y186=>(if y186.length + l0.length < 5864062014805 then (some (y186 ++ l0)) else (none))
set_option maxHeartbeats 8000000 in
set_option maxRecDepth 100000 in
theorem impl_Due_70.calls (A0:Option Addr) (c0:Nat) (l0:List (S56)) (r:List (S56)) (w:World) (hr0:Kd.C k56 w A0 l0.length l0) (hc0:l0.length≤c0) (h:impl_Due_70.f l0=some r) :
  Calls Try.prog 70 #[.slice A0 l0.length c0] w fun e w'=>∃ v0_:Value,e = .returned (v0_)∧Kd.R k56 56 w' w.heap.size (fun _=>True) v0_ r∧Below w.heap.size w w':=by
 have HR0:=Aside0.mk hr0
 have HC0:=Aside0.mk hc0
 clear hr0 hc0
 have HB:=Aside0.mk (Below.refl w.heap.size w)
 have H:((some (([]:List (S56)):List (S56))).bind fun y186=>(if y186.length + l0.length < 5864062014805 then (some (y186 ++ l0)) else (none)))=some r:=h
 clear h
 obtain ⟨y186,hy186⟩:∃ y_:List (S56),y_=(([]:List (S56))):=⟨_,rfl⟩
 replace H:(if y186.length + l0.length < 5864062014805 then (some (y186 ++ l0)) else (none))=some r:=by first|(rw [hy186];with_reducible exact H)|(have H2_:=(Option.bind_some _ _).symm.trans H;rw [hy186];with_reducible exact H2_)|(have H2_:=(Option.bind_some _ _).symm.trans H;with_reducible exact H2_)|with_reducible exact H|(rw [hy186];exact H)|exact H
 have Ny186:=Aside0.mk hy186
 clear hy186
 by_cases c2:y186.length + l0.length < 5864062014805
 ·rw [if_pos c2] at H
  have LMc2:=Aside0.mk c2
  clear c2
  obtain ⟨y189,hy189⟩:∃ y_:List (S56),y_=(y186 ++ l0):=⟨_,rfl⟩
  replace H:(some y189)=some r:=by first|(rw [hy189];with_reducible exact H)|(have H2_:=(Option.bind_some _ _).symm.trans H;rw [hy189];with_reducible exact H2_)|(have H2_:=(Option.bind_some _ _).symm.trans H;with_reducible exact H2_)|with_reducible exact H|(rw [hy189];exact H)|exact H
  have Ny189:=Aside0.mk hy189
  clear hy189
  obtain rfl:=Option.some.inj H
  cases A0 with
  | none =>
   have hnil:∀ w:World,(Go.binOp .eql 26 (.slice none l0.length c0) (.slice none 0 0)).run Try.prog w = .ok (.bool true) w:=fun w=>Go.Lib.run_eql_slice_nil w 26 56 none _ _ 0 0 Try.underlying26
   have hl0:l0 = []:=by
    rcases Nat.eq_zero_or_pos l0.length with h0|h0
    ·exact List.eq_nil_of_length_eq_zero h0
    ·obtain ⟨ad,h1,_⟩:=HR0.out.2.2 h0
     cases h1
   have hy:y189 = []:=by rw [Ny189.out,Ny186.out,hl0];rfl
   clear hl0
   have HY:=Aside0.mk hy
   clear hy
   go_enter Try.func70,Try.ntmps70
   go_wp2
   go_ret
   exact ⟨_,rfl,by rw [HY.out];exact Kd.R_nil _ _ _ _ _,HB.out⟩
  | some ad =>
   have hnil:∀ w:World,(Go.binOp .eql 26 (.slice (some ad) l0.length c0) (.slice none 0 0)).run Try.prog w = .ok (.bool false) w:=fun w=>Go.Lib.run_eql_slice_nil w 26 56 (some ad) _ _ 0 0 Try.underlying26
   go_enter Try.func70,Try.ntmps70
   go_wp2_with (first|((with_reducible refine gate_dst (N:=5) rfl ?_);refine Kd.R_lit k56 _ 56 ?hg (N:=5) ?hd (xs:=([]:List (S56))) (inner:=[]) (ok:=fun _=>True) (okp:=fun _=>True) ?hr ?hp (fun _ hk=>hk) trivial (Below.refl _ _) (Nat.le_refl _) (by simp) ?_;(case hd=>rfl);(case hg=>rfl);(case hr=>first|(go_simp;done)|(go_simp;rfl));(case hp=>exact (Reps.none _ _));intro v187 w3 ho4 hb hg_ hnew_;clear hg_ hnew_;(first|rw [← Ny186.out] at ho4|(simp only [Int.reduceToNat] at ho4;rw [← Ny186.out] at ho4));have HO188:=Aside0.mk (Kd.R_lower ho4 (below_size bl));replace HB:=Aside0.mk (below_step bl hb);clear hb ho4)|((with_reducible refine gate_builtin (b:=.append) (xs:=#[.tmp 5,.tmp 6]) rfl ?_);at_builtin;refine Kd.R_append_rows k56 (w0:=w) w.heap.size rfl (.tmp 5) (.tmp 6) 26 56 (.agg #[(.int .i64 0),(.int .i64 0),(.int .i64 0)]) 24 rfl Try.underlying26 info56 rfl (by decide) (by omega) v187 y186 l0 _ _ _ (fun _=>True) (fun _=>False) rfl rfl ?aO ?aR (fun _ _ h=>h) (fun _ h=>h.elim) ?aF ?aB ?aS ?aL ?_;(case aR=>exact kc HR0);(case aB=>exact bl);(case aF=>exact (fun _ _=>trivial));(case aO=>exact (kr HO188));(case aS=>exact (below_size bl));(case aL=>have:=LMc2.out;omega);intro v190 w5 ho hb hg hat;rw [← Ny189.out] at ho;replace HB:=Aside0.mk (hb);have HO191:=Aside0.mk (ho);clear HO188;clear ho hb hg hat))
   go_ret
   exact ⟨_,er,kr HO191,bl⟩
 ·rw [if_neg c2] at H
  exact absurd H (by simp)

/-! ### impl_ownHeap: function 44 -/
def impl_ownHeap.f (l0_0:List (S56)) (a0_1:Int):Option ((List (S56)) × Int):=(impl_Due_70.f l0_0).bind fun t194=>(some (t194,a0_1))
set_option maxHeartbeats 8000000 in
set_option maxRecDepth 100000 in
theorem impl_ownHeap.calls (A0_0:Option Addr) (c0_0:Nat) (l0_0:List (S56)) (a0_1:Int) (r1:List (S56)) (r2:Int) (w:World) (hr0_0:Kd.C k56 w A0_0 l0_0.length l0_0) (hc0_0:l0_0.length≤c0_0) (h:impl_ownHeap.f l0_0 a0_1=some (r1,r2)) :
  Calls Try.prog 44 #[.agg #[.slice A0_0 l0_0.length c0_0,.int .i64 a0_1]] w fun e w'=>∃ v0_:Value,e = .returned (.agg #[v0_,.int .i64 r2])∧Kd.R k56 56 w' w.heap.size (fun _=>True) v0_ r1∧Below w.heap.size w w':=by
 have hu28:=Try.underlying28
 have HR0_0:=Aside0.mk hr0_0
 have HC0_0:=Aside0.mk hc0_0
 clear hr0_0 hc0_0
 have HB:=Aside0.mk (Below.refl w.heap.size w)
 have H:((impl_Due_70.f l0_0).bind fun t194=>(some (t194,a0_1)))=some (r1,r2):=h
 clear h
 replace H:=Option.bind_eq_some_iff.mp H
 obtain ⟨t194,A20,H⟩:=H
 have A2:=Aside0.mk A20
 clear A20
 simp only [Option.some.injEq,Prod.mk.injEq] at H
 obtain ⟨rfl,rfl⟩:=H
 go_enter Try.func44,Try.ntmps44
 go_wp2_with (first|((with_reducible refine gate_dst (N:=1) rfl ?_);refine bx 1 #[.slice A0_0 l0_0.length c0_0,.int .i64 a0_1] 28 ?_;intro gb192 hg w3 hbox hb;have BK192:=Aside0.mk (hbox);have GW192:=Aside0.mk (bz hg:w.heap.size≤gb192);have GE192:=GW192;replace HB:=Aside0.mk (below_step bl hb);clear hb hbox hg)|((with_reducible refine gate_dst (N:=2) rfl ?_);refine bx 2 #[.slice none 0 0,.int .i64 0] 28 ?_;intro gb193 hg w4 hbox hb;have BK193:=Aside0.mk (hbox);have GW193:=Aside0.mk (bz hg:w.heap.size≤gb193);have GE193:=GW193;replace HB:=Aside0.mk (below_step bl hb);have NB192_193:=Aside0.mk (nl hg BK192:gb192≠gb193);have NB193_192:=Aside0.mk (nr hg BK192:gb193≠gb192);replace BK192:=Aside0.mk (blk_below (bk BK192) hb);clear hb hbox hg;have hnb5:=NB192_193.out;have hnc5:=NB193_192.out;obtain ⟨hcz6_0,hcz6_1,hfz6_0,hfz6_1⟩:=ck2 BK192.out)|((with_reducible refine gate_callee (f:=70) rfl ?_);refine gl (some 5) Try.func70 #[.slice A0_0 l0_0.length c0_0] ?_;(with_reducible refine (impl_Due_70.calls _ _ l0_0 t194 _ ?side1 ?side2 A2.out).mono ?_);(case side1=>exact kc HR0_0);(case side2=>exact HC0_0.out);rintro e w7 ⟨v195,rfl,ho0,hb⟩;refine ⟨_,rfl,?_⟩;have HO196:=Aside0.mk (Kd.R_lower ho0 (below_size bl));replace BK192:=Aside0.mk (blk_below (bk BK192) hb);replace BK193:=Aside0.mk (blk_below (bk BK193) hb);replace HB:=Aside0.mk (below_step bl hb);(try clear hb);(try clear hb2);(try clear hk);(try clear hi);(try clear ho0);obtain ⟨Ao8,co8,eo8⟩:=Kd.R_slice HO196.out;subst eo8;obtain ⟨hcz9_0,hcz9_1,hfz9_0,hfz9_1⟩:=ck2 BK192.out;obtain ⟨hcz10_0,hcz10_1,hfz10_0,hfz10_1⟩:=ck2 BK193.out))
 refine bodyPost_ret (results_cell_row rfl _ _ gb193 28 #[.slice Ao8 t194.length co8,.int .i64 a0_1] (0,0) _ rfl (by (with_reducible repeat (first|refine blk_drewN ?_ _|refine blk_drew ?_|refine blk_alloc ?_ _));refine blk_put (cs:=#[.slice Ao8 t194.length co8,.int .i64 0]) ?_ 1 _ rfl;(with_reducible repeat (first|refine blk_drewN ?_ _|refine blk_drew ?_|refine blk_alloc ?_ _));refine blk_put (cs:=#[.slice none 0 0,.int .i64 0]) ?_ 0 _ rfl;(with_reducible repeat (first|refine blk_drewN ?_ _|refine blk_drew ?_|refine blk_alloc ?_ _));refine blk_far ?_ NB193_192.out _;(with_reducible repeat (first|refine blk_drewN ?_ _|refine blk_drew ?_|refine blk_alloc ?_ _));exact BK193.out) Try.underlying28 rfl (by kernel_rfl)) rfl ?_
 exact ⟨_,er,by (with_reducible repeat (first|apply Kd.R_alloc|apply Kd.R_drewN|apply Kd.R_drew));exact Kd.R_mono (Kd.R_far (p:=⟨gb193,1,none⟩) (Kd.R_far (p:=⟨gb193,0,none⟩) (Kd.R_far (p:=⟨gb192,0,none⟩) (Kd.R_types (Kd.R_types HO196.out BK192.out (by decide)) BK193.out (by decide)) (fun _ hk=>hk.1.2) (.slice Ao8 t194.length co8)) (fun _ hk=>hk.2) (.slice Ao8 t194.length co8)) (fun _ hk=>hk.2) (.int .i64 a0_1)) (fun _ hk=>trivial),bl⟩

/-! ### impl_Due_71: function 71: the first place that a test takes -/
set_option maxHeartbeats 8000000 in
set_option maxRecDepth 100000 in
theorem impl_Due_71.any (p:S56→Bool) (fn:Nat) (lb:Array Value) (A0:Option Addr) (c0:Nat) (l0:List S56) (w:World) (hr0:Kd.C k56 w A0 l0.length l0) (hc0:l0.length≤c0)
  (eg:∀ args w,(callFunc fn args).run Try.prog w = .ok (.enter fn args) w)
  (hp:∀ (W:World) (x:S56),Below w.heap.size w W→Calls Try.prog fn (#[.agg #[.int .i64 x.f0,.int .i64 x.f1,.int .i64 x.f2]] ++ lb) W fun e w'=>e = .returned (.bool (p x))∧Below W.heap.size W w') :
  Calls Try.prog 71 #[.slice A0 l0.length c0,.func (.func fn) #[] lb] w fun e w'=>e = .returned (.int .i64 (findI p l0 0))∧Below w.heap.size w w':=by
 have HR0:=Aside0.mk hr0
 have HC0:=Aside0.mk hc0
 have hlen:l0.length≤9223372036854775807:=hr0.2.1
 clear hr0 hc0
 obtain ⟨R,hR⟩:∃ R,R=findI p l0 0:=⟨_,rfl⟩
 rw [← hR]
 have HR':=Aside0.mk hR
 clear hR
 go_enter Try.func71,Try.ntmps71
 go_wp2
 go_loopg [5,8] l0.length (fun gg _ v8 w'=>∃ x8_1:Int,v8 = .int .i64 x8_1∧Aside0 (0≤x8_1∧x8_1≤l0.length∧l0.length - x8_1.toNat≤gg)∧Aside0 (R=findI p (l0.drop x8_1.toNat) x8_1)∧Aside0 (Below w.heap.size w w'))
 case atStart=>exact ⟨0,rfl,⟨by omega,by omega,by omega⟩,⟨HR'.out⟩,⟨Below.refl _ _⟩⟩
 case round =>
  clear HR'
  obtain ⟨x8_1,rfl,HG,HA,HB⟩:=hrel
  have HL:=Aside0.mk hlen
  clear hlen
  by_cases c3:x8_1 < (l0.length:Int)
  ·have c3b0:decide (x8_1 < (l0.length:Int))=true:=decide_eq_true c3
   have p124:0≤x8_1:=HG.out.1
   have HRr:=Aside0.mk (Kd.C_below HR0.out HB.out)
   have H:=HA.out
   have hlt:x8_1.toNat < l0.length:=by omega
   have hcons:l0.drop x8_1.toNat=l0[x8_1.toNat] :: l0.drop (x8_1.toNat + 1):=List.drop_eq_getElem_cons hlt
   rw [hcons] at H
   obtain ⟨ad,e,hx0,hx1,hx2⟩:=at_T56 HRr.out x8_1 p124 c3
   cases e
   have hrd:rd_T56 l0 x8_1=l0[x8_1.toNat]:=by unfold rd_T56;rw [List.getD_eq_getElem?_getD,List.getElem?_eq_getElem hlt];rfl
   rw [hrd] at hx0 hx1 hx2
   have hcall:=hp wr l0[x8_1.toNat] HB.out
   clear hcons hrd
   generalize l0[x8_1.toNat]=x at H hx0 hx1 hx2 hcall
   have H':=Aside0.mk H
   have hw:wrap64 (x8_1 + 1)=x8_1 + 1:=by have:=HL.out;unfold wrap64;omega
   have HW:=Aside0.mk hw
   have HX:=Aside0.mk hlt
   clear H hp HRr hw hlt HA
   replace p124:=eq_true p124
   replace c3:=eq_true c3
   cases hq:p x with
   | true =>
    rw [hq] at hcall
    have HQ:=Aside0.mk hq
    clear hq
    go_wp2_with fail
    refine hcall.mono ?_
    rintro e w' ⟨rfl,hb'⟩
    go_wp2
    go_ret
    exact ⟨by rw [H'.out,findI,if_pos HQ.out];rfl,below_step HB.out hb'⟩
   | false =>
    rw [hq] at hcall
    have HQ:=Aside0.mk hq
    clear hq
    go_wp2_with fail
    refine hcall.mono ?_
    rintro e w' ⟨rfl,hb'⟩
    go_wp2
    go_roundg (l0.length - (x8_1.toNat + 1))
    case measure=>have:=HG.out;have:=HX.out;omega
    case rel=>exact ⟨wrap64 (x8_1 + 1),rfl,⟨by have:=HG.out;have:=HX.out;rw [HW.out];omega⟩,⟨by rw [H'.out,findI,if_neg (by rw [HQ.out];decide),HW.out,show (x8_1 + 1).toNat=x8_1.toNat + 1 by have:=HG.out;omega]⟩,⟨below_step HB.out hb'⟩⟩
  ·have hd:decide (x8_1 < (l0.length:Int))=false:=decide_eq_false c3
   have H:=HA.out
   rw [List.drop_eq_nil_of_le (by omega)] at H
   have H':=Aside0.mk H
   clear H hp c3
   go_wp2
   go_ret
   exact ⟨by rw [H'.out];rfl,HB.out⟩

/-! ### impl_Heap_place: function 45 -/
theorem impl_Heap_place.test (b0:Int) (b1:Int) (b2:Int) (x:Int) (g:Nat) (w:World) (hc:w.cell? ⟨g,0,none⟩=some (.int .i64 x)) (hg:g < w.heap.size) :
  Calls Try.prog 72 #[.agg #[.int .i64 b0,.int .i64 b1,.int .i64 b2],.pointer (some ⟨g,0,none⟩)] w fun e w'=>e = .returned (.bool (b2 == x))∧Below w.heap.size w w':=by
 have hu:=Try.underlying56
 go_enter Try.func72,Try.ntmps72
 go_wp2
 go_ret
 exact ⟨rfl,(Below.refl _ _).alloc (Nat.le_refl _) _⟩
def impl_Heap_place.f (l0_0:List (S56)) (a0_1:Int) (a1:Int):Option (Int):=some (findI (fun d:S56=>d.f2 == a1) l0_0 0)
set_option maxHeartbeats 8000000 in
set_option maxRecDepth 100000 in
theorem impl_Heap_place.calls (A0_0:Option Addr) (c0_0:Nat) (l0_0:List (S56)) (a0_1:Int) (a1:Int) (r:Int) (w:World) (hr0_0:Kd.C k56 w A0_0 l0_0.length l0_0) (hc0_0:l0_0.length≤c0_0) (h:impl_Heap_place.f l0_0 a0_1 a1=some r) :
  Calls Try.prog 45 #[.agg #[.slice A0_0 l0_0.length c0_0,.int .i64 a0_1],.int .i64 a1] w fun e w'=>e = .returned (.int .i64 r)∧Below w.heap.size w w':=by
 obtain rfl:=Option.some.inj h
 have hu28:=Try.underlying28
 have HR0:=Aside0.mk hr0_0
 have HC0:=Aside0.mk hc0_0
 clear hr0_0 hc0_0 h
 go_enter Try.func45,Try.ntmps45
 go_wp2_with fail
 refine (impl_Due_71.any (fun d:S56=>d.f2 == a1) 72 #[.pointer (some ⟨w.heap.size + 1,0,none⟩)] A0_0 c0_0 l0_0 _ (by repeat (first|exact HR0.out|(with_reducible refine Kd.C_alloc ?_ _))) HC0.out (enters_of' Try.func72 (by kernel_rfl) rfl) (fun W x hb=>(impl_Heap_place.test x.f0 x.f1 x.f2 a1 (w.heap.size + 1) W ?cell ?lt))).mono ?_
 case cell=>exact (hb.cell (p:=⟨w.heap.size + 1,0,none⟩) (by simp)).trans (by simp)
 case lt=>have:=hb.size;simp at this;omega
 rintro e w' ⟨rfl,hb⟩
 go_wp2
 go_ret
 exact ⟨rfl,((((Below.refl _ _).alloc (Nat.le_refl _) _).alloc (by simp) _).trans (hb.mono (by simp;omega)))⟩

/-! ### impl_in: function 58 -/
def impl_in.f (a0:Int) (a1:Int) (a2:Int):Option (Bool):=if a0 ≥ a1 then (some (decide (a0≤a2))) else (some false)
set_option maxHeartbeats 8000000 in
set_option maxRecDepth 100000 in
theorem impl_in.calls (a0:Int) (a1:Int) (a2:Int) (r:Bool) (w:World) (h:impl_in.f a0 a1 a2=some r) :
  Calls Try.prog 58 #[.int .i64 a0,.int .i64 a1,.int .i64 a2] w fun e w'=>e = .returned (.bool r)∧Drawn0 w w':=by
 have H:(if a0 ≥ a1 then (some (decide (a0≤a2))) else (some false))=some r:=h
 clear h
 by_cases c4:a0 ≥ a1
 ·rw [if_pos c4] at H
  have c4b0:decide (a1≤a0)=true:=decide_eq_true c4
  clear c4
  obtain rfl:=Option.some.inj H
  go_enter Try.func58,Try.ntmps58
  go_wp2
  go_ret
  exact ⟨by first|rfl|(simp;done)|(simp [*];done),by repeat (first|exact Drawn0.refl _|apply Drawn0.step)⟩
 ·rw [if_neg c4] at H
  have c4b0:decide (a1≤a0)=false:=decide_eq_false c4
  clear c4
  obtain rfl:=Option.some.inj H
  go_enter Try.func58,Try.ntmps58
  go_wp2
  go_ret
  exact ⟨by first|rfl|(simp;done)|(simp [*];done),by repeat (first|exact Drawn0.refl _|apply Drawn0.step)⟩

/-! ### impl_TickOk: function 53 -/
def impl_TickOk.f (a0:Int):Option (Bool):=(impl_in.f a0 0 1000000000).bind fun t197=>(some t197)
set_option maxHeartbeats 8000000 in
set_option maxRecDepth 100000 in
theorem impl_TickOk.calls (a0:Int) (r:Bool) (w:World) (h:impl_TickOk.f a0=some r) :
  Calls Try.prog 53 #[.int .i64 a0] w fun e w'=>e = .returned (.bool r)∧Drawn0 w w':=by
 have H:((impl_in.f a0 0 1000000000).bind fun t197=>(some t197))=some r:=h
 clear h
 replace H:=Option.bind_eq_some_iff.mp H
 obtain ⟨t197,A20,H⟩:=H
 have A2:=Aside0.mk A20
 clear A20
 obtain rfl:=Option.some.inj H
 go_enter Try.func53,Try.ntmps53
 go_wp2_with (first|((with_reducible refine gate_callee (f:=58) rfl ?_);refine gl (some 4) Try.func58 #[.int .i64 a0,.int .i64 0,.int .i64 1000000000] ?_;(with_reducible refine (impl_in.calls a0 0 1000000000 t197 _ A2.out).mono ?_);rintro e w' ⟨rfl,⟨nd,rfl⟩⟩;refine ⟨_,rfl,?_⟩))
 go_ret
 exact ⟨by first|rfl|(simp;done)|(simp [*];done),by repeat (first|exact Drawn0.refl _|apply Drawn0.step)⟩

end Go.Proofs.Ytdffkcbaijbhoaa.PFnExactCancelDue
