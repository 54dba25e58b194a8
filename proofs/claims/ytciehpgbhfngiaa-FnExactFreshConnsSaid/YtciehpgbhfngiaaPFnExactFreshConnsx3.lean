/- Contracts of functions of the given program: what each call answers. Written by a program of this session, out of the text of the functions. -/
import Derived.Test.YtciehpgbhfngiaaPFnExactFreshConnsx0
import Derived.Test.YtciehpgbhfngiaaPFnExactFreshConnsx2
import Derived.Test.YtciehpgbhfngiaaPrs
namespace Go.Proofs.Ytciehpgbhfngiaa.PFnExactFreshConns
open Go.RowKit Go.Proofs.YtciehpgbhfngiaaW.PrintWords Go.Proofs.YtciehpgbhfngiaaW.PrintLast Go.Proofs.YtciehpgbhfngiaaW.PrintMore Go.Proofs.Ytciehpgbhfngiaa.Giv Go.Proofs.Ytciehpgbhfngiaa.Prs
attribute [local go_sem] max2_int min2_int max_two min_two max_three min_three max_four min_four   -- for this text's walks alone
set_option linter.unusedVariables false
set_option linter.unusedSimpArgs false

/-! ### spec_FreshConns: function 10 -/
mutual
def spec_FreshConns.l0:Nat→List (S30)→Int→Int→Option (Bool)
 | 0,_,_,_=>none
 | k + 1,x0,x3,x4=>if x4 < (x0.length:Int) then (if 0≤x4 then (if ((rd_T30 x0 x4).f0) > 6 then (spec_FreshConns.j1 k x0 x3 x4 (((rd_T30 x0 x4).f0) != 10) ((rd_T30 x0 x4).f0) ((rd_T30 x0 x4).f1) ((rd_T30 x0 x4).f2)) else (spec_FreshConns.j1 k x0 x3 x4 false ((rd_T30 x0 x4).f0) ((rd_T30 x0 x4).f1) ((rd_T30 x0 x4).f2))) else (none)) else (some true)
def spec_FreshConns.j1:Nat→List (S30)→Int→Int→Bool→Int→Int→Int→Option (Bool)
 | 0,_,_,_,_,_,_,_=>none
 | k + 1,x0,x3,x4,x28,x132000,x132001,x132002=>if x28=true then (spec_FreshConns.l0 k x0 x3 (wrap64 (x4 + 1))) else (spec_FreshConns.l1 k x0 x3 x4 0 0 x132000 x132001 x132002)
def spec_FreshConns.l1:Nat→List (S30)→Int→Int→Int→Int→Int→Int→Int→Option (Bool)
 | 0,_,_,_,_,_,_,_,_=>none
 | k + 1,x0,x3,x4,x6,x7,x132000,x132001,x132002=>if x7 < x4 then (if 0≤x7 then (if x7 < (x0.length:Int) then (if ((rd_T30 x0 x7).f2)=x132002 then (if ((rd_T30 x0 x7).f0)=0 then (spec_FreshConns.l1 k x0 x3 x4 1 (wrap64 (x7 + 1)) x132000 x132001 x132002) else (if ((rd_T30 x0 x7).f0)=1 then (spec_FreshConns.l1 k x0 x3 x4 2 (wrap64 (x7 + 1)) x132000 x132001 x132002) else (if ((rd_T30 x0 x7).f0)=2 then (spec_FreshConns.l1 k x0 x3 x4 3 (wrap64 (x7 + 1)) x132000 x132001 x132002) else (if ((rd_T30 x0 x7).f0)=5 then (spec_FreshConns.l1 k x0 x3 x4 3 (wrap64 (x7 + 1)) x132000 x132001 x132002) else (spec_FreshConns.l1 k x0 x3 x4 x6 (wrap64 (x7 + 1)) x132000 x132001 x132002))))) else (spec_FreshConns.l1 k x0 x3 x4 x6 (wrap64 (x7 + 1)) x132000 x132001 x132002)) else (none)) else (none)) else (if x132000=0 then (if x6=0 then (if x132002≤x3 then (some false) else (spec_FreshConns.l0 k x0 x132002 (wrap64 (x4 + 1)))) else (some false)) else (if x132000=1 then (spec_FreshConns.j3 k x0 x3 x4 x6 x132000 (x132000 == 1)) else (spec_FreshConns.j3 k x0 x3 x4 x6 x132000 (x132000 == 2))))
def spec_FreshConns.j3:Nat→List (S30)→Int→Int→Int→Int→Bool→Option (Bool)
 | 0,_,_,_,_,_,_=>none
 | k + 1,x0,x3,x4,x6,x55,x74=>if x74=true then (if x6=1 then (spec_FreshConns.l0 k x0 x3 (wrap64 (x4 + 1))) else (some false)) else (if x55=3 then (spec_FreshConns.j4 k x0 x3 x4 x6 (x55 == 3)) else (spec_FreshConns.j4 k x0 x3 x4 x6 (x55 == 6)))
def spec_FreshConns.j4:Nat→List (S30)→Int→Int→Int→Bool→Option (Bool)
 | 0,_,_,_,_,_=>none
 | k + 1,x0,x3,x4,x6,x79=>if x79=true then (if x6=2 then (spec_FreshConns.l0 k x0 x3 (wrap64 (x4 + 1))) else (some false)) else (if x6=0 then (some false) else (if x6=3 then (some false) else (spec_FreshConns.l0 k x0 x3 (wrap64 (x4 + 1)))))
end
def spec_FreshConns.f (k:Nat) (l0:List (S30)):Option (Bool):=(spec_LogOk.f k l0).bind fun t129=>(if t129=true then (spec_FreshConns.l0 k l0 0 0) else (some false))
theorem spec_FreshConns.mono_l:∀ k,(∀ y0 y1 y2,LeO (spec_FreshConns.l0 k y0 y1 y2) (spec_FreshConns.l0 (k + 1) y0 y1 y2))∧(∀ y0 y1 y2 y3 y4 y5 y6,LeO (spec_FreshConns.j1 k y0 y1 y2 y3 y4 y5 y6) (spec_FreshConns.j1 (k + 1) y0 y1 y2 y3 y4 y5 y6))∧(∀ y0 y1 y2 y3 y4 y5 y6 y7,LeO (spec_FreshConns.l1 k y0 y1 y2 y3 y4 y5 y6 y7) (spec_FreshConns.l1 (k + 1) y0 y1 y2 y3 y4 y5 y6 y7))∧(∀ y0 y1 y2 y3 y4 y5,LeO (spec_FreshConns.j3 k y0 y1 y2 y3 y4 y5) (spec_FreshConns.j3 (k + 1) y0 y1 y2 y3 y4 y5))∧(∀ y0 y1 y2 y3 y4,LeO (spec_FreshConns.j4 k y0 y1 y2 y3 y4) (spec_FreshConns.j4 (k + 1) y0 y1 y2 y3 y4))
 | 0=>⟨fun _ _ _ r h=>by simp [spec_FreshConns.l0] at h,fun _ _ _ _ _ _ _ r h=>by simp [spec_FreshConns.j1] at h,fun _ _ _ _ _ _ _ _ r h=>by simp [spec_FreshConns.l1] at h,fun _ _ _ _ _ _ r h=>by simp [spec_FreshConns.j3] at h,fun _ _ _ _ _ r h=>by simp [spec_FreshConns.j4] at h⟩
 | k + 1=>by
  obtain ⟨ih0,ih1,ih2,ih3,ih4⟩:=spec_FreshConns.mono_l k
  refine ⟨?_,?_,?_,?_,?_⟩
  ·intro y0 y1 y2
   unfold spec_FreshConns.l0
   repeat' first
   | (with_reducible exact ih0 _ _ _)
   | (with_reducible exact ih1 _ _ _ _ _ _ _)
   | (with_reducible exact ih2 _ _ _ _ _ _ _ _)
   | (with_reducible exact ih3 _ _ _ _ _ _)
   | (with_reducible exact ih4 _ _ _ _ _)
   | (with_reducible exact spec_LogOk.mono _ _)
   | (with_reducible exact LeO.refl _)
   | (with_reducible exact LeO.none _)
   | (with_reducible refine LeO.ite ?_ ?_)
   | (with_reducible refine LeO.bind ?_ (fun _=>?_))
   | exact ih0 _ _ _
   | exact ih1 _ _ _ _ _ _ _
   | exact ih2 _ _ _ _ _ _ _ _
   | exact ih3 _ _ _ _ _ _
   | exact ih4 _ _ _ _ _
   | exact spec_LogOk.mono _ _
   | exact LeO.none _
   | refine LeO.ite ?_ ?_
   | refine LeO.bind ?_ (fun _=>?_)
  ·intro y0 y1 y2 y3 y4 y5 y6
   unfold spec_FreshConns.j1
   repeat' first
   | (with_reducible exact ih0 _ _ _)
   | (with_reducible exact ih1 _ _ _ _ _ _ _)
   | (with_reducible exact ih2 _ _ _ _ _ _ _ _)
   | (with_reducible exact ih3 _ _ _ _ _ _)
   | (with_reducible exact ih4 _ _ _ _ _)
   | (with_reducible exact spec_LogOk.mono _ _)
   | (with_reducible exact LeO.refl _)
   | (with_reducible exact LeO.none _)
   | (with_reducible refine LeO.ite ?_ ?_)
   | (with_reducible refine LeO.bind ?_ (fun _=>?_))
   | exact ih0 _ _ _
   | exact ih1 _ _ _ _ _ _ _
   | exact ih2 _ _ _ _ _ _ _ _
   | exact ih3 _ _ _ _ _ _
   | exact ih4 _ _ _ _ _
   | exact spec_LogOk.mono _ _
   | exact LeO.none _
   | refine LeO.ite ?_ ?_
   | refine LeO.bind ?_ (fun _=>?_)
  ·intro y0 y1 y2 y3 y4 y5 y6 y7
   unfold spec_FreshConns.l1
   repeat' first
   | (with_reducible exact ih0 _ _ _)
   | (with_reducible exact ih1 _ _ _ _ _ _ _)
   | (with_reducible exact ih2 _ _ _ _ _ _ _ _)
   | (with_reducible exact ih3 _ _ _ _ _ _)
   | (with_reducible exact ih4 _ _ _ _ _)
   | (with_reducible exact spec_LogOk.mono _ _)
   | (with_reducible exact LeO.refl _)
   | (with_reducible exact LeO.none _)
   | (with_reducible refine LeO.ite ?_ ?_)
   | (with_reducible refine LeO.bind ?_ (fun _=>?_))
   | exact ih0 _ _ _
   | exact ih1 _ _ _ _ _ _ _
   | exact ih2 _ _ _ _ _ _ _ _
   | exact ih3 _ _ _ _ _ _
   | exact ih4 _ _ _ _ _
   | exact spec_LogOk.mono _ _
   | exact LeO.none _
   | refine LeO.ite ?_ ?_
   | refine LeO.bind ?_ (fun _=>?_)
  ·intro y0 y1 y2 y3 y4 y5
   unfold spec_FreshConns.j3
   repeat' first
   | (with_reducible exact ih0 _ _ _)
   | (with_reducible exact ih1 _ _ _ _ _ _ _)
   | (with_reducible exact ih2 _ _ _ _ _ _ _ _)
   | (with_reducible exact ih3 _ _ _ _ _ _)
   | (with_reducible exact ih4 _ _ _ _ _)
   | (with_reducible exact spec_LogOk.mono _ _)
   | (with_reducible exact LeO.refl _)
   | (with_reducible exact LeO.none _)
   | (with_reducible refine LeO.ite ?_ ?_)
   | (with_reducible refine LeO.bind ?_ (fun _=>?_))
   | exact ih0 _ _ _
   | exact ih1 _ _ _ _ _ _ _
   | exact ih2 _ _ _ _ _ _ _ _
   | exact ih3 _ _ _ _ _ _
   | exact ih4 _ _ _ _ _
   | exact spec_LogOk.mono _ _
   | exact LeO.none _
   | refine LeO.ite ?_ ?_
   | refine LeO.bind ?_ (fun _=>?_)
  ·intro y0 y1 y2 y3 y4
   unfold spec_FreshConns.j4
   repeat' first
   | (with_reducible exact ih0 _ _ _)
   | (with_reducible exact ih1 _ _ _ _ _ _ _)
   | (with_reducible exact ih2 _ _ _ _ _ _ _ _)
   | (with_reducible exact ih3 _ _ _ _ _ _)
   | (with_reducible exact ih4 _ _ _ _ _)
   | (with_reducible exact spec_LogOk.mono _ _)
   | (with_reducible exact LeO.refl _)
   | (with_reducible exact LeO.none _)
   | (with_reducible refine LeO.ite ?_ ?_)
   | (with_reducible refine LeO.bind ?_ (fun _=>?_))
   | exact ih0 _ _ _
   | exact ih1 _ _ _ _ _ _ _
   | exact ih2 _ _ _ _ _ _ _ _
   | exact ih3 _ _ _ _ _ _
   | exact ih4 _ _ _ _ _
   | exact spec_LogOk.mono _ _
   | exact LeO.none _
   | refine LeO.ite ?_ ?_
   | refine LeO.bind ?_ (fun _=>?_)
theorem spec_FreshConns.mono:∀ a0 k,LeO (spec_FreshConns.f k a0) (spec_FreshConns.f (k + 1) a0):=by
 intro a0 k
 obtain ⟨ih0,ih1,ih2,ih3,ih4⟩:=spec_FreshConns.mono_l k
 unfold spec_FreshConns.f
 repeat' first
   | (with_reducible exact ih0 _ _ _)
   | (with_reducible exact ih1 _ _ _ _ _ _ _)
   | (with_reducible exact ih2 _ _ _ _ _ _ _ _)
   | (with_reducible exact ih3 _ _ _ _ _ _)
   | (with_reducible exact ih4 _ _ _ _ _)
   | (with_reducible exact spec_LogOk.mono _ _)
   | (with_reducible exact LeO.refl _)
   | (with_reducible exact LeO.none _)
   | (with_reducible refine LeO.ite ?_ ?_)
   | (with_reducible refine LeO.bind ?_ (fun _=>?_))
   | exact ih0 _ _ _
   | exact ih1 _ _ _ _ _ _ _
   | exact ih2 _ _ _ _ _ _ _ _
   | exact ih3 _ _ _ _ _ _
   | exact ih4 _ _ _ _ _
   | exact spec_LogOk.mono _ _
   | exact LeO.none _
   | refine LeO.ite ?_ ?_
   | refine LeO.bind ?_ (fun _=>?_)
set_option maxHeartbeats 8000000 in
set_option maxRecDepth 100000 in
theorem spec_FreshConns.calls (k:Nat) (A0:Option Addr) (c0:Nat) (l0:List (S30)) (r:Bool) (w:World) (hr0:Kd.C k30 w A0 l0.length l0) (hc0:l0.length≤c0) (h:spec_FreshConns.f k l0=some r) :
  Calls Try.prog 10 #[.slice A0 l0.length c0] w fun e w'=>e = .returned (.bool r)∧Below w.heap.size w w':=by
 have hu30:=Try.underlying30
 have HR0:=Aside0.mk hr0
 have HC0:=Aside0.mk hc0
 clear hr0 hc0
 have HB:=Aside0.mk (Below.refl w.heap.size w)
 have H:((spec_LogOk.f k l0).bind fun t129=>(if t129=true then (spec_FreshConns.l0 k l0 0 0) else (some false)))=some r:=h
 clear h
 replace H:=Option.bind_eq_some_iff.mp H
 obtain ⟨t129,A20,H⟩:=H
 have A2:=Aside0.mk A20
 clear A20
 by_cases c3:t129=true
 ·subst c3
  rw [if_pos rfl] at H
  have H':=Aside0.mk H
  clear H
  go_enter Try.func10,Try.ntmps10
  go_wp2_with (first|(go_at_call 12;(with_reducible refine (spec_LogOk.calls k _ _ l0 true _ ?side1 ?side2 A2.out).mono ?_);(case side1=>repeat (first|exact HR0.out|(with_reducible refine Kd.C_alloc ?_ _)|(with_reducible refine Kd.C_drewN ?_ _)|(with_reducible refine Kd.C_drew ?_)));(case side2=>exact HC0.out);rintro e w4 ⟨rfl,hb⟩;replace HB:=Aside0.mk (below_step bl hb);(try clear hb);(try clear hb2);(try clear hk);(try clear hi)))
  repeat (go_quiet (first|(go_at_call 12;(with_reducible refine (spec_LogOk.calls k _ _ l0 true _ ?side1 ?side2 A2.out).mono ?_);(case side1=>repeat (first|exact HR0.out|(with_reducible refine Kd.C_alloc ?_ _)|(with_reducible refine Kd.C_drewN ?_ _)|(with_reducible refine Kd.C_drew ?_)));(case side2=>exact HC0.out);rintro e w4 ⟨rfl,hb⟩;replace HB:=Aside0.mk (below_step bl hb);(try clear hb);(try clear hb2);(try clear hk);(try clear hi)));try go_wp2_with (first|(go_at_call 12;(with_reducible refine (spec_LogOk.calls k _ _ l0 true _ ?side1 ?side2 A2.out).mono ?_);(case side1=>repeat (first|exact HR0.out|(with_reducible refine Kd.C_alloc ?_ _)|(with_reducible refine Kd.C_drewN ?_ _)|(with_reducible refine Kd.C_drew ?_)));(case side2=>exact HC0.out);rintro e w4 ⟨rfl,hb⟩;replace HB:=Aside0.mk (below_step bl hb);(try clear hb);(try clear hb2);(try clear hk);(try clear hi))))
  go_loopg [3,4] k (fun kq v3 v4 w'=>∃ (x3_1:Int) (x4_1:Int),v3 = .int .i64 x3_1∧v4 = .int .i64 x4_1∧Aside0 (spec_FreshConns.l0 kq l0 x3_1 x4_1=some r)∧Aside0 (kq≤k)∧Aside0 (Below w.heap.size w w'))
  case atStart=>exact ⟨(0),(0),(by first|rfl|(simp;done)|(simp [*];done)),(by first|rfl|(simp;done)|(simp [*];done)),H',⟨Nat.le_refl _⟩,⟨bl⟩⟩
  case round =>
   clear H'
   try clear c1
   try clear p2
   try clear c3
   obtain ⟨x3_1,x4_1,rfl,rfl,HA,HK1,HB⟩:=hrel
   cases gk with
   | zero=>exact absurd HA.out (by simp [spec_FreshConns.l0])
   | succ k1 =>
    have H:=HA.out
    clear HA
    simp only [spec_FreshConns.l0] at H
    by_cases c5:x4_1 < (l0.length:Int)
    ·rw [if_pos c5] at H
     have c5b0:decide (x4_1 < (l0.length:Int))=true:=decide_eq_true c5
     clear c5
     by_cases c6:0≤x4_1
     case neg =>
      rw [if_neg c6] at H
      exact absurd H (by simp)
     rw [if_pos c6] at H
     have c6b0:decide (0≤x4_1)=true:=decide_eq_true c6
     clear c6
     have HC7:=Aside0.mk H
     clear H
     have p130:0≤(x4_1:Int):=od
     have q130:x4_1 < (l0.length:Int):=od
     obtain ⟨ad130,e130,hx130_0,hx130_1,hx130_2⟩:=at_T30 HR0.out x4_1 p130 q130
     cases e130
     replace hx130_0:=cl HB hx130_0
     replace hx130_1:=cl HB hx130_1
     replace hx130_2:=cl HB hx130_2
     replace p130:=eq_true p130
     replace q130:=eq_true q130
     go_upto_region 8 with (first|((with_reducible refine gate_dst (N:=5) rfl ?_);refine bx 5 #[.int .i64 0,.int .i64 0,.int .i64 0] 30 ?_;intro gb131 hg w8 hbox hb;have BK131:=Aside0.mk (hbox);have GW131:=Aside0.mk (bz hg:w.heap.size≤gb131);have GE131:=GW131;replace HB:=Aside0.mk (below_step bl hb);clear hb hbox hg;obtain ⟨hcz9_0,hcz9_1,hcz9_2,hfz9_0,hfz9_1,hfz9_2⟩:=ck3 BK131.out))
     repeat (go_quiet (first|((with_reducible refine gate_dst (N:=5) rfl ?_);refine bx 5 #[.int .i64 0,.int .i64 0,.int .i64 0] 30 ?_;intro gb131 hg w8 hbox hb;have BK131:=Aside0.mk (hbox);have GW131:=Aside0.mk (bz hg:w.heap.size≤gb131);have GE131:=GW131;replace HB:=Aside0.mk (below_step bl hb);clear hb hbox hg;obtain ⟨hcz9_0,hcz9_1,hcz9_2,hfz9_0,hfz9_1,hfz9_2⟩:=ck3 BK131.out));go_upto_region 8 with (first|((with_reducible refine gate_dst (N:=5) rfl ?_);refine bx 5 #[.int .i64 0,.int .i64 0,.int .i64 0] 30 ?_;intro gb131 hg w8 hbox hb;have BK131:=Aside0.mk (hbox);have GW131:=Aside0.mk (bz hg:w.heap.size≤gb131);have GE131:=GW131;replace HB:=Aside0.mk (below_step bl hb);clear hb hbox hg;obtain ⟨hcz9_0,hcz9_1,hcz9_2,hfz9_0,hfz9_1,hfz9_2⟩:=ck3 BK131.out)))
     (try simp only [Act.put,List.setIfInBounds_toArray,List.set_cons_zero,List.set_cons_succ])
     go_cut [28] (fun v28 wc=>∃ (kq:Nat) (x28_6:Bool),v28 = .bool x28_6∧Aside0 (spec_FreshConns.j1 kq l0 x3_1 x4_1 x28_6 ((rd_T30 l0 x4_1).f0) ((rd_T30 l0 x4_1).f1) ((rd_T30 l0 x4_1).f2)=some r)∧Aside0 (kq≤k1)∧Aside0 (wc.heap[gb131]? = some (.cells #[.int .i64 ((rd_T30 l0 x4_1).f0),.int .i64 ((rd_T30 l0 x4_1).f1),.int .i64 ((rd_T30 l0 x4_1).f2)] 30 (0,0)))∧Aside0 (Below w.heap.size w wc))
     case first =>
      have H:=HC7.out
      clear HC7
      by_cases c10:((rd_T30 l0 x4_1).f0) > 6
      ·rw [if_pos c10] at H
       have c10b0:decide (6 < ((rd_T30 l0 x4_1).f0))=true:=decide_eq_true c10
       clear c10
       (first|rw [c10b0]|(simp only [i64_w,i32_w];rw [c10b0])|skip)
       have H':=Aside0.mk H
       clear H
       obtain ⟨hcz11_0,hcz11_1,hcz11_2,hfz11_0,hfz11_1,hfz11_2⟩:=ck3 BK131.out
       go_wp2
       repeat (go_quiet (fail);try go_wp2)
       go_meet
       case rel=>exact ⟨_,((((rd_T30 l0 x4_1).f0) != 10)),(by first|rfl|(simp;done)|(simp [*];done)),H',⟨by have:=HK1.out;first|omega|exact Nat.le_refl _⟩,⟨by (with_reducible repeat (first|refine blk_drewN ?_ _|refine blk_drew ?_|refine blk_alloc ?_ _));refine blk_put (cs:=#[.int .i64 ((rd_T30 l0 x4_1).f0),.int .i64 ((rd_T30 l0 x4_1).f1),.int .i64 0]) ?_ 2 _ rfl;(with_reducible repeat (first|refine blk_drewN ?_ _|refine blk_drew ?_|refine blk_alloc ?_ _));refine blk_put (cs:=#[.int .i64 ((rd_T30 l0 x4_1).f0),.int .i64 0,.int .i64 0]) ?_ 1 _ rfl;(with_reducible repeat (first|refine blk_drewN ?_ _|refine blk_drew ?_|refine blk_alloc ?_ _));refine blk_put (cs:=#[.int .i64 0,.int .i64 0,.int .i64 0]) ?_ 0 _ rfl;(with_reducible repeat (first|refine blk_drewN ?_ _|refine blk_drew ?_|refine blk_alloc ?_ _));exact BK131.out⟩,⟨bl⟩⟩
      ·rw [if_neg c10] at H
       have c10b0:decide (6 < ((rd_T30 l0 x4_1).f0))=false:=decide_eq_false c10
       clear c10
       (first|rw [c10b0]|(simp only [i64_w,i32_w];rw [c10b0])|skip)
       have H':=Aside0.mk H
       clear H
       obtain ⟨hcz12_0,hcz12_1,hcz12_2,hfz12_0,hfz12_1,hfz12_2⟩:=ck3 BK131.out
       go_wp2
       repeat (go_quiet (fail);try go_wp2)
       go_meet
       case rel=>exact ⟨_,(false),(by first|rfl|(simp;done)|(simp [*];done)),H',⟨by have:=HK1.out;first|omega|exact Nat.le_refl _⟩,⟨by (with_reducible repeat (first|refine blk_drewN ?_ _|refine blk_drew ?_|refine blk_alloc ?_ _));refine blk_put (cs:=#[.int .i64 ((rd_T30 l0 x4_1).f0),.int .i64 ((rd_T30 l0 x4_1).f1),.int .i64 0]) ?_ 2 _ rfl;(with_reducible repeat (first|refine blk_drewN ?_ _|refine blk_drew ?_|refine blk_alloc ?_ _));refine blk_put (cs:=#[.int .i64 ((rd_T30 l0 x4_1).f0),.int .i64 0,.int .i64 0]) ?_ 1 _ rfl;(with_reducible repeat (first|refine blk_drewN ?_ _|refine blk_drew ?_|refine blk_alloc ?_ _));refine blk_put (cs:=#[.int .i64 0,.int .i64 0,.int .i64 0]) ?_ 0 _ rfl;(with_reducible repeat (first|refine blk_drewN ?_ _|refine blk_drew ?_|refine blk_alloc ?_ _));exact BK131.out⟩,⟨bl⟩⟩
     case rest =>
      clear HC7
      try clear c1
      try clear p1
      try clear q1
      try clear hx1
      try clear p2
      try clear c3
      try clear c5
      try clear c5b0
      try clear c6
      try clear c6b0
      try clear c10
      try clear c10b0
      try clear hcz11_0
      try clear hcz11_1
      try clear hcz11_2
      try clear hcz12_0
      try clear hcz12_1
      try clear hcz12_2
      try clear hcz9_0
      try clear hcz9_1
      try clear hcz9_2
      try clear hfz11_0
      try clear hfz11_1
      try clear hfz11_2
      try clear hfz12_0
      try clear hfz12_1
      try clear hfz12_2
      try clear hfz9_0
      try clear hfz9_1
      try clear hfz9_2
      try clear hx130_0
      try clear hx130_1
      try clear hx130_2
      try clear p130
      try clear p2
      try clear q130
      obtain ⟨kq,x28_6,rfl,HA,HJ6,BK131,HB⟩:=hcut
      cases kq with
      | zero=>exact absurd HA.out (by simp [spec_FreshConns.j1])
      | succ kj6 =>
       have H:=HA.out
       clear HA
       simp only [spec_FreshConns.j1] at H
       by_cases c13:x28_6=true
       ·subst c13
        rw [if_pos rfl] at H
        have H':=Aside0.mk H
        clear H
        go_wp2
        repeat (go_quiet (fail);try go_wp2)
        go_roundg kj6
        case measure=>have:=HK1.out;have:=HJ6.out;omega
        case rel=>exact ⟨(x3_1),(wrap64 (x4_1 + 1)),(by first|rfl|(simp;done)|(simp [*];done)),(by first|rfl|(simp;done)|(simp [*];done)),H',⟨by have:=HK1.out;have:=HJ6.out;omega⟩,⟨bl⟩⟩
       ·replace c13:=Bool.eq_false_iff.mpr c13
        subst c13
        rw [if_neg nft] at H
        have H':=Aside0.mk H
        clear H
        go_wp2
        repeat (go_quiet (fail);try go_wp2)
        go_loopg [6,7] kj6 (fun kq v6 v7 w'=>∃ (x6_3:Int) (x7_3:Int),v6 = .int .i64 x6_3∧v7 = .int .i64 x7_3∧Aside0 (spec_FreshConns.l1 kq l0 x3_1 x4_1 x6_3 x7_3 ((rd_T30 l0 x4_1).f0) ((rd_T30 l0 x4_1).f1) ((rd_T30 l0 x4_1).f2)=some r)∧Aside0 (kq≤kj6)∧Aside0 (w'.heap[gb131]? = some (.cells #[.int .i64 ((rd_T30 l0 x4_1).f0),.int .i64 ((rd_T30 l0 x4_1).f1),.int .i64 ((rd_T30 l0 x4_1).f2)] 30 (0,0)))∧Aside0 (Below w.heap.size w w'))
        case atStart=>exact ⟨(0),(0),(by first|rfl|(simp;done)|(simp [*];done)),(by first|rfl|(simp;done)|(simp [*];done)),H',⟨Nat.le_refl _⟩,⟨bk BK131⟩,⟨bl⟩⟩
        case round =>
         clear H'
         try clear c1
         try clear p1
         try clear q1
         try clear hx1
         try clear p2
         try clear c3
         try clear c5
         try clear c5b0
         try clear c6
         try clear c6b0
         try clear p6
         try clear c10
         try clear c10b0
         try clear c13
         try clear p13
         try clear q13
         try clear hx13
         try clear hcz11_0
         try clear hcz11_1
         try clear hcz11_2
         try clear hcz12_0
         try clear hcz12_1
         try clear hcz12_2
         try clear hcz9_0
         try clear hcz9_1
         try clear hcz9_2
         try clear hfz11_0
         try clear hfz11_1
         try clear hfz11_2
         try clear hfz12_0
         try clear hfz12_1
         try clear hfz12_2
         try clear hfz9_0
         try clear hfz9_1
         try clear hfz9_2
         try clear hx130_0
         try clear hx130_1
         try clear hx130_2
         try clear p1
         try clear p130
         try clear p2
         try clear q1
         try clear q130
         obtain ⟨x6_3,x7_3,rfl,rfl,HA,HK3,BK131,HB⟩:=hrel
         cases gk with
         | zero=>exact absurd HA.out (by simp [spec_FreshConns.l1])
         | succ k3 =>
          have H:=HA.out
          clear HA
          simp only [spec_FreshConns.l1] at H
          by_cases c14:x7_3 < x4_1
          ·rw [if_pos c14] at H
           have c14b0:decide (x7_3 < x4_1)=true:=decide_eq_true c14
           clear c14
           by_cases c15:0≤x7_3
           case neg =>
            rw [if_neg c15] at H
            exact absurd H (by simp)
           rw [if_pos c15] at H
           have c15b0:decide (0≤x7_3)=true:=decide_eq_true c15
           clear c15
           by_cases c16:x7_3 < (l0.length:Int)
           case neg =>
            rw [if_neg c16] at H
            exact absurd H (by simp)
           rw [if_pos c16] at H
           have c16b0:decide (x7_3 < (l0.length:Int))=true:=decide_eq_true c16
           clear c16
           by_cases c17:((rd_T30 l0 x7_3).f2)=((rd_T30 l0 x4_1).f2)
           ·rw [if_pos c17] at H
            have c17b0:(((rd_T30 l0 x7_3).f2) == ((rd_T30 l0 x4_1).f2))=true:=beq_iff_eq.mpr c17
            have c17b1:(((rd_T30 l0 x7_3).f2) != ((rd_T30 l0 x4_1).f2))=false:=bne_eq_false_iff_eq.mpr c17
            clear c17
            by_cases c18:((rd_T30 l0 x7_3).f0)=0
            ·rw [if_pos c18] at H
             have c18b0:(((rd_T30 l0 x7_3).f0) == 0)=true:=beq_iff_eq.mpr c18
             have c18b1:(((rd_T30 l0 x7_3).f0) != 0)=false:=bne_eq_false_iff_eq.mpr c18
             clear c18
             have H':=Aside0.mk H
             clear H
             have p132:0≤(x7_3:Int):=od
             have q132:x7_3 < (l0.length:Int):=od
             obtain ⟨ad132,e132,hx132_0,hx132_1,hx132_2⟩:=at_T30 HR0.out x7_3 p132 q132
             obtain rfl:ad130=ad132:=(by injection e132)
             replace hx132_0:=cl HB hx132_0
             replace hx132_1:=cl HB hx132_1
             replace hx132_2:=cl HB hx132_2
             replace p132:=eq_true p132
             replace q132:=eq_true q132
             obtain ⟨hcz19_0,hcz19_1,hcz19_2,hfz19_0,hfz19_1,hfz19_2⟩:=ck3 BK131.out
             have p133:0≤(x7_3:Int):=od
             have q133:x7_3 < (l0.length:Int):=od
             obtain ⟨ad133,e133,hx133_0,hx133_1,hx133_2⟩:=at_T30 HR0.out x7_3 p133 q133
             obtain rfl:ad130=ad133:=(by injection e133)
             replace hx133_0:=cl HB hx133_0
             replace hx133_1:=cl HB hx133_1
             replace hx133_2:=cl HB hx133_2
             replace p133:=eq_true p133
             replace q133:=eq_true q133
             go_wp2
             repeat (go_quiet (fail);try go_wp2)
             go_roundg k3
             case measure=>have:=HK1.out;have:=HJ6.out;have:=HK3.out;omega
             case rel=>exact ⟨(1),(wrap64 (x7_3 + 1)),(by first|rfl|(simp;done)|(simp [*];done)),(by first|rfl|(simp;done)|(simp [*];done)),H',⟨by have:=HK1.out;have:=HJ6.out;have:=HK3.out;omega⟩,⟨bk BK131⟩,⟨bl⟩⟩
            ·rw [if_neg c18] at H
             have c18b0:(((rd_T30 l0 x7_3).f0) == 0)=false:=beq_eq_false_iff_ne.mpr c18
             have c18b1:(((rd_T30 l0 x7_3).f0) != 0)=true:=bne_iff_ne.mpr c18
             by_cases c20:((rd_T30 l0 x7_3).f0)=1
             ·rw [if_pos c20] at H
              have c20b0:(((rd_T30 l0 x7_3).f0) == 1)=true:=beq_iff_eq.mpr c20
              have c20b1:(((rd_T30 l0 x7_3).f0) != 1)=false:=bne_eq_false_iff_eq.mpr c20
              clear c20
              have H':=Aside0.mk H
              clear H
              have p132:0≤(x7_3:Int):=od
              have q132:x7_3 < (l0.length:Int):=od
              obtain ⟨ad132,e132,hx132_0,hx132_1,hx132_2⟩:=at_T30 HR0.out x7_3 p132 q132
              obtain rfl:ad130=ad132:=(by injection e132)
              replace hx132_0:=cl HB hx132_0
              replace hx132_1:=cl HB hx132_1
              replace hx132_2:=cl HB hx132_2
              replace p132:=eq_true p132
              replace q132:=eq_true q132
              obtain ⟨hcz21_0,hcz21_1,hcz21_2,hfz21_0,hfz21_1,hfz21_2⟩:=ck3 BK131.out
              have p133:0≤(x7_3:Int):=od
              have q133:x7_3 < (l0.length:Int):=od
              obtain ⟨ad133,e133,hx133_0,hx133_1,hx133_2⟩:=at_T30 HR0.out x7_3 p133 q133
              obtain rfl:ad130=ad133:=(by injection e133)
              replace hx133_0:=cl HB hx133_0
              replace hx133_1:=cl HB hx133_1
              replace hx133_2:=cl HB hx133_2
              replace p133:=eq_true p133
              replace q133:=eq_true q133
              go_wp2
              repeat (go_quiet (fail);try go_wp2)
              go_roundg k3
              case measure=>have:=HK1.out;have:=HJ6.out;have:=HK3.out;omega
              case rel=>exact ⟨(2),(wrap64 (x7_3 + 1)),(by first|rfl|(simp;done)|(simp [*];done)),(by first|rfl|(simp;done)|(simp [*];done)),H',⟨by have:=HK1.out;have:=HJ6.out;have:=HK3.out;omega⟩,⟨bk BK131⟩,⟨bl⟩⟩
             ·rw [if_neg c20] at H
              have c20b0:(((rd_T30 l0 x7_3).f0) == 1)=false:=beq_eq_false_iff_ne.mpr c20
              have c20b1:(((rd_T30 l0 x7_3).f0) != 1)=true:=bne_iff_ne.mpr c20
              by_cases c22:((rd_T30 l0 x7_3).f0)=2
              ·rw [if_pos c22] at H
               have c22b0:(((rd_T30 l0 x7_3).f0) == 2)=true:=beq_iff_eq.mpr c22
               have c22b1:(((rd_T30 l0 x7_3).f0) != 2)=false:=bne_eq_false_iff_eq.mpr c22
               clear c22
               have H':=Aside0.mk H
               clear H
               have p132:0≤(x7_3:Int):=od
               have q132:x7_3 < (l0.length:Int):=od
               obtain ⟨ad132,e132,hx132_0,hx132_1,hx132_2⟩:=at_T30 HR0.out x7_3 p132 q132
               obtain rfl:ad130=ad132:=(by injection e132)
               replace hx132_0:=cl HB hx132_0
               replace hx132_1:=cl HB hx132_1
               replace hx132_2:=cl HB hx132_2
               replace p132:=eq_true p132
               replace q132:=eq_true q132
               obtain ⟨hcz23_0,hcz23_1,hcz23_2,hfz23_0,hfz23_1,hfz23_2⟩:=ck3 BK131.out
               have p133:0≤(x7_3:Int):=od
               have q133:x7_3 < (l0.length:Int):=od
               obtain ⟨ad133,e133,hx133_0,hx133_1,hx133_2⟩:=at_T30 HR0.out x7_3 p133 q133
               obtain rfl:ad130=ad133:=(by injection e133)
               replace hx133_0:=cl HB hx133_0
               replace hx133_1:=cl HB hx133_1
               replace hx133_2:=cl HB hx133_2
               replace p133:=eq_true p133
               replace q133:=eq_true q133
               go_wp2
               repeat (go_quiet (fail);try go_wp2)
               go_roundg k3
               case measure=>have:=HK1.out;have:=HJ6.out;have:=HK3.out;omega
               case rel=>exact ⟨(3),(wrap64 (x7_3 + 1)),(by first|rfl|(simp;done)|(simp [*];done)),(by first|rfl|(simp;done)|(simp [*];done)),H',⟨by have:=HK1.out;have:=HJ6.out;have:=HK3.out;omega⟩,⟨bk BK131⟩,⟨bl⟩⟩
              ·rw [if_neg c22] at H
               have c22b0:(((rd_T30 l0 x7_3).f0) == 2)=false:=beq_eq_false_iff_ne.mpr c22
               have c22b1:(((rd_T30 l0 x7_3).f0) != 2)=true:=bne_iff_ne.mpr c22
               by_cases c24:((rd_T30 l0 x7_3).f0)=5
               ·rw [if_pos c24] at H
                have c24b0:(((rd_T30 l0 x7_3).f0) == 5)=true:=beq_iff_eq.mpr c24
                have c24b1:(((rd_T30 l0 x7_3).f0) != 5)=false:=bne_eq_false_iff_eq.mpr c24
                clear c24
                have H':=Aside0.mk H
                clear H
                have p132:0≤(x7_3:Int):=od
                have q132:x7_3 < (l0.length:Int):=od
                obtain ⟨ad132,e132,hx132_0,hx132_1,hx132_2⟩:=at_T30 HR0.out x7_3 p132 q132
                obtain rfl:ad130=ad132:=(by injection e132)
                replace hx132_0:=cl HB hx132_0
                replace hx132_1:=cl HB hx132_1
                replace hx132_2:=cl HB hx132_2
                replace p132:=eq_true p132
                replace q132:=eq_true q132
                obtain ⟨hcz25_0,hcz25_1,hcz25_2,hfz25_0,hfz25_1,hfz25_2⟩:=ck3 BK131.out
                have p133:0≤(x7_3:Int):=od
                have q133:x7_3 < (l0.length:Int):=od
                obtain ⟨ad133,e133,hx133_0,hx133_1,hx133_2⟩:=at_T30 HR0.out x7_3 p133 q133
                obtain rfl:ad130=ad133:=(by injection e133)
                replace hx133_0:=cl HB hx133_0
                replace hx133_1:=cl HB hx133_1
                replace hx133_2:=cl HB hx133_2
                replace p133:=eq_true p133
                replace q133:=eq_true q133
                go_wp2
                repeat (go_quiet (fail);try go_wp2)
                go_roundg k3
                case measure=>have:=HK1.out;have:=HJ6.out;have:=HK3.out;omega
                case rel=>exact ⟨(3),(wrap64 (x7_3 + 1)),(by first|rfl|(simp;done)|(simp [*];done)),(by first|rfl|(simp;done)|(simp [*];done)),H',⟨by have:=HK1.out;have:=HJ6.out;have:=HK3.out;omega⟩,⟨bk BK131⟩,⟨bl⟩⟩
               ·rw [if_neg c24] at H
                have c24b0:(((rd_T30 l0 x7_3).f0) == 5)=false:=beq_eq_false_iff_ne.mpr c24
                have c24b1:(((rd_T30 l0 x7_3).f0) != 5)=true:=bne_iff_ne.mpr c24
                have H':=Aside0.mk H
                clear H
                have p132:0≤(x7_3:Int):=od
                have q132:x7_3 < (l0.length:Int):=od
                obtain ⟨ad132,e132,hx132_0,hx132_1,hx132_2⟩:=at_T30 HR0.out x7_3 p132 q132
                obtain rfl:ad130=ad132:=(by injection e132)
                replace hx132_0:=cl HB hx132_0
                replace hx132_1:=cl HB hx132_1
                replace hx132_2:=cl HB hx132_2
                replace p132:=eq_true p132
                replace q132:=eq_true q132
                obtain ⟨hcz26_0,hcz26_1,hcz26_2,hfz26_0,hfz26_1,hfz26_2⟩:=ck3 BK131.out
                have p133:0≤(x7_3:Int):=od
                have q133:x7_3 < (l0.length:Int):=od
                obtain ⟨ad133,e133,hx133_0,hx133_1,hx133_2⟩:=at_T30 HR0.out x7_3 p133 q133
                obtain rfl:ad130=ad133:=(by injection e133)
                replace hx133_0:=cl HB hx133_0
                replace hx133_1:=cl HB hx133_1
                replace hx133_2:=cl HB hx133_2
                replace p133:=eq_true p133
                replace q133:=eq_true q133
                go_wp2
                repeat (go_quiet (fail);try go_wp2)
                go_roundg k3
                case measure=>have:=HK1.out;have:=HJ6.out;have:=HK3.out;omega
                case rel=>exact ⟨(x6_3),(wrap64 (x7_3 + 1)),(by first|rfl|(simp;done)|(simp [*];done)),(by first|rfl|(simp;done)|(simp [*];done)),H',⟨by have:=HK1.out;have:=HJ6.out;have:=HK3.out;omega⟩,⟨bk BK131⟩,⟨bl⟩⟩
           ·rw [if_neg c17] at H
            have c17b0:(((rd_T30 l0 x7_3).f2) == ((rd_T30 l0 x4_1).f2))=false:=beq_eq_false_iff_ne.mpr c17
            have c17b1:(((rd_T30 l0 x7_3).f2) != ((rd_T30 l0 x4_1).f2))=true:=bne_iff_ne.mpr c17
            have H':=Aside0.mk H
            clear H
            have p132:0≤(x7_3:Int):=od
            have q132:x7_3 < (l0.length:Int):=od
            obtain ⟨ad132,e132,hx132_0,hx132_1,hx132_2⟩:=at_T30 HR0.out x7_3 p132 q132
            obtain rfl:ad130=ad132:=(by injection e132)
            replace hx132_0:=cl HB hx132_0
            replace hx132_1:=cl HB hx132_1
            replace hx132_2:=cl HB hx132_2
            replace p132:=eq_true p132
            replace q132:=eq_true q132
            obtain ⟨hcz27_0,hcz27_1,hcz27_2,hfz27_0,hfz27_1,hfz27_2⟩:=ck3 BK131.out
            go_wp2
            repeat (go_quiet (fail);try go_wp2)
            go_roundg k3
            case measure=>have:=HK1.out;have:=HJ6.out;have:=HK3.out;omega
            case rel=>exact ⟨(x6_3),(wrap64 (x7_3 + 1)),(by first|rfl|(simp;done)|(simp [*];done)),(by first|rfl|(simp;done)|(simp [*];done)),H',⟨by have:=HK1.out;have:=HJ6.out;have:=HK3.out;omega⟩,⟨bk BK131⟩,⟨bl⟩⟩
          ·rw [if_neg c14] at H
           have c14b0:decide (x7_3 < x4_1)=false:=decide_eq_false c14
           clear c14
           by_cases c28:((rd_T30 l0 x4_1).f0)=0
           ·rw [if_pos c28] at H
            have c28b0:(((rd_T30 l0 x4_1).f0) == 0)=true:=beq_iff_eq.mpr c28
            have c28b1:(((rd_T30 l0 x4_1).f0) != 0)=false:=bne_eq_false_iff_eq.mpr c28
            clear c28
            by_cases c29:x6_3=0
            ·rw [if_pos c29] at H
             have c29b0:(x6_3 == 0)=true:=beq_iff_eq.mpr c29
             have c29b1:(x6_3 != 0)=false:=bne_eq_false_iff_eq.mpr c29
             clear c29
             by_cases c30:((rd_T30 l0 x4_1).f2)≤x3_1
             ·rw [if_pos c30] at H
              have c30b0:decide (((rd_T30 l0 x4_1).f2)≤x3_1)=true:=decide_eq_true c30
              clear c30
              obtain rfl:=Option.some.inj H
              obtain ⟨hcz31_0,hcz31_1,hcz31_2,hfz31_0,hfz31_1,hfz31_2⟩:=ck3 BK131.out
              go_wp2
              repeat (go_quiet (fail);try go_wp2)
              go_ret
              exact ⟨er,bl⟩
             ·rw [if_neg c30] at H
              have c30b0:decide (((rd_T30 l0 x4_1).f2)≤x3_1)=false:=decide_eq_false c30
              clear c30
              have H':=Aside0.mk H
              clear H
              obtain ⟨hcz32_0,hcz32_1,hcz32_2,hfz32_0,hfz32_1,hfz32_2⟩:=ck3 BK131.out
              go_wp2
              repeat (go_quiet (fail);try go_wp2)
              go_roundg k3
              case measure=>have:=HK1.out;have:=HJ6.out;have:=HK3.out;omega
              case rel=>exact ⟨(((rd_T30 l0 x4_1).f2)),(wrap64 (x4_1 + 1)),(by first|rfl|(simp;done)|(simp [*];done)),(by first|rfl|(simp;done)|(simp [*];done)),H',⟨by have:=HK1.out;have:=HJ6.out;have:=HK3.out;omega⟩,⟨bl⟩⟩
            ·rw [if_neg c29] at H
             have c29b0:(x6_3 == 0)=false:=beq_eq_false_iff_ne.mpr c29
             have c29b1:(x6_3 != 0)=true:=bne_iff_ne.mpr c29
             obtain rfl:=Option.some.inj H
             obtain ⟨hcz33_0,hcz33_1,hcz33_2,hfz33_0,hfz33_1,hfz33_2⟩:=ck3 BK131.out
             go_wp2
             repeat (go_quiet (fail);try go_wp2)
             go_ret
             exact ⟨er,bl⟩
           ·rw [if_neg c28] at H
            have c28b0:(((rd_T30 l0 x4_1).f0) == 0)=false:=beq_eq_false_iff_ne.mpr c28
            have c28b1:(((rd_T30 l0 x4_1).f0) != 0)=true:=bne_iff_ne.mpr c28
            have HC34:=Aside0.mk H
            clear H
            obtain ⟨hcz35_0,hcz35_1,hcz35_2,hfz35_0,hfz35_1,hfz35_2⟩:=ck3 BK131.out
            go_upto_if 74 with (fail)
            repeat (go_quiet (fail);go_upto_if 74 with (fail))
            go_cut [74] (fun v74 wc=>∃ (kq:Nat) (x74_33:Bool),v74 = .bool x74_33∧Aside0 (spec_FreshConns.j3 kq l0 x3_1 x4_1 x6_3 ((rd_T30 l0 x4_1).f0) x74_33=some r)∧Aside0 (kq≤k3)∧Aside0 (wc.heap[gb131]? = some (.cells #[.int .i64 ((rd_T30 l0 x4_1).f0),.int .i64 ((rd_T30 l0 x4_1).f1),.int .i64 ((rd_T30 l0 x4_1).f2)] 30 (0,0)))∧Aside0 (Below w.heap.size w wc))
            case first =>
             have H:=HC34.out
             clear HC34
             by_cases c36:((rd_T30 l0 x4_1).f0)=1
             ·rw [if_pos c36] at H
              have c36b0:(((rd_T30 l0 x4_1).f0) == 1)=true:=beq_iff_eq.mpr c36
              have c36b1:(((rd_T30 l0 x4_1).f0) != 1)=false:=bne_eq_false_iff_eq.mpr c36
              clear c36
              (first|rw [c36b0]|(simp only [i64_w,i32_w];rw [c36b0])|skip)
              have H':=Aside0.mk H
              clear H
              go_wp2
              repeat (go_quiet (fail);try go_wp2)
              go_meet
              case rel=>exact ⟨_,((((rd_T30 l0 x4_1).f0) == 1)),(by first|rfl|(simp;done)|(simp [*];done)),H',⟨by have:=HK1.out;have:=HJ6.out;have:=HK3.out;first|omega|exact Nat.le_refl _⟩,⟨bk BK131⟩,⟨bl⟩⟩
             ·rw [if_neg c36] at H
              have c36b0:(((rd_T30 l0 x4_1).f0) == 1)=false:=beq_eq_false_iff_ne.mpr c36
              have c36b1:(((rd_T30 l0 x4_1).f0) != 1)=true:=bne_iff_ne.mpr c36
              (first|rw [c36b0]|(simp only [i64_w,i32_w];rw [c36b0])|skip)
              have H':=Aside0.mk H
              clear H
              go_wp2
              repeat (go_quiet (fail);try go_wp2)
              go_meet
              case rel=>exact ⟨_,((((rd_T30 l0 x4_1).f0) == 2)),(by first|rfl|(simp;done)|(simp [*];done)),H',⟨by have:=HK1.out;have:=HJ6.out;have:=HK3.out;first|omega|exact Nat.le_refl _⟩,⟨bk BK131⟩,⟨bl⟩⟩
            case rest =>
             clear HC34
             try clear c1
             try clear p1
             try clear q1
             try clear hx1
             try clear c2
             try clear p2
             try clear c3
             try clear c5
             try clear c5b0
             try clear c6
             try clear c6b0
             try clear p6
             try clear c10
             try clear c10b0
             try clear c13
             try clear p13
             try clear q13
             try clear hx13
             try clear c14
             try clear c14b0
             try clear c15
             try clear c15b0
             try clear c16
             try clear c16b0
             try clear c17
             try clear c17b0
             try clear c17b1
             try clear c18
             try clear c18b0
             try clear c18b1
             try clear c20
             try clear c20b0
             try clear c20b1
             try clear c22
             try clear c22b0
             try clear c22b1
             try clear c24
             try clear c24b0
             try clear c24b1
             try clear c28
             try clear c28b0
             try clear c28b1
             try clear c29
             try clear c29b0
             try clear c29b1
             try clear c30
             try clear c30b0
             try clear c36
             try clear c36b0
             try clear c36b1
             try clear hcz11_0
             try clear hcz11_1
             try clear hcz11_2
             try clear hcz12_0
             try clear hcz12_1
             try clear hcz12_2
             try clear hcz19_0
             try clear hcz19_1
             try clear hcz19_2
             try clear hcz21_0
             try clear hcz21_1
             try clear hcz21_2
             try clear hcz23_0
             try clear hcz23_1
             try clear hcz23_2
             try clear hcz25_0
             try clear hcz25_1
             try clear hcz25_2
             try clear hcz26_0
             try clear hcz26_1
             try clear hcz26_2
             try clear hcz27_0
             try clear hcz27_1
             try clear hcz27_2
             try clear hcz31_0
             try clear hcz31_1
             try clear hcz31_2
             try clear hcz32_0
             try clear hcz32_1
             try clear hcz32_2
             try clear hcz33_0
             try clear hcz33_1
             try clear hcz33_2
             try clear hcz35_0
             try clear hcz35_1
             try clear hcz35_2
             try clear hcz9_0
             try clear hcz9_1
             try clear hcz9_2
             try clear hfz11_0
             try clear hfz11_1
             try clear hfz11_2
             try clear hfz12_0
             try clear hfz12_1
             try clear hfz12_2
             try clear hfz19_0
             try clear hfz19_1
             try clear hfz19_2
             try clear hfz21_0
             try clear hfz21_1
             try clear hfz21_2
             try clear hfz23_0
             try clear hfz23_1
             try clear hfz23_2
             try clear hfz25_0
             try clear hfz25_1
             try clear hfz25_2
             try clear hfz26_0
             try clear hfz26_1
             try clear hfz26_2
             try clear hfz27_0
             try clear hfz27_1
             try clear hfz27_2
             try clear hfz31_0
             try clear hfz31_1
             try clear hfz31_2
             try clear hfz32_0
             try clear hfz32_1
             try clear hfz32_2
             try clear hfz33_0
             try clear hfz33_1
             try clear hfz33_2
             try clear hfz35_0
             try clear hfz35_1
             try clear hfz35_2
             try clear hfz9_0
             try clear hfz9_1
             try clear hfz9_2
             try clear hx130_0
             try clear hx130_1
             try clear hx130_2
             try clear hx132_0
             try clear hx132_1
             try clear hx132_2
             try clear hx133_0
             try clear hx133_1
             try clear hx133_2
             try clear p1
             try clear p13
             try clear p130
             try clear p132
             try clear p133
             try clear p2
             try clear p6
             try clear q1
             try clear q13
             try clear q130
             try clear q132
             try clear q133
             obtain ⟨kq,x74_33,rfl,HA,HJ33,BK131,HB⟩:=hcut
             cases kq with
             | zero=>exact absurd HA.out (by simp [spec_FreshConns.j3])
             | succ kj33 =>
              have H:=HA.out
              clear HA
              simp only [spec_FreshConns.j3] at H
              by_cases c37:x74_33=true
              ·subst c37
               rw [if_pos rfl] at H
               by_cases c38:x6_3=1
               ·rw [if_pos c38] at H
                have c38b0:(x6_3 == 1)=true:=beq_iff_eq.mpr c38
                have c38b1:(x6_3 != 1)=false:=bne_eq_false_iff_eq.mpr c38
                clear c38
                have H':=Aside0.mk H
                clear H
                go_wp2
                repeat (go_quiet (fail);try go_wp2)
                go_roundg kj33
                case measure=>have:=HK1.out;have:=HJ6.out;have:=HK3.out;have:=HJ33.out;omega
                case rel=>exact ⟨(x3_1),(wrap64 (x4_1 + 1)),(by first|rfl|(simp;done)|(simp [*];done)),(by first|rfl|(simp;done)|(simp [*];done)),H',⟨by have:=HK1.out;have:=HJ6.out;have:=HK3.out;have:=HJ33.out;omega⟩,⟨bl⟩⟩
               ·rw [if_neg c38] at H
                have c38b0:(x6_3 == 1)=false:=beq_eq_false_iff_ne.mpr c38
                have c38b1:(x6_3 != 1)=true:=bne_iff_ne.mpr c38
                obtain rfl:=Option.some.inj H
                go_wp2
                repeat (go_quiet (fail);try go_wp2)
                go_ret
                exact ⟨er,bl⟩
              ·replace c37:=Bool.eq_false_iff.mpr c37
               subst c37
               rw [if_neg nft] at H
               have HC39:=Aside0.mk H
               clear H
               go_upto_if 79 with (fail)
               repeat (go_quiet (fail);go_upto_if 79 with (fail))
               go_cut [79] (fun v79 wc=>∃ (kq:Nat) (x79_38:Bool),v79 = .bool x79_38∧Aside0 (spec_FreshConns.j4 kq l0 x3_1 x4_1 x6_3 x79_38=some r)∧Aside0 (kq≤kj33)∧Aside0 (wc.heap[gb131]? = some (.cells #[.int .i64 ((rd_T30 l0 x4_1).f0),.int .i64 ((rd_T30 l0 x4_1).f1),.int .i64 ((rd_T30 l0 x4_1).f2)] 30 (0,0)))∧Aside0 (Below w.heap.size w wc))
               case first =>
                have H:=HC39.out
                clear HC39
                by_cases c40:((rd_T30 l0 x4_1).f0)=3
                ·rw [if_pos c40] at H
                 have c40b0:(((rd_T30 l0 x4_1).f0) == 3)=true:=beq_iff_eq.mpr c40
                 have c40b1:(((rd_T30 l0 x4_1).f0) != 3)=false:=bne_eq_false_iff_eq.mpr c40
                 clear c40
                 (first|rw [c40b0]|(simp only [i64_w,i32_w];rw [c40b0])|skip)
                 have H':=Aside0.mk H
                 clear H
                 go_wp2
                 repeat (go_quiet (fail);try go_wp2)
                 go_meet
                 case rel=>exact ⟨_,((((rd_T30 l0 x4_1).f0) == 3)),(by first|rfl|(simp;done)|(simp [*];done)),H',⟨by have:=HK1.out;have:=HJ6.out;have:=HK3.out;have:=HJ33.out;first|omega|exact Nat.le_refl _⟩,⟨bk BK131⟩,⟨bl⟩⟩
                ·rw [if_neg c40] at H
                 have c40b0:(((rd_T30 l0 x4_1).f0) == 3)=false:=beq_eq_false_iff_ne.mpr c40
                 have c40b1:(((rd_T30 l0 x4_1).f0) != 3)=true:=bne_iff_ne.mpr c40
                 (first|rw [c40b0]|(simp only [i64_w,i32_w];rw [c40b0])|skip)
                 have H':=Aside0.mk H
                 clear H
                 go_wp2
                 repeat (go_quiet (fail);try go_wp2)
                 go_meet
                 case rel=>exact ⟨_,((((rd_T30 l0 x4_1).f0) == 6)),(by first|rfl|(simp;done)|(simp [*];done)),H',⟨by have:=HK1.out;have:=HJ6.out;have:=HK3.out;have:=HJ33.out;first|omega|exact Nat.le_refl _⟩,⟨bk BK131⟩,⟨bl⟩⟩
               case rest =>
                clear HC39
                try clear c1
                try clear p1
                try clear q1
                try clear hx1
                try clear c2
                try clear p2
                try clear c3
                try clear c4
                try clear c5
                try clear c5b0
                try clear c6
                try clear c6b0
                try clear p6
                try clear c10
                try clear c10b0
                try clear c13
                try clear p13
                try clear q13
                try clear hx13
                try clear c14
                try clear c14b0
                try clear c15
                try clear c15b0
                try clear c16
                try clear c16b0
                try clear c17
                try clear c17b0
                try clear c17b1
                try clear c18
                try clear c18b0
                try clear c18b1
                try clear c20
                try clear c20b0
                try clear c20b1
                try clear c22
                try clear c22b0
                try clear c22b1
                try clear c24
                try clear c24b0
                try clear c24b1
                try clear c28
                try clear c28b0
                try clear c28b1
                try clear c29
                try clear c29b0
                try clear c29b1
                try clear c30
                try clear c30b0
                try clear c36
                try clear c36b0
                try clear c36b1
                try clear c37
                try clear c38
                try clear c38b0
                try clear c38b1
                try clear c40
                try clear c40b0
                try clear c40b1
                try clear hcz11_0
                try clear hcz11_1
                try clear hcz11_2
                try clear hcz12_0
                try clear hcz12_1
                try clear hcz12_2
                try clear hcz19_0
                try clear hcz19_1
                try clear hcz19_2
                try clear hcz21_0
                try clear hcz21_1
                try clear hcz21_2
                try clear hcz23_0
                try clear hcz23_1
                try clear hcz23_2
                try clear hcz25_0
                try clear hcz25_1
                try clear hcz25_2
                try clear hcz26_0
                try clear hcz26_1
                try clear hcz26_2
                try clear hcz27_0
                try clear hcz27_1
                try clear hcz27_2
                try clear hcz31_0
                try clear hcz31_1
                try clear hcz31_2
                try clear hcz32_0
                try clear hcz32_1
                try clear hcz32_2
                try clear hcz33_0
                try clear hcz33_1
                try clear hcz33_2
                try clear hcz35_0
                try clear hcz35_1
                try clear hcz35_2
                try clear hcz9_0
                try clear hcz9_1
                try clear hcz9_2
                try clear hfz11_0
                try clear hfz11_1
                try clear hfz11_2
                try clear hfz12_0
                try clear hfz12_1
                try clear hfz12_2
                try clear hfz19_0
                try clear hfz19_1
                try clear hfz19_2
                try clear hfz21_0
                try clear hfz21_1
                try clear hfz21_2
                try clear hfz23_0
                try clear hfz23_1
                try clear hfz23_2
                try clear hfz25_0
                try clear hfz25_1
                try clear hfz25_2
                try clear hfz26_0
                try clear hfz26_1
                try clear hfz26_2
                try clear hfz27_0
                try clear hfz27_1
                try clear hfz27_2
                try clear hfz31_0
                try clear hfz31_1
                try clear hfz31_2
                try clear hfz32_0
                try clear hfz32_1
                try clear hfz32_2
                try clear hfz33_0
                try clear hfz33_1
                try clear hfz33_2
                try clear hfz35_0
                try clear hfz35_1
                try clear hfz35_2
                try clear hfz9_0
                try clear hfz9_1
                try clear hfz9_2
                try clear hx130_0
                try clear hx130_1
                try clear hx130_2
                try clear hx132_0
                try clear hx132_1
                try clear hx132_2
                try clear hx133_0
                try clear hx133_1
                try clear hx133_2
                try clear p1
                try clear p13
                try clear p130
                try clear p132
                try clear p133
                try clear p2
                try clear p6
                try clear q1
                try clear q13
                try clear q130
                try clear q132
                try clear q133
                obtain ⟨kq,x79_38,rfl,HA,HJ38,BK131,HB⟩:=hcut
                cases kq with
                | zero=>exact absurd HA.out (by simp [spec_FreshConns.j4])
                | succ kj38 =>
                 have H:=HA.out
                 clear HA
                 simp only [spec_FreshConns.j4] at H
                 by_cases c41:x79_38=true
                 ·subst c41
                  rw [if_pos rfl] at H
                  by_cases c42:x6_3=2
                  ·rw [if_pos c42] at H
                   have c42b0:(x6_3 == 2)=true:=beq_iff_eq.mpr c42
                   have c42b1:(x6_3 != 2)=false:=bne_eq_false_iff_eq.mpr c42
                   clear c42
                   have H':=Aside0.mk H
                   clear H
                   go_wp2
                   repeat (go_quiet (fail);try go_wp2)
                   go_roundg kj38
                   case measure=>have:=HK1.out;have:=HJ6.out;have:=HK3.out;have:=HJ33.out;have:=HJ38.out;omega
                   case rel=>exact ⟨(x3_1),(wrap64 (x4_1 + 1)),(by first|rfl|(simp;done)|(simp [*];done)),(by first|rfl|(simp;done)|(simp [*];done)),H',⟨by have:=HK1.out;have:=HJ6.out;have:=HK3.out;have:=HJ33.out;have:=HJ38.out;omega⟩,⟨bl⟩⟩
                  ·rw [if_neg c42] at H
                   have c42b0:(x6_3 == 2)=false:=beq_eq_false_iff_ne.mpr c42
                   have c42b1:(x6_3 != 2)=true:=bne_iff_ne.mpr c42
                   obtain rfl:=Option.some.inj H
                   go_wp2
                   repeat (go_quiet (fail);try go_wp2)
                   go_ret
                   exact ⟨er,bl⟩
                 ·replace c41:=Bool.eq_false_iff.mpr c41
                  subst c41
                  rw [if_neg nft] at H
                  by_cases c43:x6_3=0
                  ·rw [if_pos c43] at H
                   have c43b0:(x6_3 == 0)=true:=beq_iff_eq.mpr c43
                   have c43b1:(x6_3 != 0)=false:=bne_eq_false_iff_eq.mpr c43
                   clear c43
                   obtain rfl:=Option.some.inj H
                   go_wp2
                   repeat (go_quiet (fail);try go_wp2)
                   go_ret
                   exact ⟨er,bl⟩
                  ·rw [if_neg c43] at H
                   have c43b0:(x6_3 == 0)=false:=beq_eq_false_iff_ne.mpr c43
                   have c43b1:(x6_3 != 0)=true:=bne_iff_ne.mpr c43
                   by_cases c44:x6_3=3
                   ·rw [if_pos c44] at H
                    have c44b0:(x6_3 == 3)=true:=beq_iff_eq.mpr c44
                    have c44b1:(x6_3 != 3)=false:=bne_eq_false_iff_eq.mpr c44
                    clear c44
                    obtain rfl:=Option.some.inj H
                    go_wp2
                    repeat (go_quiet (fail);try go_wp2)
                    go_ret
                    exact ⟨er,bl⟩
                   ·rw [if_neg c44] at H
                    have c44b0:(x6_3 == 3)=false:=beq_eq_false_iff_ne.mpr c44
                    have c44b1:(x6_3 != 3)=true:=bne_iff_ne.mpr c44
                    have H':=Aside0.mk H
                    clear H
                    go_wp2
                    repeat (go_quiet (fail);try go_wp2)
                    go_roundg kj38
                    case measure=>have:=HK1.out;have:=HJ6.out;have:=HK3.out;have:=HJ33.out;have:=HJ38.out;omega
                    case rel=>exact ⟨(x3_1),(wrap64 (x4_1 + 1)),(by first|rfl|(simp;done)|(simp [*];done)),(by first|rfl|(simp;done)|(simp [*];done)),H',⟨by have:=HK1.out;have:=HJ6.out;have:=HK3.out;have:=HJ33.out;have:=HJ38.out;omega⟩,⟨bl⟩⟩
    ·rw [if_neg c5] at H
     have c5b0:decide (x4_1 < (l0.length:Int))=false:=decide_eq_false c5
     clear c5
     obtain rfl:=Option.some.inj H
     go_wp2
     repeat (go_quiet (fail);try go_wp2)
     go_ret
     exact ⟨er,bl⟩
 ·replace c3:=Bool.eq_false_iff.mpr c3
  subst c3
  rw [if_neg nft] at H
  obtain rfl:=Option.some.inj H
  go_enter Try.func10,Try.ntmps10
  go_wp2_with (first|(go_at_call 12;(with_reducible refine (spec_LogOk.calls k _ _ l0 false _ ?side1 ?side2 A2.out).mono ?_);(case side1=>repeat (first|exact HR0.out|(with_reducible refine Kd.C_alloc ?_ _)|(with_reducible refine Kd.C_drewN ?_ _)|(with_reducible refine Kd.C_drew ?_)));(case side2=>exact HC0.out);rintro e w45 ⟨rfl,hb⟩;replace HB:=Aside0.mk (below_step bl hb);(try clear hb);(try clear hb2);(try clear hk);(try clear hi)))
  repeat (go_quiet (first|(go_at_call 12;(with_reducible refine (spec_LogOk.calls k _ _ l0 false _ ?side1 ?side2 A2.out).mono ?_);(case side1=>repeat (first|exact HR0.out|(with_reducible refine Kd.C_alloc ?_ _)|(with_reducible refine Kd.C_drewN ?_ _)|(with_reducible refine Kd.C_drew ?_)));(case side2=>exact HC0.out);rintro e w45 ⟨rfl,hb⟩;replace HB:=Aside0.mk (below_step bl hb);(try clear hb);(try clear hb2);(try clear hk);(try clear hi)));try go_wp2_with (first|(go_at_call 12;(with_reducible refine (spec_LogOk.calls k _ _ l0 false _ ?side1 ?side2 A2.out).mono ?_);(case side1=>repeat (first|exact HR0.out|(with_reducible refine Kd.C_alloc ?_ _)|(with_reducible refine Kd.C_drewN ?_ _)|(with_reducible refine Kd.C_drew ?_)));(case side2=>exact HC0.out);rintro e w45 ⟨rfl,hb⟩;replace HB:=Aside0.mk (below_step bl hb);(try clear hb);(try clear hb2);(try clear hk);(try clear hi))))
  go_ret
  exact ⟨er,bl⟩

end Go.Proofs.Ytciehpgbhfngiaa.PFnExactFreshConns
