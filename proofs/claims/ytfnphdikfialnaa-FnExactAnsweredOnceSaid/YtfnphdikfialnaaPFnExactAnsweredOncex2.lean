/- Contracts of functions of the given program: what each call answers. Written by a program of this session, out of the text of the functions. -/
import Derived.Test.YtfnphdikfialnaaPFnExactAnsweredOncex0
import Derived.Test.YtfnphdikfialnaaPFnExactAnsweredOncex1
import Derived.Test.YtfnphdikfialnaaPrs
namespace Go.Proofs.Ytfnphdikfialnaa.PFnExactAnsweredOnce
open Go.RowKit Go.Proofs.YtfnphdikfialnaaW.PrintWords Go.Proofs.YtfnphdikfialnaaW.PrintLast Go.Proofs.YtfnphdikfialnaaW.PrintMore Go.Proofs.Ytfnphdikfialnaa.Giv Go.Proofs.Ytfnphdikfialnaa.Prs
attribute [local go_sem] max2_int min2_int max_two min_two max_three min_three max_four min_four   -- for this text's walks alone
set_option linter.unusedVariables false
set_option linter.unusedSimpArgs false

/-! ### spec_LogOk: function 9 -/
mutual
def spec_LogOk.l0:Nat→List (S31)→Int→Option (Bool)
 | 0,_,_=>none
 | k + 1,x0,x3=>if x3 < (x0.length:Int) then (if 0≤x3 then ((spec_l01In.f ((rd_T31 x0 x3).f0) 0 11).bind fun t105=>(if t105=true then ((spec_TickOk.f ((rd_T31 x0 x3).f1)).bind fun t106=>(if t106=true then ((spec_TickOk.f ((rd_T31 x0 x3).f2)).bind fun t107=>(spec_LogOk.j1 k x0 x3 (!t107) ((rd_T31 x0 x3).f0) ((rd_T31 x0 x3).f1) ((rd_T31 x0 x3).f2))) else (spec_LogOk.j1 k x0 x3 true ((rd_T31 x0 x3).f0) ((rd_T31 x0 x3).f1) ((rd_T31 x0 x3).f2)))) else (spec_LogOk.j1 k x0 x3 true ((rd_T31 x0 x3).f0) ((rd_T31 x0 x3).f1) ((rd_T31 x0 x3).f2)))) else (none)) else (some true)
def spec_LogOk.j1:Nat→List (S31)→Int→Bool→Int→Int→Int→Option (Bool)
 | 0,_,_,_,_,_,_=>none
 | k + 1,x0,x3,x35,x105000,x105001,x105002=>if x35=true then (some false) else (if x105000≤6 then (spec_LogOk.j2 k x0 x3 true x105000 x105001 x105002) else (spec_LogOk.j2 k x0 x3 (x105000 == 10) x105000 x105001 x105002))
def spec_LogOk.j2:Nat→List (S31)→Int→Bool→Int→Int→Int→Option (Bool)
 | 0,_,_,_,_,_,_=>none
 | k + 1,x0,x3,x5,x105000,x105001,x105002=>(spec_l01Has.f k (([3,4,7,8,9,10]:List Int)) x105000).bind fun t111=>(if x5=true then (if x105002=0 then (spec_LogOk.j3 k x0 x3 t111 true x105000 x105001 x105002) else (if t111=true then (spec_LogOk.j3 k x0 x3 t111 (x105001 == 0) x105000 x105001 x105002) else (spec_LogOk.j3 k x0 x3 t111 false x105000 x105001 x105002))) else (if t111=true then (spec_LogOk.j3 k x0 x3 t111 (x105001 == 0) x105000 x105001 x105002) else (spec_LogOk.j3 k x0 x3 t111 false x105000 x105001 x105002)))
def spec_LogOk.j3:Nat→List (S31)→Int→Bool→Bool→Int→Int→Int→Option (Bool)
 | 0,_,_,_,_,_,_,_=>none
 | k + 1,x0,x3,x6,x61,x105000,x105001,x105002=>if x61=true then (some false) else (if x6=true then (spec_LogOk.j4 k x0 x3 false x105000 x105001 x105002) else (if x105000=5 then (spec_LogOk.j4 k x0 x3 false x105000 x105001 x105002) else (spec_LogOk.j4 k x0 x3 (x105001 != 0) x105000 x105001 x105002)))
def spec_LogOk.j4:Nat→List (S31)→Int→Bool→Int→Int→Int→Option (Bool)
 | 0,_,_,_,_,_,_=>none
 | k + 1,x0,x3,x73,x105000,x105001,x105002=>if x73=true then (some false) else ((spec_l01In.f x105000 7 9).bind fun t112=>(if t112=true then (if x105002=0 then (if x105000=11 then (if x105002 > 3 then (some false) else (spec_LogOk.l0 k x0 (wrap64 (x3 + 1)))) else (spec_LogOk.l0 k x0 (wrap64 (x3 + 1)))) else (some false)) else (if x105000=11 then (if x105002 > 3 then (some false) else (spec_LogOk.l0 k x0 (wrap64 (x3 + 1)))) else (spec_LogOk.l0 k x0 (wrap64 (x3 + 1))))))
end
def spec_LogOk.f (k:Nat) (l0:List (S31)):Option (Bool):=if (l0.length:Int) > 2000 then (some false) else (spec_LogOk.l0 k l0 0)
theorem spec_LogOk.mono_l:∀ k,(∀ y0 y1,LeO (spec_LogOk.l0 k y0 y1) (spec_LogOk.l0 (k + 1) y0 y1))∧(∀ y0 y1 y2 y3 y4 y5,LeO (spec_LogOk.j1 k y0 y1 y2 y3 y4 y5) (spec_LogOk.j1 (k + 1) y0 y1 y2 y3 y4 y5))∧(∀ y0 y1 y2 y3 y4 y5,LeO (spec_LogOk.j2 k y0 y1 y2 y3 y4 y5) (spec_LogOk.j2 (k + 1) y0 y1 y2 y3 y4 y5))∧(∀ y0 y1 y2 y3 y4 y5 y6,LeO (spec_LogOk.j3 k y0 y1 y2 y3 y4 y5 y6) (spec_LogOk.j3 (k + 1) y0 y1 y2 y3 y4 y5 y6))∧(∀ y0 y1 y2 y3 y4 y5,LeO (spec_LogOk.j4 k y0 y1 y2 y3 y4 y5) (spec_LogOk.j4 (k + 1) y0 y1 y2 y3 y4 y5))
 | 0=>⟨fun _ _ r h=>by simp [spec_LogOk.l0] at h,fun _ _ _ _ _ _ r h=>by simp [spec_LogOk.j1] at h,fun _ _ _ _ _ _ r h=>by simp [spec_LogOk.j2] at h,fun _ _ _ _ _ _ _ r h=>by simp [spec_LogOk.j3] at h,fun _ _ _ _ _ _ r h=>by simp [spec_LogOk.j4] at h⟩
 | k + 1=>by
  obtain ⟨ih0,ih1,ih2,ih3,ih4⟩:=spec_LogOk.mono_l k
  refine ⟨?_,?_,?_,?_,?_⟩
  ·intro y0 y1
   unfold spec_LogOk.l0
   repeat' first
   | (with_reducible exact ih0 _ _)
   | (with_reducible exact ih1 _ _ _ _ _ _)
   | (with_reducible exact ih2 _ _ _ _ _ _)
   | (with_reducible exact ih3 _ _ _ _ _ _ _)
   | (with_reducible exact ih4 _ _ _ _ _ _)
   | (with_reducible exact spec_l01Has.mono _ _ _)
   | (with_reducible exact LeO.refl _)
   | (with_reducible exact LeO.none _)
   | (with_reducible refine LeO.ite ?_ ?_)
   | (with_reducible refine LeO.bind ?_ (fun _=>?_))
   | exact ih0 _ _
   | exact ih1 _ _ _ _ _ _
   | exact ih2 _ _ _ _ _ _
   | exact ih3 _ _ _ _ _ _ _
   | exact ih4 _ _ _ _ _ _
   | exact spec_l01Has.mono _ _ _
   | exact LeO.none _
   | refine LeO.ite ?_ ?_
   | refine LeO.bind ?_ (fun _=>?_)
  ·intro y0 y1 y2 y3 y4 y5
   unfold spec_LogOk.j1
   repeat' first
   | (with_reducible exact ih0 _ _)
   | (with_reducible exact ih1 _ _ _ _ _ _)
   | (with_reducible exact ih2 _ _ _ _ _ _)
   | (with_reducible exact ih3 _ _ _ _ _ _ _)
   | (with_reducible exact ih4 _ _ _ _ _ _)
   | (with_reducible exact spec_l01Has.mono _ _ _)
   | (with_reducible exact LeO.refl _)
   | (with_reducible exact LeO.none _)
   | (with_reducible refine LeO.ite ?_ ?_)
   | (with_reducible refine LeO.bind ?_ (fun _=>?_))
   | exact ih0 _ _
   | exact ih1 _ _ _ _ _ _
   | exact ih2 _ _ _ _ _ _
   | exact ih3 _ _ _ _ _ _ _
   | exact ih4 _ _ _ _ _ _
   | exact spec_l01Has.mono _ _ _
   | exact LeO.none _
   | refine LeO.ite ?_ ?_
   | refine LeO.bind ?_ (fun _=>?_)
  ·intro y0 y1 y2 y3 y4 y5
   unfold spec_LogOk.j2
   repeat' first
   | (with_reducible exact ih0 _ _)
   | (with_reducible exact ih1 _ _ _ _ _ _)
   | (with_reducible exact ih2 _ _ _ _ _ _)
   | (with_reducible exact ih3 _ _ _ _ _ _ _)
   | (with_reducible exact ih4 _ _ _ _ _ _)
   | (with_reducible exact spec_l01Has.mono _ _ _)
   | (with_reducible exact LeO.refl _)
   | (with_reducible exact LeO.none _)
   | (with_reducible refine LeO.ite ?_ ?_)
   | (with_reducible refine LeO.bind ?_ (fun _=>?_))
   | exact ih0 _ _
   | exact ih1 _ _ _ _ _ _
   | exact ih2 _ _ _ _ _ _
   | exact ih3 _ _ _ _ _ _ _
   | exact ih4 _ _ _ _ _ _
   | exact spec_l01Has.mono _ _ _
   | exact LeO.none _
   | refine LeO.ite ?_ ?_
   | refine LeO.bind ?_ (fun _=>?_)
  ·intro y0 y1 y2 y3 y4 y5 y6
   unfold spec_LogOk.j3
   repeat' first
   | (with_reducible exact ih0 _ _)
   | (with_reducible exact ih1 _ _ _ _ _ _)
   | (with_reducible exact ih2 _ _ _ _ _ _)
   | (with_reducible exact ih3 _ _ _ _ _ _ _)
   | (with_reducible exact ih4 _ _ _ _ _ _)
   | (with_reducible exact spec_l01Has.mono _ _ _)
   | (with_reducible exact LeO.refl _)
   | (with_reducible exact LeO.none _)
   | (with_reducible refine LeO.ite ?_ ?_)
   | (with_reducible refine LeO.bind ?_ (fun _=>?_))
   | exact ih0 _ _
   | exact ih1 _ _ _ _ _ _
   | exact ih2 _ _ _ _ _ _
   | exact ih3 _ _ _ _ _ _ _
   | exact ih4 _ _ _ _ _ _
   | exact spec_l01Has.mono _ _ _
   | exact LeO.none _
   | refine LeO.ite ?_ ?_
   | refine LeO.bind ?_ (fun _=>?_)
  ·intro y0 y1 y2 y3 y4 y5
   unfold spec_LogOk.j4
   repeat' first
   | (with_reducible exact ih0 _ _)
   | (with_reducible exact ih1 _ _ _ _ _ _)
   | (with_reducible exact ih2 _ _ _ _ _ _)
   | (with_reducible exact ih3 _ _ _ _ _ _ _)
   | (with_reducible exact ih4 _ _ _ _ _ _)
   | (with_reducible exact spec_l01Has.mono _ _ _)
   | (with_reducible exact LeO.refl _)
   | (with_reducible exact LeO.none _)
   | (with_reducible refine LeO.ite ?_ ?_)
   | (with_reducible refine LeO.bind ?_ (fun _=>?_))
   | exact ih0 _ _
   | exact ih1 _ _ _ _ _ _
   | exact ih2 _ _ _ _ _ _
   | exact ih3 _ _ _ _ _ _ _
   | exact ih4 _ _ _ _ _ _
   | exact spec_l01Has.mono _ _ _
   | exact LeO.none _
   | refine LeO.ite ?_ ?_
   | refine LeO.bind ?_ (fun _=>?_)
theorem spec_LogOk.mono:∀ a0 k,LeO (spec_LogOk.f k a0) (spec_LogOk.f (k + 1) a0):=by
 intro a0 k
 obtain ⟨ih0,ih1,ih2,ih3,ih4⟩:=spec_LogOk.mono_l k
 unfold spec_LogOk.f
 repeat' first
   | (with_reducible exact ih0 _ _)
   | (with_reducible exact ih1 _ _ _ _ _ _)
   | (with_reducible exact ih2 _ _ _ _ _ _)
   | (with_reducible exact ih3 _ _ _ _ _ _ _)
   | (with_reducible exact ih4 _ _ _ _ _ _)
   | (with_reducible exact spec_l01Has.mono _ _ _)
   | (with_reducible exact LeO.refl _)
   | (with_reducible exact LeO.none _)
   | (with_reducible refine LeO.ite ?_ ?_)
   | (with_reducible refine LeO.bind ?_ (fun _=>?_))
   | exact ih0 _ _
   | exact ih1 _ _ _ _ _ _
   | exact ih2 _ _ _ _ _ _
   | exact ih3 _ _ _ _ _ _ _
   | exact ih4 _ _ _ _ _ _
   | exact spec_l01Has.mono _ _ _
   | exact LeO.none _
   | refine LeO.ite ?_ ?_
   | refine LeO.bind ?_ (fun _=>?_)
set_option maxHeartbeats 8000000 in
set_option maxRecDepth 100000 in
theorem spec_LogOk.calls (k:Nat) (A0:Option Addr) (c0:Nat) (l0:List (S31)) (r:Bool) (w:World) (hr0:Kd.C k31 w A0 l0.length l0) (hc0:l0.length≤c0) (h:spec_LogOk.f k l0=some r) :
  Calls Try.prog 9 #[.slice A0 l0.length c0] w fun e w'=>e = .returned (.bool r)∧Below w.heap.size w w':=by
 have hu31:=Try.underlying31
 have HR0:=Aside0.mk hr0
 have HC0:=Aside0.mk hc0
 clear hr0 hc0
 have HB:=Aside0.mk (Below.refl w.heap.size w)
 have H:(if (l0.length:Int) > 2000 then (some false) else (spec_LogOk.l0 k l0 0))=some r:=h
 clear h
 by_cases c2:(l0.length:Int) > 2000
 ·rw [if_pos c2] at H
  have c2b0:decide (2000 < (l0.length:Int))=true:=decide_eq_true c2
  have c2b1:decide (2000 < l0.length)=true:=decide_eq_true (by omega)
  clear c2
  obtain rfl:=Option.some.inj H
  go_enter Try.func9,Try.ntmps9
  go_wp2
  go_ret
  exact ⟨er,bl⟩
 ·rw [if_neg c2] at H
  have c2b0:decide (2000 < (l0.length:Int))=false:=decide_eq_false c2
  have c2b1:decide (2000 < l0.length)=false:=decide_eq_false (by omega)
  clear c2
  have H':=Aside0.mk H
  clear H
  go_enter Try.func9,Try.ntmps9
  go_wp2
  go_loopg [3] k (fun kq v3 w'=>∃ (x3_1:Int),v3 = .int .i64 x3_1∧Aside0 (spec_LogOk.l0 kq l0 x3_1=some r)∧Aside0 (kq≤k)∧Aside0 (Below w.heap.size w w'))
  case atStart=>exact ⟨(0),(by first|rfl|(simp;done)|(simp [*];done)),H',⟨Nat.le_refl _⟩,⟨bl⟩⟩
  case round =>
   clear H'
   try clear c2
   try clear c2b0
   try clear c2b1
   try clear p2
   obtain ⟨x3_1,rfl,HA,HK1,HB⟩:=hrel
   cases gk with
   | zero=>exact absurd HA.out (by simp [spec_LogOk.l0])
   | succ k1 =>
    have H:=HA.out
    clear HA
    simp only [spec_LogOk.l0] at H
    by_cases c3:x3_1 < (l0.length:Int)
    ·rw [if_pos c3] at H
     have c3b0:decide (x3_1 < (l0.length:Int))=true:=decide_eq_true c3
     clear c3
     by_cases c4:0≤x3_1
     case neg =>
      rw [if_neg c4] at H
      exact absurd H (by simp)
     rw [if_pos c4] at H
     have c4b0:decide (0≤x3_1)=true:=decide_eq_true c4
     clear c4
     have HC5:=Aside0.mk H
     clear H
     have p103:0≤(x3_1:Int):=od
     have q103:x3_1 < (l0.length:Int):=od
     obtain ⟨ad103,e103,hx103_0,hx103_1,hx103_2⟩:=at_T31 HR0.out x3_1 p103 q103
     cases e103
     replace hx103_0:=cl HB hx103_0
     replace hx103_1:=cl HB hx103_1
     replace hx103_2:=cl HB hx103_2
     replace p103:=eq_true p103
     replace q103:=eq_true q103
     go_upto_region 7 with (first|((with_reducible refine gate_dst (N:=4) rfl ?_);refine bx 4 #[.int .i64 0,.int .i64 0,.int .i64 0] 31 ?_;intro gb104 hg w6 hbox hb;have BK104:=Aside0.mk (hbox);have GW104:=Aside0.mk (bz hg:w.heap.size≤gb104);have GE104:=GW104;replace HB:=Aside0.mk (below_step bl hb);clear hb hbox hg;obtain ⟨hcz7_0,hcz7_1,hcz7_2,hfz7_0,hfz7_1,hfz7_2⟩:=ck3 BK104.out))
     (try simp only [Act.put,List.setIfInBounds_toArray,List.set_cons_zero,List.set_cons_succ])
     go_cut [35] (fun v35 wc=>∃ (kq:Nat) (x35_4:Bool),v35 = .bool x35_4∧Aside0 (spec_LogOk.j1 kq l0 x3_1 x35_4 ((rd_T31 l0 x3_1).f0) ((rd_T31 l0 x3_1).f1) ((rd_T31 l0 x3_1).f2)=some r)∧Aside0 (kq≤k1)∧Aside0 (wc.heap[gb104]? = some (.cells #[.int .i64 ((rd_T31 l0 x3_1).f0),.int .i64 ((rd_T31 l0 x3_1).f1),.int .i64 ((rd_T31 l0 x3_1).f2)] 31 (0,0)))∧Aside0 (Below w.heap.size w wc))
     case first =>
      have H:=HC5.out
      clear HC5
      replace H:=Option.bind_eq_some_iff.mp H
      obtain ⟨t105,A80,H⟩:=H
      have A8:=Aside0.mk A80
      clear A80
      by_cases c9:t105=true
      ·subst c9
       rw [if_pos rfl] at H
       replace H:=Option.bind_eq_some_iff.mp H
       obtain ⟨t106,A100,H⟩:=H
       have A10:=Aside0.mk A100
       clear A100
       by_cases c11:t106=true
       ·subst c11
        rw [if_pos rfl] at H
        replace H:=Option.bind_eq_some_iff.mp H
        obtain ⟨t107,A120,H⟩:=H
        have A12:=Aside0.mk A120
        clear A120
        have H':=Aside0.mk H
        clear H
        obtain ⟨hcz13_0,hcz13_1,hcz13_2,hfz13_0,hfz13_1,hfz13_2⟩:=ck3 BK104.out
        go_wp2_with (first|((with_reducible refine gate_callee (f:=15) rfl ?_);refine gl (some 22) Try.func15 #[.int .i64 ((rd_T31 l0 x3_1).f0),.int .i64 0,.int .i64 11] ?_;(with_reducible refine (spec_l01In.calls ((rd_T31 l0 x3_1).f0) 0 11 true _ A8.out).mono ?_);rintro e w' ⟨rfl,⟨nd,rfl⟩⟩;refine ⟨_,rfl,?_⟩)|(go_at_call 16;(with_reducible refine (spec_TickOk.calls ((rd_T31 l0 x3_1).f1) true _ A10.out).mono ?_);rintro e w' ⟨rfl,⟨nd,rfl⟩⟩)|(go_at_call 16;(with_reducible refine (spec_TickOk.calls ((rd_T31 l0 x3_1).f2) t107 _ A12.out).mono ?_);rintro e w' ⟨rfl,⟨nd,rfl⟩⟩))
        go_meet
        case rel=>exact ⟨_,(!t107),(by first|rfl|(simp;done)|(simp [*];done)),H',⟨by have:=HK1.out;first|omega|exact Nat.le_refl _⟩,⟨by (with_reducible repeat (first|refine blk_drewN ?_ _|refine blk_drew ?_|refine blk_alloc ?_ _));refine blk_put (cs:=#[.int .i64 ((rd_T31 l0 x3_1).f0),.int .i64 ((rd_T31 l0 x3_1).f1),.int .i64 0]) ?_ 2 _ rfl;(with_reducible repeat (first|refine blk_drewN ?_ _|refine blk_drew ?_|refine blk_alloc ?_ _));refine blk_put (cs:=#[.int .i64 ((rd_T31 l0 x3_1).f0),.int .i64 0,.int .i64 0]) ?_ 1 _ rfl;(with_reducible repeat (first|refine blk_drewN ?_ _|refine blk_drew ?_|refine blk_alloc ?_ _));refine blk_put (cs:=#[.int .i64 0,.int .i64 0,.int .i64 0]) ?_ 0 _ rfl;(with_reducible repeat (first|refine blk_drewN ?_ _|refine blk_drew ?_|refine blk_alloc ?_ _));exact BK104.out⟩,⟨bl⟩⟩
       ·replace c11:=Bool.eq_false_iff.mpr c11
        subst c11
        rw [if_neg nft] at H
        have H':=Aside0.mk H
        clear H
        obtain ⟨hcz14_0,hcz14_1,hcz14_2,hfz14_0,hfz14_1,hfz14_2⟩:=ck3 BK104.out
        go_wp2_with (first|((with_reducible refine gate_callee (f:=15) rfl ?_);refine gl (some 22) Try.func15 #[.int .i64 ((rd_T31 l0 x3_1).f0),.int .i64 0,.int .i64 11] ?_;(with_reducible refine (spec_l01In.calls ((rd_T31 l0 x3_1).f0) 0 11 true _ A8.out).mono ?_);rintro e w' ⟨rfl,⟨nd,rfl⟩⟩;refine ⟨_,rfl,?_⟩)|(go_at_call 16;(with_reducible refine (spec_TickOk.calls ((rd_T31 l0 x3_1).f1) false _ A10.out).mono ?_);rintro e w' ⟨rfl,⟨nd,rfl⟩⟩))
        go_meet
        case rel=>exact ⟨_,(true),(by first|rfl|(simp;done)|(simp [*];done)),H',⟨by have:=HK1.out;first|omega|exact Nat.le_refl _⟩,⟨by (with_reducible repeat (first|refine blk_drewN ?_ _|refine blk_drew ?_|refine blk_alloc ?_ _));refine blk_put (cs:=#[.int .i64 ((rd_T31 l0 x3_1).f0),.int .i64 ((rd_T31 l0 x3_1).f1),.int .i64 0]) ?_ 2 _ rfl;(with_reducible repeat (first|refine blk_drewN ?_ _|refine blk_drew ?_|refine blk_alloc ?_ _));refine blk_put (cs:=#[.int .i64 ((rd_T31 l0 x3_1).f0),.int .i64 0,.int .i64 0]) ?_ 1 _ rfl;(with_reducible repeat (first|refine blk_drewN ?_ _|refine blk_drew ?_|refine blk_alloc ?_ _));refine blk_put (cs:=#[.int .i64 0,.int .i64 0,.int .i64 0]) ?_ 0 _ rfl;(with_reducible repeat (first|refine blk_drewN ?_ _|refine blk_drew ?_|refine blk_alloc ?_ _));exact BK104.out⟩,⟨bl⟩⟩
      ·replace c9:=Bool.eq_false_iff.mpr c9
       subst c9
       rw [if_neg nft] at H
       have H':=Aside0.mk H
       clear H
       obtain ⟨hcz15_0,hcz15_1,hcz15_2,hfz15_0,hfz15_1,hfz15_2⟩:=ck3 BK104.out
       go_wp2_with (first|((with_reducible refine gate_callee (f:=15) rfl ?_);refine gl (some 22) Try.func15 #[.int .i64 ((rd_T31 l0 x3_1).f0),.int .i64 0,.int .i64 11] ?_;(with_reducible refine (spec_l01In.calls ((rd_T31 l0 x3_1).f0) 0 11 false _ A8.out).mono ?_);rintro e w' ⟨rfl,⟨nd,rfl⟩⟩;refine ⟨_,rfl,?_⟩))
       go_meet
       case rel=>exact ⟨_,(true),(by first|rfl|(simp;done)|(simp [*];done)),H',⟨by have:=HK1.out;first|omega|exact Nat.le_refl _⟩,⟨by (with_reducible repeat (first|refine blk_drewN ?_ _|refine blk_drew ?_|refine blk_alloc ?_ _));refine blk_put (cs:=#[.int .i64 ((rd_T31 l0 x3_1).f0),.int .i64 ((rd_T31 l0 x3_1).f1),.int .i64 0]) ?_ 2 _ rfl;(with_reducible repeat (first|refine blk_drewN ?_ _|refine blk_drew ?_|refine blk_alloc ?_ _));refine blk_put (cs:=#[.int .i64 ((rd_T31 l0 x3_1).f0),.int .i64 0,.int .i64 0]) ?_ 1 _ rfl;(with_reducible repeat (first|refine blk_drewN ?_ _|refine blk_drew ?_|refine blk_alloc ?_ _));refine blk_put (cs:=#[.int .i64 0,.int .i64 0,.int .i64 0]) ?_ 0 _ rfl;(with_reducible repeat (first|refine blk_drewN ?_ _|refine blk_drew ?_|refine blk_alloc ?_ _));exact BK104.out⟩,⟨bl⟩⟩
     case rest =>
      clear HC5
      try clear c1
      try clear p1
      try clear q1
      try clear hx1
      try clear c2
      try clear c2b0
      try clear c2b1
      try clear p2
      try clear c3
      try clear c3b0
      try clear c4
      try clear c4b0
      try clear c9
      try clear p10
      try clear q10
      try clear hx10
      try clear c11
      try clear c15
      try clear hcz13_0
      try clear hcz13_1
      try clear hcz13_2
      try clear hcz14_0
      try clear hcz14_1
      try clear hcz14_2
      try clear hcz15_0
      try clear hcz15_1
      try clear hcz15_2
      try clear hcz7_0
      try clear hcz7_1
      try clear hcz7_2
      try clear hfz13_0
      try clear hfz13_1
      try clear hfz13_2
      try clear hfz14_0
      try clear hfz14_1
      try clear hfz14_2
      try clear hfz15_0
      try clear hfz15_1
      try clear hfz15_2
      try clear hfz7_0
      try clear hfz7_1
      try clear hfz7_2
      try clear hx103_0
      try clear hx103_1
      try clear hx103_2
      try clear p103
      try clear p2
      try clear q103
      obtain ⟨kq,x35_4,rfl,HA,HJ4,BK104,HB⟩:=hcut
      cases kq with
      | zero=>exact absurd HA.out (by simp [spec_LogOk.j1])
      | succ kj4 =>
       have H:=HA.out
       clear HA
       simp only [spec_LogOk.j1] at H
       by_cases c16:x35_4=true
       ·subst c16
        rw [if_pos rfl] at H
        obtain rfl:=Option.some.inj H
        go_wp2
        go_ret
        exact ⟨er,bl⟩
       ·replace c16:=Bool.eq_false_iff.mpr c16
        subst c16
        rw [if_neg nft] at H
        have HC17:=Aside0.mk H
        clear H
        go_upto_region 9 with (fail)
        go_cut [5] (fun v5 wc=>∃ (kq:Nat) (x5_16:Bool),v5 = .bool x5_16∧Aside0 (spec_LogOk.j2 kq l0 x3_1 x5_16 ((rd_T31 l0 x3_1).f0) ((rd_T31 l0 x3_1).f1) ((rd_T31 l0 x3_1).f2)=some r)∧Aside0 (kq≤kj4)∧Aside0 (wc.heap[gb104]? = some (.cells #[.int .i64 ((rd_T31 l0 x3_1).f0),.int .i64 ((rd_T31 l0 x3_1).f1),.int .i64 ((rd_T31 l0 x3_1).f2)] 31 (0,0)))∧Aside0 (Below w.heap.size w wc))
        case first =>
         have H:=HC17.out
         clear HC17
         by_cases c18:((rd_T31 l0 x3_1).f0)≤6
         ·rw [if_pos c18] at H
          have c18b0:decide (((rd_T31 l0 x3_1).f0)≤6)=true:=decide_eq_true c18
          clear c18
          (first|rw [c18b0]|(simp only [i64_w,i32_w];rw [c18b0])|skip)
          have H':=Aside0.mk H
          clear H
          obtain ⟨hcz19_0,hcz19_1,hcz19_2,hfz19_0,hfz19_1,hfz19_2⟩:=ck3 BK104.out
          go_wp2
          go_meet
          case rel=>exact ⟨_,(true),(by first|rfl|(simp;done)|(simp [*];done)),H',⟨by have:=HK1.out;have:=HJ4.out;first|omega|exact Nat.le_refl _⟩,⟨bk BK104⟩,⟨bl⟩⟩
         ·rw [if_neg c18] at H
          have c18b0:decide (((rd_T31 l0 x3_1).f0)≤6)=false:=decide_eq_false c18
          clear c18
          (first|rw [c18b0]|(simp only [i64_w,i32_w];rw [c18b0])|skip)
          have H':=Aside0.mk H
          clear H
          obtain ⟨hcz20_0,hcz20_1,hcz20_2,hfz20_0,hfz20_1,hfz20_2⟩:=ck3 BK104.out
          go_wp2
          go_meet
          case rel=>exact ⟨_,((((rd_T31 l0 x3_1).f0) == 10)),(by first|rfl|(simp;done)|(simp [*];done)),H',⟨by have:=HK1.out;have:=HJ4.out;first|omega|exact Nat.le_refl _⟩,⟨bk BK104⟩,⟨bl⟩⟩
        case rest =>
         clear HC17
         try clear c1
         try clear p1
         try clear q1
         try clear hx1
         try clear c2
         try clear c2b0
         try clear c2b1
         try clear p2
         try clear c3
         try clear c3b0
         try clear c4
         try clear c4b0
         try clear c9
         try clear p10
         try clear q10
         try clear hx10
         try clear c11
         try clear c15
         try clear c16
         try clear c18
         try clear c18b0
         try clear hcz13_0
         try clear hcz13_1
         try clear hcz13_2
         try clear hcz14_0
         try clear hcz14_1
         try clear hcz14_2
         try clear hcz15_0
         try clear hcz15_1
         try clear hcz15_2
         try clear hcz19_0
         try clear hcz19_1
         try clear hcz19_2
         try clear hcz20_0
         try clear hcz20_1
         try clear hcz20_2
         try clear hcz7_0
         try clear hcz7_1
         try clear hcz7_2
         try clear hfz13_0
         try clear hfz13_1
         try clear hfz13_2
         try clear hfz14_0
         try clear hfz14_1
         try clear hfz14_2
         try clear hfz15_0
         try clear hfz15_1
         try clear hfz15_2
         try clear hfz19_0
         try clear hfz19_1
         try clear hfz19_2
         try clear hfz20_0
         try clear hfz20_1
         try clear hfz20_2
         try clear hfz7_0
         try clear hfz7_1
         try clear hfz7_2
         try clear hx103_0
         try clear hx103_1
         try clear hx103_2
         try clear p1
         try clear p10
         try clear p103
         try clear p2
         try clear q1
         try clear q10
         try clear q103
         obtain ⟨kq,x5_16,rfl,HA,HJ16,BK104,HB⟩:=hcut
         cases kq with
         | zero=>exact absurd HA.out (by simp [spec_LogOk.j2])
         | succ kj16 =>
          have H:=HA.out
          clear HA
          simp only [spec_LogOk.j2] at H
          obtain ⟨y108,hy108⟩:∃ y_:List Int,y_=(([3,4,7,8,9,10]:List Int)):=⟨_,rfl⟩
          replace H:((spec_l01Has.f kj16 y108 ((rd_T31 l0 x3_1).f0)).bind fun t111=>(if x5_16=true then (if ((rd_T31 l0 x3_1).f2)=0 then (spec_LogOk.j3 kj16 l0 x3_1 t111 true ((rd_T31 l0 x3_1).f0) ((rd_T31 l0 x3_1).f1) ((rd_T31 l0 x3_1).f2)) else (if t111=true then (spec_LogOk.j3 kj16 l0 x3_1 t111 (((rd_T31 l0 x3_1).f1) == 0) ((rd_T31 l0 x3_1).f0) ((rd_T31 l0 x3_1).f1) ((rd_T31 l0 x3_1).f2)) else (spec_LogOk.j3 kj16 l0 x3_1 t111 false ((rd_T31 l0 x3_1).f0) ((rd_T31 l0 x3_1).f1) ((rd_T31 l0 x3_1).f2)))) else (if t111=true then (spec_LogOk.j3 kj16 l0 x3_1 t111 (((rd_T31 l0 x3_1).f1) == 0) ((rd_T31 l0 x3_1).f0) ((rd_T31 l0 x3_1).f1) ((rd_T31 l0 x3_1).f2)) else (spec_LogOk.j3 kj16 l0 x3_1 t111 false ((rd_T31 l0 x3_1).f0) ((rd_T31 l0 x3_1).f1) ((rd_T31 l0 x3_1).f2)))))=some r:=by first|(rw [hy108];with_reducible exact H)|(have H2_:=(Option.bind_some _ _).symm.trans H;rw [hy108];with_reducible exact H2_)|(have H2_:=(Option.bind_some _ _).symm.trans H;with_reducible exact H2_)|with_reducible exact H|(rw [hy108];exact H)|exact H
          have Ny108:=Aside0.mk hy108
          clear hy108
          replace H:=Option.bind_eq_some_iff.mp H
          obtain ⟨t111,A210,H⟩:=H
          have A21:=Aside0.mk A210
          clear A210
          have HC22:=Aside0.mk H
          clear H
          go_upto_region 11 with (first|((with_reducible refine gate_dst (N:=44) rfl ?_);refine Kd.R_lit (Kd.int .i64) _ 3 ?hg (N:=44) ?hd (xs:=([3,4,7,8,9,10]:List Int)) (inner:=[.int .i64 3,.int .i64 4,.int .i64 7,.int .i64 8,.int .i64 9,.int .i64 10]) (ok:=fun _=>True) (okp:=fun _=>True) ?hr ?hp (fun _ hk=>hk) trivial (Below.refl _ _) (Nat.le_refl _) (by simp) ?_;(case hd=>rfl);(case hg=>rfl);(case hr=>first|(go_simp;done)|(go_simp;rfl));(case hp=>exact (Reps.one (show Kd.M (Kd.int .i64) _ _ _ 3 [.int .i64 3] from rfl) (Reps.one (show Kd.M (Kd.int .i64) _ _ _ 4 [.int .i64 4] from rfl) (Reps.one (show Kd.M (Kd.int .i64) _ _ _ 7 [.int .i64 7] from rfl) (Reps.one (show Kd.M (Kd.int .i64) _ _ _ 8 [.int .i64 8] from rfl) (Reps.one (show Kd.M (Kd.int .i64) _ _ _ 9 [.int .i64 9] from rfl) (Reps.one (show Kd.M (Kd.int .i64) _ _ _ 10 [.int .i64 10] from rfl) (Reps.none _ _))))))));intro v109 w23 ho24 hb hg_ hnew_;clear hg_ hnew_;(first|rw [← Ny108.out] at ho24|(simp only [Int.reduceToNat] at ho24;rw [← Ny108.out] at ho24));have HO110:=Aside0.mk (Kd.R_lower ho24 (below_size bl));replace BK104:=Aside0.mk (blk_below (bk BK104) hb);replace HB:=Aside0.mk (below_step bl hb);clear hb ho24;obtain ⟨hcz25_0,hcz25_1,hcz25_2,hfz25_0,hfz25_1,hfz25_2⟩:=ck3 BK104.out;obtain ⟨Ao26,co26,eo26⟩:=Kd.R_slice HO110.out;subst eo26)|((with_reducible refine gate_callee (f:=17) rfl ?_);refine gl (some 47) Try.func17 #[.slice Ao26 y108.length co26,.int .i64 ((rd_T31 l0 x3_1).f0)] ?_;(with_reducible refine (spec_l01Has.calls kj16 _ _ y108 ((rd_T31 l0 x3_1).f0) t111 _ ?side1 ?side2 A21.out).mono ?_);(case side1=>repeat (first|exact (Kd.R_reads' HO110.out).2.2|(with_reducible refine Kd.C_alloc ?_ _)|(with_reducible refine Kd.C_drewN ?_ _)|(with_reducible refine Kd.C_drew ?_)));(case side2=>exact (Kd.R_reads' HO110.out).2.1);rintro e w' ⟨rfl,⟨nd,rfl⟩⟩;refine ⟨_,rfl,?_⟩))
          (try simp only [Act.put,List.setIfInBounds_toArray,List.set_cons_zero,List.set_cons_succ])
          go_cut [61] (fun v61 wc=>∃ (kq:Nat) (x61_21:Bool),v61 = .bool x61_21∧Aside0 (spec_LogOk.j3 kq l0 x3_1 t111 x61_21 ((rd_T31 l0 x3_1).f0) ((rd_T31 l0 x3_1).f1) ((rd_T31 l0 x3_1).f2)=some r)∧Aside0 (kq≤kj16)∧Aside0 (wc.heap[gb104]? = some (.cells #[.int .i64 ((rd_T31 l0 x3_1).f0),.int .i64 ((rd_T31 l0 x3_1).f1),.int .i64 ((rd_T31 l0 x3_1).f2)] 31 (0,0)))∧Aside0 (Below w.heap.size w wc))
          case first =>
           have H:=HC22.out
           clear HC22
           by_cases c27:x5_16=true
           ·subst c27
            rw [if_pos rfl] at H
            by_cases c28:((rd_T31 l0 x3_1).f2)=0
            ·rw [if_pos c28] at H
             have c28b0:(((rd_T31 l0 x3_1).f2) == 0)=true:=beq_iff_eq.mpr c28
             have c28b1:(((rd_T31 l0 x3_1).f2) != 0)=false:=bne_eq_false_iff_eq.mpr c28
             clear c28
             (first|rw [c28b0]|(simp only [i64_w,i32_w];rw [c28b0])|skip)
             have H':=Aside0.mk H
             clear H
             obtain ⟨hcz29_0,hcz29_1,hcz29_2,hfz29_0,hfz29_1,hfz29_2⟩:=ck3 BK104.out
             go_wp2
             go_meet
             case rel=>exact ⟨_,(true),(by first|rfl|(simp;done)|(simp [*];done)),H',⟨by have:=HK1.out;have:=HJ4.out;have:=HJ16.out;first|omega|exact Nat.le_refl _⟩,⟨bk BK104⟩,⟨bl⟩⟩
            ·rw [if_neg c28] at H
             have c28b0:(((rd_T31 l0 x3_1).f2) == 0)=false:=beq_eq_false_iff_ne.mpr c28
             have c28b1:(((rd_T31 l0 x3_1).f2) != 0)=true:=bne_iff_ne.mpr c28
             (first|rw [c28b0]|(simp only [i64_w,i32_w];rw [c28b0])|skip)
             by_cases c30:t111=true
             ·subst c30
              rw [if_pos rfl] at H
              have H':=Aside0.mk H
              clear H
              obtain ⟨hcz31_0,hcz31_1,hcz31_2,hfz31_0,hfz31_1,hfz31_2⟩:=ck3 BK104.out
              go_wp2
              go_meet
              case rel=>exact ⟨_,((((rd_T31 l0 x3_1).f1) == 0)),(by first|rfl|(simp;done)|(simp [*];done)),H',⟨by have:=HK1.out;have:=HJ4.out;have:=HJ16.out;first|omega|exact Nat.le_refl _⟩,⟨bk BK104⟩,⟨bl⟩⟩
             ·replace c30:=Bool.eq_false_iff.mpr c30
              subst c30
              rw [if_neg nft] at H
              have H':=Aside0.mk H
              clear H
              obtain ⟨hcz32_0,hcz32_1,hcz32_2,hfz32_0,hfz32_1,hfz32_2⟩:=ck3 BK104.out
              go_wp2
              go_meet
              case rel=>exact ⟨_,(false),(by first|rfl|(simp;done)|(simp [*];done)),H',⟨by have:=HK1.out;have:=HJ4.out;have:=HJ16.out;first|omega|exact Nat.le_refl _⟩,⟨bk BK104⟩,⟨bl⟩⟩
           ·replace c27:=Bool.eq_false_iff.mpr c27
            subst c27
            rw [if_neg nft] at H
            by_cases c33:t111=true
            ·subst c33
             rw [if_pos rfl] at H
             have H':=Aside0.mk H
             clear H
             obtain ⟨hcz34_0,hcz34_1,hcz34_2,hfz34_0,hfz34_1,hfz34_2⟩:=ck3 BK104.out
             go_wp2
             go_meet
             case rel=>exact ⟨_,((((rd_T31 l0 x3_1).f1) == 0)),(by first|rfl|(simp;done)|(simp [*];done)),H',⟨by have:=HK1.out;have:=HJ4.out;have:=HJ16.out;first|omega|exact Nat.le_refl _⟩,⟨bk BK104⟩,⟨bl⟩⟩
            ·replace c33:=Bool.eq_false_iff.mpr c33
             subst c33
             rw [if_neg nft] at H
             have H':=Aside0.mk H
             clear H
             go_wp2
             go_meet
             case rel=>exact ⟨_,(false),(by first|rfl|(simp;done)|(simp [*];done)),H',⟨by have:=HK1.out;have:=HJ4.out;have:=HJ16.out;first|omega|exact Nat.le_refl _⟩,⟨bk BK104⟩,⟨bl⟩⟩
          case rest =>
           clear HC22
           try clear c1
           try clear p1
           try clear q1
           try clear hx1
           try clear c2
           try clear c2b0
           try clear c2b1
           try clear p2
           try clear c3
           try clear c3b0
           try clear c4
           try clear c4b0
           try clear c9
           try clear p10
           try clear q10
           try clear hx10
           try clear c11
           try clear c15
           try clear c16
           try clear c17
           try clear c18
           try clear c18b0
           try clear c27
           try clear c28
           try clear c28b0
           try clear c28b1
           try clear c30
           try clear c33
           try clear hcz13_0
           try clear hcz13_1
           try clear hcz13_2
           try clear hcz14_0
           try clear hcz14_1
           try clear hcz14_2
           try clear hcz15_0
           try clear hcz15_1
           try clear hcz15_2
           try clear hcz19_0
           try clear hcz19_1
           try clear hcz19_2
           try clear hcz20_0
           try clear hcz20_1
           try clear hcz20_2
           try clear hcz25_0
           try clear hcz25_1
           try clear hcz25_2
           try clear hcz29_0
           try clear hcz29_1
           try clear hcz29_2
           try clear hcz31_0
           try clear hcz31_1
           try clear hcz31_2
           try clear hcz32_0
           try clear hcz32_1
           try clear hcz32_2
           try clear hcz34_0
           try clear hcz34_1
           try clear hcz34_2
           try clear hcz7_0
           try clear hcz7_1
           try clear hcz7_2
           try clear hfz13_0
           try clear hfz13_1
           try clear hfz13_2
           try clear hfz14_0
           try clear hfz14_1
           try clear hfz14_2
           try clear hfz15_0
           try clear hfz15_1
           try clear hfz15_2
           try clear hfz19_0
           try clear hfz19_1
           try clear hfz19_2
           try clear hfz20_0
           try clear hfz20_1
           try clear hfz20_2
           try clear hfz25_0
           try clear hfz25_1
           try clear hfz25_2
           try clear hfz29_0
           try clear hfz29_1
           try clear hfz29_2
           try clear hfz31_0
           try clear hfz31_1
           try clear hfz31_2
           try clear hfz32_0
           try clear hfz32_1
           try clear hfz32_2
           try clear hfz34_0
           try clear hfz34_1
           try clear hfz34_2
           try clear hfz7_0
           try clear hfz7_1
           try clear hfz7_2
           try clear hx103_0
           try clear hx103_1
           try clear hx103_2
           try clear p1
           try clear p10
           try clear p103
           try clear p2
           try clear q1
           try clear q10
           try clear q103
           obtain ⟨kq,x61_21,rfl,HA,HJ21,BK104,HB⟩:=hcut
           cases kq with
           | zero=>exact absurd HA.out (by simp [spec_LogOk.j3])
           | succ kj21 =>
            have H:=HA.out
            clear HA
            simp only [spec_LogOk.j3] at H
            by_cases c35:x61_21=true
            ·subst c35
             rw [if_pos rfl] at H
             obtain rfl:=Option.some.inj H
             go_wp2
             go_ret
             exact ⟨er,bl⟩
            ·replace c35:=Bool.eq_false_iff.mpr c35
             subst c35
             rw [if_neg nft] at H
             have HC36:=Aside0.mk H
             clear H
             go_upto_region 13 with (fail)
             go_cut [73] (fun v73 wc=>∃ (kq:Nat) (x73_35:Bool),v73 = .bool x73_35∧Aside0 (spec_LogOk.j4 kq l0 x3_1 x73_35 ((rd_T31 l0 x3_1).f0) ((rd_T31 l0 x3_1).f1) ((rd_T31 l0 x3_1).f2)=some r)∧Aside0 (kq≤kj21)∧Aside0 (wc.heap[gb104]? = some (.cells #[.int .i64 ((rd_T31 l0 x3_1).f0),.int .i64 ((rd_T31 l0 x3_1).f1),.int .i64 ((rd_T31 l0 x3_1).f2)] 31 (0,0)))∧Aside0 (Below w.heap.size w wc))
             case first =>
              have H:=HC36.out
              clear HC36
              by_cases c37:t111=true
              ·subst c37
               rw [if_pos rfl] at H
               have H':=Aside0.mk H
               clear H
               go_wp2
               go_meet
               case rel=>exact ⟨_,(false),(by first|rfl|(simp;done)|(simp [*];done)),H',⟨by have:=HK1.out;have:=HJ4.out;have:=HJ16.out;have:=HJ21.out;first|omega|exact Nat.le_refl _⟩,⟨bk BK104⟩,⟨bl⟩⟩
              ·replace c37:=Bool.eq_false_iff.mpr c37
               subst c37
               rw [if_neg nft] at H
               by_cases c38:((rd_T31 l0 x3_1).f0)=5
               ·rw [if_pos c38] at H
                have c38b0:(((rd_T31 l0 x3_1).f0) == 5)=true:=beq_iff_eq.mpr c38
                have c38b1:(((rd_T31 l0 x3_1).f0) != 5)=false:=bne_eq_false_iff_eq.mpr c38
                clear c38
                (first|rw [c38b0]|(simp only [i64_w,i32_w];rw [c38b0])|skip)
                have H':=Aside0.mk H
                clear H
                obtain ⟨hcz39_0,hcz39_1,hcz39_2,hfz39_0,hfz39_1,hfz39_2⟩:=ck3 BK104.out
                go_wp2
                go_meet
                case rel=>exact ⟨_,(false),(by first|rfl|(simp;done)|(simp [*];done)),H',⟨by have:=HK1.out;have:=HJ4.out;have:=HJ16.out;have:=HJ21.out;first|omega|exact Nat.le_refl _⟩,⟨bk BK104⟩,⟨bl⟩⟩
               ·rw [if_neg c38] at H
                have c38b0:(((rd_T31 l0 x3_1).f0) == 5)=false:=beq_eq_false_iff_ne.mpr c38
                have c38b1:(((rd_T31 l0 x3_1).f0) != 5)=true:=bne_iff_ne.mpr c38
                (first|rw [c38b0]|(simp only [i64_w,i32_w];rw [c38b0])|skip)
                have H':=Aside0.mk H
                clear H
                obtain ⟨hcz40_0,hcz40_1,hcz40_2,hfz40_0,hfz40_1,hfz40_2⟩:=ck3 BK104.out
                go_wp2
                go_meet
                case rel=>exact ⟨_,((((rd_T31 l0 x3_1).f1) != 0)),(by first|rfl|(simp;done)|(simp [*];done)),H',⟨by have:=HK1.out;have:=HJ4.out;have:=HJ16.out;have:=HJ21.out;first|omega|exact Nat.le_refl _⟩,⟨bk BK104⟩,⟨bl⟩⟩
             case rest =>
              clear HC36
              try clear c1
              try clear p1
              try clear q1
              try clear hx1
              try clear c2
              try clear c2b0
              try clear c2b1
              try clear p2
              try clear c3
              try clear c3b0
              try clear c4
              try clear c4b0
              try clear c9
              try clear p10
              try clear q10
              try clear hx10
              try clear c11
              try clear c15
              try clear c16
              try clear c17
              try clear c18
              try clear c18b0
              try clear c27
              try clear c28
              try clear c28b0
              try clear c28b1
              try clear c30
              try clear c33
              try clear c35
              try clear c37
              try clear c38
              try clear c38b0
              try clear c38b1
              try clear hcz13_0
              try clear hcz13_1
              try clear hcz13_2
              try clear hcz14_0
              try clear hcz14_1
              try clear hcz14_2
              try clear hcz15_0
              try clear hcz15_1
              try clear hcz15_2
              try clear hcz19_0
              try clear hcz19_1
              try clear hcz19_2
              try clear hcz20_0
              try clear hcz20_1
              try clear hcz20_2
              try clear hcz25_0
              try clear hcz25_1
              try clear hcz25_2
              try clear hcz29_0
              try clear hcz29_1
              try clear hcz29_2
              try clear hcz31_0
              try clear hcz31_1
              try clear hcz31_2
              try clear hcz32_0
              try clear hcz32_1
              try clear hcz32_2
              try clear hcz34_0
              try clear hcz34_1
              try clear hcz34_2
              try clear hcz39_0
              try clear hcz39_1
              try clear hcz39_2
              try clear hcz40_0
              try clear hcz40_1
              try clear hcz40_2
              try clear hcz7_0
              try clear hcz7_1
              try clear hcz7_2
              try clear hfz13_0
              try clear hfz13_1
              try clear hfz13_2
              try clear hfz14_0
              try clear hfz14_1
              try clear hfz14_2
              try clear hfz15_0
              try clear hfz15_1
              try clear hfz15_2
              try clear hfz19_0
              try clear hfz19_1
              try clear hfz19_2
              try clear hfz20_0
              try clear hfz20_1
              try clear hfz20_2
              try clear hfz25_0
              try clear hfz25_1
              try clear hfz25_2
              try clear hfz29_0
              try clear hfz29_1
              try clear hfz29_2
              try clear hfz31_0
              try clear hfz31_1
              try clear hfz31_2
              try clear hfz32_0
              try clear hfz32_1
              try clear hfz32_2
              try clear hfz34_0
              try clear hfz34_1
              try clear hfz34_2
              try clear hfz39_0
              try clear hfz39_1
              try clear hfz39_2
              try clear hfz40_0
              try clear hfz40_1
              try clear hfz40_2
              try clear hfz7_0
              try clear hfz7_1
              try clear hfz7_2
              try clear hx103_0
              try clear hx103_1
              try clear hx103_2
              try clear p1
              try clear p10
              try clear p103
              try clear p2
              try clear q1
              try clear q10
              try clear q103
              obtain ⟨kq,x73_35,rfl,HA,HJ35,BK104,HB⟩:=hcut
              cases kq with
              | zero=>exact absurd HA.out (by simp [spec_LogOk.j4])
              | succ kj35 =>
               have H:=HA.out
               clear HA
               simp only [spec_LogOk.j4] at H
               by_cases c41:x73_35=true
               ·subst c41
                rw [if_pos rfl] at H
                obtain rfl:=Option.some.inj H
                go_wp2
                go_ret
                exact ⟨er,bl⟩
               ·replace c41:=Bool.eq_false_iff.mpr c41
                subst c41
                rw [if_neg nft] at H
                replace H:=Option.bind_eq_some_iff.mp H
                obtain ⟨t112,A420,H⟩:=H
                have A42:=Aside0.mk A420
                clear A420
                by_cases c43:t112=true
                ·subst c43
                 rw [if_pos rfl] at H
                 by_cases c44:((rd_T31 l0 x3_1).f2)=0
                 ·rw [if_pos c44] at H
                  have c44b0:(((rd_T31 l0 x3_1).f2) == 0)=true:=beq_iff_eq.mpr c44
                  have c44b1:(((rd_T31 l0 x3_1).f2) != 0)=false:=bne_eq_false_iff_eq.mpr c44
                  clear c44
                  by_cases c45:((rd_T31 l0 x3_1).f0)=11
                  ·rw [if_pos c45] at H
                   have c45b0:(((rd_T31 l0 x3_1).f0) == 11)=true:=beq_iff_eq.mpr c45
                   have c45b1:(((rd_T31 l0 x3_1).f0) != 11)=false:=bne_eq_false_iff_eq.mpr c45
                   clear c45
                   by_cases c46:((rd_T31 l0 x3_1).f2) > 3
                   ·rw [if_pos c46] at H
                    have c46b0:decide (3 < ((rd_T31 l0 x3_1).f2))=true:=decide_eq_true c46
                    clear c46
                    obtain rfl:=Option.some.inj H
                    obtain ⟨hcz47_0,hcz47_1,hcz47_2,hfz47_0,hfz47_1,hfz47_2⟩:=ck3 BK104.out
                    go_wp2_with (first|((with_reducible refine gate_callee (f:=15) rfl ?_);refine gl (some 76) Try.func15 #[.int .i64 ((rd_T31 l0 x3_1).f0),.int .i64 7,.int .i64 9] ?_;(with_reducible refine (spec_l01In.calls ((rd_T31 l0 x3_1).f0) 7 9 true _ A42.out).mono ?_);rintro e w' ⟨rfl,⟨nd,rfl⟩⟩;refine ⟨_,rfl,?_⟩))
                    go_ret
                    exact ⟨er,bl⟩
                   ·rw [if_neg c46] at H
                    have c46b0:decide (3 < ((rd_T31 l0 x3_1).f2))=false:=decide_eq_false c46
                    clear c46
                    have H':=Aside0.mk H
                    clear H
                    obtain ⟨hcz48_0,hcz48_1,hcz48_2,hfz48_0,hfz48_1,hfz48_2⟩:=ck3 BK104.out
                    go_wp2_with (first|((with_reducible refine gate_callee (f:=15) rfl ?_);refine gl (some 76) Try.func15 #[.int .i64 ((rd_T31 l0 x3_1).f0),.int .i64 7,.int .i64 9] ?_;(with_reducible refine (spec_l01In.calls ((rd_T31 l0 x3_1).f0) 7 9 true _ A42.out).mono ?_);rintro e w' ⟨rfl,⟨nd,rfl⟩⟩;refine ⟨_,rfl,?_⟩))
                    go_roundg kj35
                    case measure=>have:=HK1.out;have:=HJ4.out;have:=HJ16.out;have:=HJ21.out;have:=HJ35.out;omega
                    case rel=>exact ⟨(wrap64 (x3_1 + 1)),(by first|rfl|(simp;done)|(simp [*];done)),H',⟨by have:=HK1.out;have:=HJ4.out;have:=HJ16.out;have:=HJ21.out;have:=HJ35.out;omega⟩,⟨bl⟩⟩
                  ·rw [if_neg c45] at H
                   have c45b0:(((rd_T31 l0 x3_1).f0) == 11)=false:=beq_eq_false_iff_ne.mpr c45
                   have c45b1:(((rd_T31 l0 x3_1).f0) != 11)=true:=bne_iff_ne.mpr c45
                   have H':=Aside0.mk H
                   clear H
                   obtain ⟨hcz49_0,hcz49_1,hcz49_2,hfz49_0,hfz49_1,hfz49_2⟩:=ck3 BK104.out
                   go_wp2_with (first|((with_reducible refine gate_callee (f:=15) rfl ?_);refine gl (some 76) Try.func15 #[.int .i64 ((rd_T31 l0 x3_1).f0),.int .i64 7,.int .i64 9] ?_;(with_reducible refine (spec_l01In.calls ((rd_T31 l0 x3_1).f0) 7 9 true _ A42.out).mono ?_);rintro e w' ⟨rfl,⟨nd,rfl⟩⟩;refine ⟨_,rfl,?_⟩))
                   go_roundg kj35
                   case measure=>have:=HK1.out;have:=HJ4.out;have:=HJ16.out;have:=HJ21.out;have:=HJ35.out;omega
                   case rel=>exact ⟨(wrap64 (x3_1 + 1)),(by first|rfl|(simp;done)|(simp [*];done)),H',⟨by have:=HK1.out;have:=HJ4.out;have:=HJ16.out;have:=HJ21.out;have:=HJ35.out;omega⟩,⟨bl⟩⟩
                 ·rw [if_neg c44] at H
                  have c44b0:(((rd_T31 l0 x3_1).f2) == 0)=false:=beq_eq_false_iff_ne.mpr c44
                  have c44b1:(((rd_T31 l0 x3_1).f2) != 0)=true:=bne_iff_ne.mpr c44
                  obtain rfl:=Option.some.inj H
                  obtain ⟨hcz50_0,hcz50_1,hcz50_2,hfz50_0,hfz50_1,hfz50_2⟩:=ck3 BK104.out
                  go_wp2_with (first|((with_reducible refine gate_callee (f:=15) rfl ?_);refine gl (some 76) Try.func15 #[.int .i64 ((rd_T31 l0 x3_1).f0),.int .i64 7,.int .i64 9] ?_;(with_reducible refine (spec_l01In.calls ((rd_T31 l0 x3_1).f0) 7 9 true _ A42.out).mono ?_);rintro e w' ⟨rfl,⟨nd,rfl⟩⟩;refine ⟨_,rfl,?_⟩))
                  go_ret
                  exact ⟨er,bl⟩
                ·replace c43:=Bool.eq_false_iff.mpr c43
                 subst c43
                 rw [if_neg nft] at H
                 by_cases c51:((rd_T31 l0 x3_1).f0)=11
                 ·rw [if_pos c51] at H
                  have c51b0:(((rd_T31 l0 x3_1).f0) == 11)=true:=beq_iff_eq.mpr c51
                  have c51b1:(((rd_T31 l0 x3_1).f0) != 11)=false:=bne_eq_false_iff_eq.mpr c51
                  clear c51
                  by_cases c52:((rd_T31 l0 x3_1).f2) > 3
                  ·rw [if_pos c52] at H
                   have c52b0:decide (3 < ((rd_T31 l0 x3_1).f2))=true:=decide_eq_true c52
                   clear c52
                   obtain rfl:=Option.some.inj H
                   obtain ⟨hcz53_0,hcz53_1,hcz53_2,hfz53_0,hfz53_1,hfz53_2⟩:=ck3 BK104.out
                   go_wp2_with (first|((with_reducible refine gate_callee (f:=15) rfl ?_);refine gl (some 76) Try.func15 #[.int .i64 ((rd_T31 l0 x3_1).f0),.int .i64 7,.int .i64 9] ?_;(with_reducible refine (spec_l01In.calls ((rd_T31 l0 x3_1).f0) 7 9 false _ A42.out).mono ?_);rintro e w' ⟨rfl,⟨nd,rfl⟩⟩;refine ⟨_,rfl,?_⟩))
                   go_ret
                   exact ⟨er,bl⟩
                  ·rw [if_neg c52] at H
                   have c52b0:decide (3 < ((rd_T31 l0 x3_1).f2))=false:=decide_eq_false c52
                   clear c52
                   have H':=Aside0.mk H
                   clear H
                   obtain ⟨hcz54_0,hcz54_1,hcz54_2,hfz54_0,hfz54_1,hfz54_2⟩:=ck3 BK104.out
                   go_wp2_with (first|((with_reducible refine gate_callee (f:=15) rfl ?_);refine gl (some 76) Try.func15 #[.int .i64 ((rd_T31 l0 x3_1).f0),.int .i64 7,.int .i64 9] ?_;(with_reducible refine (spec_l01In.calls ((rd_T31 l0 x3_1).f0) 7 9 false _ A42.out).mono ?_);rintro e w' ⟨rfl,⟨nd,rfl⟩⟩;refine ⟨_,rfl,?_⟩))
                   go_roundg kj35
                   case measure=>have:=HK1.out;have:=HJ4.out;have:=HJ16.out;have:=HJ21.out;have:=HJ35.out;omega
                   case rel=>exact ⟨(wrap64 (x3_1 + 1)),(by first|rfl|(simp;done)|(simp [*];done)),H',⟨by have:=HK1.out;have:=HJ4.out;have:=HJ16.out;have:=HJ21.out;have:=HJ35.out;omega⟩,⟨bl⟩⟩
                 ·rw [if_neg c51] at H
                  have c51b0:(((rd_T31 l0 x3_1).f0) == 11)=false:=beq_eq_false_iff_ne.mpr c51
                  have c51b1:(((rd_T31 l0 x3_1).f0) != 11)=true:=bne_iff_ne.mpr c51
                  have H':=Aside0.mk H
                  clear H
                  obtain ⟨hcz55_0,hcz55_1,hcz55_2,hfz55_0,hfz55_1,hfz55_2⟩:=ck3 BK104.out
                  go_wp2_with (first|((with_reducible refine gate_callee (f:=15) rfl ?_);refine gl (some 76) Try.func15 #[.int .i64 ((rd_T31 l0 x3_1).f0),.int .i64 7,.int .i64 9] ?_;(with_reducible refine (spec_l01In.calls ((rd_T31 l0 x3_1).f0) 7 9 false _ A42.out).mono ?_);rintro e w' ⟨rfl,⟨nd,rfl⟩⟩;refine ⟨_,rfl,?_⟩))
                  go_roundg kj35
                  case measure=>have:=HK1.out;have:=HJ4.out;have:=HJ16.out;have:=HJ21.out;have:=HJ35.out;omega
                  case rel=>exact ⟨(wrap64 (x3_1 + 1)),(by first|rfl|(simp;done)|(simp [*];done)),H',⟨by have:=HK1.out;have:=HJ4.out;have:=HJ16.out;have:=HJ21.out;have:=HJ35.out;omega⟩,⟨bl⟩⟩
    ·rw [if_neg c3] at H
     have c3b0:decide (x3_1 < (l0.length:Int))=false:=decide_eq_false c3
     clear c3
     obtain rfl:=Option.some.inj H
     go_wp2
     go_ret
     exact ⟨er,bl⟩

end Go.Proofs.Ytfnphdikfialnaa.PFnExactAnsweredOnce
