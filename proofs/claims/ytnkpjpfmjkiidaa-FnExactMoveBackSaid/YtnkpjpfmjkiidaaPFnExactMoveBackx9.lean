/- Contracts of functions of the given program: what each call answers. Written by a program of this session, out of the text of the functions. -/
import Derived.Test.YtnkpjpfmjkiidaaPFnExactMoveBackx0
import Derived.Test.YtnkpjpfmjkiidaaPFnExactMoveBackx5
import Derived.Test.YtnkpjpfmjkiidaaPFnExactMoveBackx7
import Derived.Test.YtnkpjpfmjkiidaaPFnExactMoveBackx8
import Derived.Test.YtnkpjpfmjkiidaaZFnExactMoveBack
namespace Go.Proofs.Ytnkpjpfmjkiidaa.PFnExactMoveBack
open Go.RowKit Go.Proofs.YtnkpjpfmjkiidaaW.PrintWords Go.Proofs.YtnkpjpfmjkiidaaW.PrintLast Go.Proofs.YtnkpjpfmjkiidaaW.PrintMore Go.Proofs.Ytnkpjpfmjkiidaa.Giv Go.Proofs.Ytnkpjpfmjkiidaa.Prs
attribute [local go_sem] max2_int min2_int max_two min_two max_three min_three max_four min_four   -- for this text's walks alone
set_option linter.unusedVariables false
set_option linter.unusedSimpArgs false

/-! ### impl_RemoveAt: function 54 -/
def impl_RemoveAt.j0:Nat→Int→Bool→List (S97)→Int→Int→Int→Int→List (S97)→Int→Int→Int→Int→Option ((List (S97)) × Int × Int × Int × Int × Int)
 | 0,_,_,_,_,_,_,_,_,_,_,_,_=>none
 | k + 1,x1,x26,x264000,x264001,x264002,x264003,x264004,x273000,x273001,x273002,x273003,x273004=>if x26=true then (some (x273000,x273001,x273002,x273003,x273004,0)) else (if 0≤x1 then (if x1 < (x264000.length:Int) then (if ((rd_T97 x264000 x1).f1) ≥ 0 then (if 0≤((rd_T97 x264000 x1).f1) then (if ((rd_T97 x264000 x1).f1) < (x273000.length:Int) then ((some (x273000.set (((rd_T97 x264000 x1).f1):Int).toNat (⟨(rd_T97 x273000 ((rd_T97 x264000 x1).f1)).f0,(rd_T97 x273000 ((rd_T97 x264000 x1).f1)).f1,(rd_T97 x264000 x1).f2,(rd_T97 x273000 ((rd_T97 x264000 x1).f1)).f3⟩:S97):List (S97))).bind fun y278=>(if ((rd_T97 x264000 x1).f2) ≥ 0 then (if 0≤((rd_T97 x264000 x1).f2) then (if ((rd_T97 x264000 x1).f2) < (x273000.length:Int) then (if x1 < (x273000.length:Int) then (some (((y278.set (((rd_T97 x264000 x1).f2):Int).toNat (⟨(rd_T97 y278 ((rd_T97 x264000 x1).f2)).f0,(rd_T97 x264000 x1).f1,(rd_T97 y278 ((rd_T97 x264000 x1).f2)).f2,(rd_T97 y278 ((rd_T97 x264000 x1).f2)).f3⟩:S97)).set (x1:Int).toNat (⟨0,(-1),x264003,false⟩:S97)),x273001,x273002,x1,wrap64 (x273004 - 1),(rd_T97 x264000 x1).f0)) else (none)) else (none)) else (none)) else (if x1 < (x273000.length:Int) then (some ((y278.set (x1:Int).toNat (⟨0,(-1),x264003,false⟩:S97)),x273001,(rd_T97 x264000 x1).f1,x1,wrap64 (x273004 - 1),(rd_T97 x264000 x1).f0)) else (none)))) else (none)) else (none)) else (if ((rd_T97 x264000 x1).f2) ≥ 0 then (if 0≤((rd_T97 x264000 x1).f2) then (if ((rd_T97 x264000 x1).f2) < (x273000.length:Int) then (if x1 < (x273000.length:Int) then (some (((x273000.set (((rd_T97 x264000 x1).f2):Int).toNat (⟨(rd_T97 x273000 ((rd_T97 x264000 x1).f2)).f0,(rd_T97 x264000 x1).f1,(rd_T97 x273000 ((rd_T97 x264000 x1).f2)).f2,(rd_T97 x273000 ((rd_T97 x264000 x1).f2)).f3⟩:S97)).set (x1:Int).toNat (⟨0,(-1),x264003,false⟩:S97)),(rd_T97 x264000 x1).f2,x273002,x1,wrap64 (x273004 - 1),(rd_T97 x264000 x1).f0)) else (none)) else (none)) else (none)) else (if x1 < (x273000.length:Int) then (some ((x273000.set (x1:Int).toNat (⟨0,(-1),x264003,false⟩:S97)),(rd_T97 x264000 x1).f2,(rd_T97 x264000 x1).f1,x1,wrap64 (x273004 - 1),(rd_T97 x264000 x1).f0)) else (none)))) else (none)) else (none))
def impl_RemoveAt.f (k:Nat) (l0_0:List (S97)) (a0_1:Int) (a0_2:Int) (a0_3:Int) (a0_4:Int) (a1:Int):Option ((List (S97)) × Int × Int × Int × Int × Int):=(impl_ownQueue.f l0_0 a0_1 a0_2 a0_3 a0_4).bind fun bt265=>((impl_QueueOk.f k l0_0 a0_1 a0_2 a0_3 a0_4).bind fun t273=>(if t273=true then ((impl_in.f a1 0 59).bind fun t274=>(if t274=true then (if 0≤a1 then (if a1 < (l0_0.length:Int) then (impl_RemoveAt.j0 k a1 (!((rd_T97 l0_0 a1).f3)) l0_0 a0_1 a0_2 a0_3 a0_4 bt265.1 bt265.2.1 bt265.2.2.1 bt265.2.2.2.1 bt265.2.2.2.2) else (none)) else (none)) else (impl_RemoveAt.j0 k a1 true l0_0 a0_1 a0_2 a0_3 a0_4 bt265.1 bt265.2.1 bt265.2.2.1 bt265.2.2.2.1 bt265.2.2.2.2))) else (impl_RemoveAt.j0 k a1 true l0_0 a0_1 a0_2 a0_3 a0_4 bt265.1 bt265.2.1 bt265.2.2.1 bt265.2.2.2.1 bt265.2.2.2.2)))
theorem impl_RemoveAt.mono_l:∀ k,(∀ y0 y1 y2 y3 y4 y5 y6 y7 y8 y9 y10 y11,LeO (impl_RemoveAt.j0 k y0 y1 y2 y3 y4 y5 y6 y7 y8 y9 y10 y11) (impl_RemoveAt.j0 (k + 1) y0 y1 y2 y3 y4 y5 y6 y7 y8 y9 y10 y11))
 | 0=>fun _ _ _ _ _ _ _ _ _ _ _ _ r h=>by simp [impl_RemoveAt.j0] at h
 | k + 1=>by
  have ih0:=impl_RemoveAt.mono_l k
  ·intro y0 y1 y2 y3 y4 y5 y6 y7 y8 y9 y10 y11
   unfold impl_RemoveAt.j0
   repeat' first
   | (with_reducible exact ih0 _ _ _ _ _ _ _ _ _ _ _ _)
   | (with_reducible exact impl_QueueOk.mono _ _ _ _ _ _)
   | (with_reducible exact LeO.refl _)
   | (with_reducible exact LeO.none _)
   | (with_reducible refine LeO.ite ?_ ?_)
   | (with_reducible refine LeO.bind ?_ (fun _=>?_))
   | exact ih0 _ _ _ _ _ _ _ _ _ _ _ _
   | exact impl_QueueOk.mono _ _ _ _ _ _
   | exact LeO.none _
   | refine LeO.ite ?_ ?_
   | refine LeO.bind ?_ (fun _=>?_)
theorem impl_RemoveAt.mono:∀ a0 a1 a2 a3 a4 a5 k,LeO (impl_RemoveAt.f k a0 a1 a2 a3 a4 a5) (impl_RemoveAt.f (k + 1) a0 a1 a2 a3 a4 a5):=by
 intro a0 a1 a2 a3 a4 a5 k
 have ih0:=impl_RemoveAt.mono_l k
 unfold impl_RemoveAt.f
 repeat' first
   | (with_reducible exact ih0 _ _ _ _ _ _ _ _ _ _ _ _)
   | (with_reducible exact impl_QueueOk.mono _ _ _ _ _ _)
   | (with_reducible exact LeO.refl _)
   | (with_reducible exact LeO.none _)
   | (with_reducible refine LeO.ite ?_ ?_)
   | (with_reducible refine LeO.bind ?_ (fun _=>?_))
   | exact ih0 _ _ _ _ _ _ _ _ _ _ _ _
   | exact impl_QueueOk.mono _ _ _ _ _ _
   | exact LeO.none _
   | refine LeO.ite ?_ ?_
   | refine LeO.bind ?_ (fun _=>?_)
set_option maxHeartbeats 8000000 in
set_option maxRecDepth 100000 in
theorem impl_RemoveAt.calls (k:Nat) (A0_0:Option Addr) (c0_0:Nat) (l0_0:List (S97)) (a0_1:Int) (a0_2:Int) (a0_3:Int) (a0_4:Int) (a1:Int) (r1:List (S97)) (r2:Int) (r3:Int) (r4:Int) (r5:Int) (r6:Int) (w:World) (hr0_0:Kd.C k97 w A0_0 l0_0.length l0_0) (hc0_0:l0_0.length≤c0_0) (h:impl_RemoveAt.f k l0_0 a0_1 a0_2 a0_3 a0_4 a1=some (r1,r2,r3,r4,r5,r6)) :
  Calls Try.prog 54 #[.agg #[.slice A0_0 l0_0.length c0_0,.int .i64 a0_1,.int .i64 a0_2,.int .i64 a0_3,.int .i64 a0_4],.int .i64 a1] w fun e w'=>∃ v0_:Value,e = .returned (.tuple #[.agg #[v0_,.int .i64 r2,.int .i64 r3,.int .i64 r4,.int .i64 r5],.int .i64 r6])∧Kd.R k97 97 w' w.heap.size (fun _=>True) v0_ r1∧Below w.heap.size w w':=by
 have hu28:=Try.underlying28
 have hu97:=Try.underlying97
 have HR0_0:=Aside0.mk hr0_0
 have HC0_0:=Aside0.mk hc0_0
 clear hr0_0 hc0_0
 have HB:=Aside0.mk (Below.refl w.heap.size w)
 have H:((impl_ownQueue.f l0_0 a0_1 a0_2 a0_3 a0_4).bind fun bt265=>((impl_QueueOk.f k l0_0 a0_1 a0_2 a0_3 a0_4).bind fun t273=>(if t273=true then ((impl_in.f a1 0 59).bind fun t274=>(if t274=true then (if 0≤a1 then (if a1 < (l0_0.length:Int) then (impl_RemoveAt.j0 k a1 (!((rd_T97 l0_0 a1).f3)) l0_0 a0_1 a0_2 a0_3 a0_4 bt265.1 bt265.2.1 bt265.2.2.1 bt265.2.2.2.1 bt265.2.2.2.2) else (none)) else (none)) else (impl_RemoveAt.j0 k a1 true l0_0 a0_1 a0_2 a0_3 a0_4 bt265.1 bt265.2.1 bt265.2.2.1 bt265.2.2.2.1 bt265.2.2.2.2))) else (impl_RemoveAt.j0 k a1 true l0_0 a0_1 a0_2 a0_3 a0_4 bt265.1 bt265.2.1 bt265.2.2.1 bt265.2.2.2.1 bt265.2.2.2.2))))=some (r1,r2,r3,r4,r5,r6):=h
 clear h
 replace H:=Option.bind_eq_some_iff.mp H
 obtain ⟨⟨t265,t268,t269,t270,t271⟩,A30,H⟩:=H
 replace H:((impl_QueueOk.f k l0_0 a0_1 a0_2 a0_3 a0_4).bind fun t273=>(if t273=true then ((impl_in.f a1 0 59).bind fun t274=>(if t274=true then (if 0≤a1 then (if a1 < (l0_0.length:Int) then (impl_RemoveAt.j0 k a1 (!((rd_T97 l0_0 a1).f3)) l0_0 a0_1 a0_2 a0_3 a0_4 t265 t268 t269 t270 t271) else (none)) else (none)) else (impl_RemoveAt.j0 k a1 true l0_0 a0_1 a0_2 a0_3 a0_4 t265 t268 t269 t270 t271))) else (impl_RemoveAt.j0 k a1 true l0_0 a0_1 a0_2 a0_3 a0_4 t265 t268 t269 t270 t271)))=some (r1,r2,r3,r4,r5,r6):=H
 have A3:=Aside0.mk A30
 clear A30
 have HC4:=Aside0.mk H
 clear H
 go_enter Try.func54,Try.ntmps54
 go_upto_region 2 with (first|((with_reducible refine gate_dst (N:=2) rfl ?_);refine bx 2 #[.slice A0_0 l0_0.length c0_0,.int .i64 a0_1,.int .i64 a0_2,.int .i64 a0_3,.int .i64 a0_4] 28 ?_;intro gb263 hg w5 hbox hb;have BK263:=Aside0.mk (hbox);have GW263:=Aside0.mk (bz hg:w.heap.size≤gb263);have GE263:=GW263;replace HB:=Aside0.mk (below_step bl hb);clear hb hbox hg)|((with_reducible refine gate_dst (N:=4) rfl ?_);refine bx 4 #[.slice none 0 0,.int .i64 0,.int .i64 0,.int .i64 0,.int .i64 0] 28 ?_;intro gb264 hg w6 hbox hb;have BK264:=Aside0.mk (hbox);have GW264:=Aside0.mk (bz hg:w.heap.size≤gb264);have GE264:=GW264;replace HB:=Aside0.mk (below_step bl hb);have NB263_264:=Aside0.mk (nl hg BK263:gb263≠gb264);have NB264_263:=Aside0.mk (nr hg BK263:gb264≠gb263);replace BK263:=Aside0.mk (blk_below (bk BK263) hb);clear hb hbox hg;have hnb7:=NB263_264.out;have hnc7:=NB264_263.out;obtain ⟨hcz8_0,hcz8_1,hcz8_2,hcz8_3,hcz8_4,hfz8_0,hfz8_1,hfz8_2,hfz8_3,hfz8_4⟩:=ck5 BK263.out)|((with_reducible refine gate_callee (f:=53) rfl ?_);refine gl Try.func53 #[.agg #[.slice A0_0 l0_0.length c0_0,.int .i64 a0_1,.int .i64 a0_2,.int .i64 a0_3,.int .i64 a0_4]] ?_;(with_reducible refine (impl_ownQueue.calls _ _ l0_0 a0_1 a0_2 a0_3 a0_4 t265 t268 t269 t270 t271 _ ?side1 ?side2 A3.out).mono ?_);(case side1=>exact kc HR0_0);(case side2=>exact HC0_0.out);rintro e w9 ⟨v266,rfl,ho0,hb⟩;refine ⟨_,rfl,?_⟩;have HO267:=Aside0.mk (Kd.R_lower ho0 (below_size bl));replace BK263:=Aside0.mk (blk_below (bk BK263) hb);replace BK264:=Aside0.mk (blk_below (bk BK264) hb);replace HB:=Aside0.mk (below_step bl hb);(try clear hb);(try clear hb2);(try clear hk);(try clear hi);(try clear ho0))|((with_reducible refine gate_dst (N:=6) rfl ?_);refine bx 6 #[.slice none 0 0,.int .i64 0,.int .i64 0,.int .i64 0,.int .i64 0] 28 ?_;intro gb272 hg w10 hbox hb;replace HO267:=Aside0.mk (Kd.R_below (kr HO267) hb);have BK272:=Aside0.mk (hbox);have GW272:=Aside0.mk (bz hg:w.heap.size≤gb272);have GE272:=GW272;replace HB:=Aside0.mk (below_step bl hb);have NB263_272:=Aside0.mk (nl hg BK263:gb263≠gb272);have NB272_263:=Aside0.mk (nr hg BK263:gb272≠gb263);replace BK263:=Aside0.mk (blk_below (bk BK263) hb);have NB264_272:=Aside0.mk (nl hg BK264:gb264≠gb272);have NB272_264:=Aside0.mk (nr hg BK264:gb272≠gb264);replace BK264:=Aside0.mk (blk_below (bk BK264) hb);clear hb hbox hg;obtain ⟨Ao11,co11,eo11⟩:=Kd.R_slice HO267.out;subst eo11;have hnb12:=NB272_263.out;have hnc12:=NB263_272.out;have hnb13:=NB272_264.out;have hnc13:=NB264_272.out;obtain ⟨hcz14_0,hcz14_1,hcz14_2,hcz14_3,hcz14_4,hfz14_0,hfz14_1,hfz14_2,hfz14_3,hfz14_4⟩:=ck5 BK272.out))
 (try simp only [Act.put,List.setIfInBounds_toArray,List.set_cons_zero,List.set_cons_succ])
 go_cut [26] (fun v26 wc=>∃ (kq:Nat) (x26_3:Bool),v26 = .bool x26_3∧Aside0 (impl_RemoveAt.j0 kq a1 x26_3 l0_0 a0_1 a0_2 a0_3 a0_4 t265 t268 t269 t270 t271=some (r1,r2,r3,r4,r5,r6))∧Aside0 (kq≤k)∧Aside0 (Kd.R k97 97 wc w.heap.size (fun _=>True) (.slice Ao11 t265.length co11) t265)∧Aside0 (wc.heap[gb263]? = some (.cells #[(.slice A0_0 l0_0.length c0_0),.int .i64 a0_1,.int .i64 a0_2,.int .i64 a0_3,.int .i64 a0_4] 28 (0,0)))∧Aside0 (wc.heap[gb264]? = some (.cells #[(.slice none 0 0),.int .i64 0,.int .i64 0,.int .i64 0,.int .i64 0] 28 (0,0)))∧Aside0 (wc.heap[gb272]? = some (.cells #[(.slice Ao11 t265.length co11),.int .i64 t268,.int .i64 t269,.int .i64 t270,.int .i64 t271] 28 (0,0)))∧Aside0 (Below w.heap.size w wc))
 case first =>
  have H:=HC4.out
  clear HC4
  replace H:=Option.bind_eq_some_iff.mp H
  obtain ⟨t273,A150,H⟩:=H
  have A15:=Aside0.mk A150
  clear A150
  by_cases c16:t273=true
  ·subst c16
   rw [if_pos rfl] at H
   replace H:=Option.bind_eq_some_iff.mp H
   obtain ⟨t274,A170,H⟩:=H
   have A17:=Aside0.mk A170
   clear A170
   by_cases c18:t274=true
   ·subst c18
    rw [if_pos rfl] at H
    by_cases c19:0≤a1
    ·rw [if_pos c19] at H
     have c19b0:decide (0≤a1)=true:=decide_eq_true c19
     clear c19
     (first|rw [c19b0]|(simp only [i64_w,i32_w];rw [c19b0])|skip)
     by_cases c20:a1 < (l0_0.length:Int)
     ·rw [if_pos c20] at H
      have c20b0:decide (a1 < (l0_0.length:Int))=true:=decide_eq_true c20
      clear c20
      have H':=Aside0.mk H
      clear H
      have hnb21:=NB263_264.out
      have hnc21:=NB264_263.out
      have hnb22:=NB263_272.out
      have hnc22:=NB272_263.out
      obtain ⟨hcz23_0,hcz23_1,hcz23_2,hcz23_3,hcz23_4,hfz23_0,hfz23_1,hfz23_2,hfz23_3,hfz23_4⟩:=ck5 BK263.out
      go_wp2_with (first|((with_reducible refine gate_callee (f:=65) rfl ?_);refine gl Try.func65 #[.agg #[.slice A0_0 l0_0.length c0_0,.int .i64 a0_1,.int .i64 a0_2,.int .i64 a0_3,.int .i64 a0_4]] ?_;(with_reducible refine (impl_QueueOk.calls k _ _ l0_0 a0_1 a0_2 a0_3 a0_4 true _ ?side1 ?side2 A15.out).mono ?_);(case side1=>exact Kd.C_below HR0_0.out bl);(case side2=>exact HC0_0.out);rintro e w24 ⟨rfl,hb⟩;refine ⟨_,rfl,?_⟩;replace HO267:=Aside0.mk (Kd.R_below (by (with_reducible repeat (first|apply Kd.R_alloc|apply Kd.R_drewN|apply Kd.R_drew));exact (Kd.R_mono (Kd.R_far (p:=⟨gb272,4,none⟩) (Kd.R_far (p:=⟨gb272,3,none⟩) (Kd.R_far (p:=⟨gb272,2,none⟩) (Kd.R_far (p:=⟨gb272,1,none⟩) (Kd.R_far (p:=⟨gb272,0,none⟩) (Kd.R_types HO267.out BK272.out (by decide)) (fun _ hk=>hk.2) (.slice Ao11 t265.length co11)) (fun _ hk=>hk.2) (.int .i64 t268)) (fun _ hk=>hk.2) (.int .i64 t269)) (fun _ hk=>hk.2) (.int .i64 t270)) (fun _ hk=>hk.2) (.int .i64 t271)) (fun _ h_=>h_.1))) hb);replace BK263:=Aside0.mk (blk_below (g:=gb263) (o:=.cells #[.slice A0_0 l0_0.length c0_0,.int .i64 a0_1,.int .i64 a0_2,.int .i64 a0_3,.int .i64 a0_4] 28 (0,0)) (bf BK263) hb);replace BK264:=Aside0.mk (blk_below (g:=gb264) (o:=.cells #[.slice none 0 0,.int .i64 0,.int .i64 0,.int .i64 0,.int .i64 0] 28 (0,0)) (bf BK264) hb);replace BK272:=Aside0.mk (blk_below (g:=gb272) (o:=.cells #[.slice Ao11 t265.length co11,.int .i64 t268,.int .i64 t269,.int .i64 t270,.int .i64 t271] 28 (0,0)) (by (with_reducible repeat (first|refine blk_drewN ?_ _|refine blk_drew ?_|refine blk_alloc ?_ _));refine blk_put (cs:=#[.slice Ao11 t265.length co11,.int .i64 t268,.int .i64 t269,.int .i64 t270,.int .i64 0]) ?_ 4 _ rfl;(with_reducible repeat (first|refine blk_drewN ?_ _|refine blk_drew ?_|refine blk_alloc ?_ _));refine blk_put (cs:=#[.slice Ao11 t265.length co11,.int .i64 t268,.int .i64 t269,.int .i64 0,.int .i64 0]) ?_ 3 _ rfl;(with_reducible repeat (first|refine blk_drewN ?_ _|refine blk_drew ?_|refine blk_alloc ?_ _));refine blk_put (cs:=#[.slice Ao11 t265.length co11,.int .i64 t268,.int .i64 0,.int .i64 0,.int .i64 0]) ?_ 2 _ rfl;(with_reducible repeat (first|refine blk_drewN ?_ _|refine blk_drew ?_|refine blk_alloc ?_ _));refine blk_put (cs:=#[.slice Ao11 t265.length co11,.int .i64 0,.int .i64 0,.int .i64 0,.int .i64 0]) ?_ 1 _ rfl;(with_reducible repeat (first|refine blk_drewN ?_ _|refine blk_drew ?_|refine blk_alloc ?_ _));refine blk_put (cs:=#[.slice none 0 0,.int .i64 0,.int .i64 0,.int .i64 0,.int .i64 0]) ?_ 0 _ rfl;(with_reducible repeat (first|refine blk_drewN ?_ _|refine blk_drew ?_|refine blk_alloc ?_ _));exact BK272.out) hb);replace HB:=Aside0.mk (below_step bl hb);(try clear hb);(try clear hb2);(try clear hk);(try clear hi))|(go_at_call 88;(with_reducible refine (impl_in.calls a1 0 59 true _ A17.out).mono ?_);rintro e w' ⟨rfl,⟨nd,rfl⟩⟩;obtain ⟨hcz25_0,hcz25_1,hcz25_2,hcz25_3,hcz25_4,hfz25_0,hfz25_1,hfz25_2,hfz25_3,hfz25_4⟩:=ck5 BK263.out;have p275:0≤(a1:Int):=of_decide_eq_true (by first|(with_reducible assumption)|assumption);have q275:a1 < (l0_0.length:Int):=of_decide_eq_true (by first|(with_reducible assumption)|assumption);obtain ⟨ad275,e275,hx275_0,hx275_1,hx275_2,hx275_3⟩:=at_T97 HR0_0.out a1 p275 q275;cases e275;replace hx275_0:=cl HB hx275_0;replace hx275_1:=cl HB hx275_1;replace hx275_2:=cl HB hx275_2;replace hx275_3:=cl HB hx275_3;replace p275:=eq_true p275;replace q275:=eq_true q275))
      go_meet
      case rel=>exact ⟨_,(!((rd_T97 l0_0 a1).f3)),(by first|rfl|(simp;done)|(simp [*];done)),H',⟨by first|omega|exact Nat.le_refl _⟩,⟨kr HO267⟩,⟨bk BK263⟩,⟨bk BK264⟩,⟨bk BK272⟩,⟨bl⟩⟩
     ·rw [if_neg c20] at H
      exact absurd H (by simp)
    ·rw [if_neg c19] at H
     exact absurd H (by simp)
   ·replace c18:=Bool.eq_false_iff.mpr c18
    subst c18
    rw [if_neg nft] at H
    have H':=Aside0.mk H
    clear H
    have hnb26:=NB263_264.out
    have hnc26:=NB264_263.out
    have hnb27:=NB263_272.out
    have hnc27:=NB272_263.out
    obtain ⟨hcz28_0,hcz28_1,hcz28_2,hcz28_3,hcz28_4,hfz28_0,hfz28_1,hfz28_2,hfz28_3,hfz28_4⟩:=ck5 BK263.out
    go_wp2_with (first|((with_reducible refine gate_callee (f:=65) rfl ?_);refine gl Try.func65 #[.agg #[.slice A0_0 l0_0.length c0_0,.int .i64 a0_1,.int .i64 a0_2,.int .i64 a0_3,.int .i64 a0_4]] ?_;(with_reducible refine (impl_QueueOk.calls k _ _ l0_0 a0_1 a0_2 a0_3 a0_4 true _ ?side1 ?side2 A15.out).mono ?_);(case side1=>exact Kd.C_below HR0_0.out bl);(case side2=>exact HC0_0.out);rintro e w29 ⟨rfl,hb⟩;refine ⟨_,rfl,?_⟩;replace HO267:=Aside0.mk (Kd.R_below (by (with_reducible repeat (first|apply Kd.R_alloc|apply Kd.R_drewN|apply Kd.R_drew));exact (Kd.R_mono (Kd.R_far (p:=⟨gb272,4,none⟩) (Kd.R_far (p:=⟨gb272,3,none⟩) (Kd.R_far (p:=⟨gb272,2,none⟩) (Kd.R_far (p:=⟨gb272,1,none⟩) (Kd.R_far (p:=⟨gb272,0,none⟩) (Kd.R_types HO267.out BK272.out (by decide)) (fun _ hk=>hk.2) (.slice Ao11 t265.length co11)) (fun _ hk=>hk.2) (.int .i64 t268)) (fun _ hk=>hk.2) (.int .i64 t269)) (fun _ hk=>hk.2) (.int .i64 t270)) (fun _ hk=>hk.2) (.int .i64 t271)) (fun _ h_=>h_.1))) hb);replace BK263:=Aside0.mk (blk_below (g:=gb263) (o:=.cells #[.slice A0_0 l0_0.length c0_0,.int .i64 a0_1,.int .i64 a0_2,.int .i64 a0_3,.int .i64 a0_4] 28 (0,0)) (bf BK263) hb);replace BK264:=Aside0.mk (blk_below (g:=gb264) (o:=.cells #[.slice none 0 0,.int .i64 0,.int .i64 0,.int .i64 0,.int .i64 0] 28 (0,0)) (bf BK264) hb);replace BK272:=Aside0.mk (blk_below (g:=gb272) (o:=.cells #[.slice Ao11 t265.length co11,.int .i64 t268,.int .i64 t269,.int .i64 t270,.int .i64 t271] 28 (0,0)) (by (with_reducible repeat (first|refine blk_drewN ?_ _|refine blk_drew ?_|refine blk_alloc ?_ _));refine blk_put (cs:=#[.slice Ao11 t265.length co11,.int .i64 t268,.int .i64 t269,.int .i64 t270,.int .i64 0]) ?_ 4 _ rfl;(with_reducible repeat (first|refine blk_drewN ?_ _|refine blk_drew ?_|refine blk_alloc ?_ _));refine blk_put (cs:=#[.slice Ao11 t265.length co11,.int .i64 t268,.int .i64 t269,.int .i64 0,.int .i64 0]) ?_ 3 _ rfl;(with_reducible repeat (first|refine blk_drewN ?_ _|refine blk_drew ?_|refine blk_alloc ?_ _));refine blk_put (cs:=#[.slice Ao11 t265.length co11,.int .i64 t268,.int .i64 0,.int .i64 0,.int .i64 0]) ?_ 2 _ rfl;(with_reducible repeat (first|refine blk_drewN ?_ _|refine blk_drew ?_|refine blk_alloc ?_ _));refine blk_put (cs:=#[.slice Ao11 t265.length co11,.int .i64 0,.int .i64 0,.int .i64 0,.int .i64 0]) ?_ 1 _ rfl;(with_reducible repeat (first|refine blk_drewN ?_ _|refine blk_drew ?_|refine blk_alloc ?_ _));refine blk_put (cs:=#[.slice none 0 0,.int .i64 0,.int .i64 0,.int .i64 0,.int .i64 0]) ?_ 0 _ rfl;(with_reducible repeat (first|refine blk_drewN ?_ _|refine blk_drew ?_|refine blk_alloc ?_ _));exact BK272.out) hb);replace HB:=Aside0.mk (below_step bl hb);(try clear hb);(try clear hb2);(try clear hk);(try clear hi))|(go_at_call 88;(with_reducible refine (impl_in.calls a1 0 59 false _ A17.out).mono ?_);rintro e w' ⟨rfl,⟨nd,rfl⟩⟩))
    go_meet
    case rel=>exact ⟨_,(true),(by first|rfl|(simp;done)|(simp [*];done)),H',⟨by first|omega|exact Nat.le_refl _⟩,⟨kr HO267⟩,⟨bk BK263⟩,⟨bk BK264⟩,⟨bk BK272⟩,⟨bl⟩⟩
  ·replace c16:=Bool.eq_false_iff.mpr c16
   subst c16
   rw [if_neg nft] at H
   have H':=Aside0.mk H
   clear H
   have hnb30:=NB263_264.out
   have hnc30:=NB264_263.out
   have hnb31:=NB263_272.out
   have hnc31:=NB272_263.out
   obtain ⟨hcz32_0,hcz32_1,hcz32_2,hcz32_3,hcz32_4,hfz32_0,hfz32_1,hfz32_2,hfz32_3,hfz32_4⟩:=ck5 BK263.out
   go_wp2_with (first|((with_reducible refine gate_callee (f:=65) rfl ?_);refine gl Try.func65 #[.agg #[.slice A0_0 l0_0.length c0_0,.int .i64 a0_1,.int .i64 a0_2,.int .i64 a0_3,.int .i64 a0_4]] ?_;(with_reducible refine (impl_QueueOk.calls k _ _ l0_0 a0_1 a0_2 a0_3 a0_4 false _ ?side1 ?side2 A15.out).mono ?_);(case side1=>exact Kd.C_below HR0_0.out bl);(case side2=>exact HC0_0.out);rintro e w33 ⟨rfl,hb⟩;refine ⟨_,rfl,?_⟩;replace HO267:=Aside0.mk (Kd.R_below (by (with_reducible repeat (first|apply Kd.R_alloc|apply Kd.R_drewN|apply Kd.R_drew));exact (Kd.R_mono (Kd.R_far (p:=⟨gb272,4,none⟩) (Kd.R_far (p:=⟨gb272,3,none⟩) (Kd.R_far (p:=⟨gb272,2,none⟩) (Kd.R_far (p:=⟨gb272,1,none⟩) (Kd.R_far (p:=⟨gb272,0,none⟩) (Kd.R_types HO267.out BK272.out (by decide)) (fun _ hk=>hk.2) (.slice Ao11 t265.length co11)) (fun _ hk=>hk.2) (.int .i64 t268)) (fun _ hk=>hk.2) (.int .i64 t269)) (fun _ hk=>hk.2) (.int .i64 t270)) (fun _ hk=>hk.2) (.int .i64 t271)) (fun _ h_=>h_.1))) hb);replace BK263:=Aside0.mk (blk_below (g:=gb263) (o:=.cells #[.slice A0_0 l0_0.length c0_0,.int .i64 a0_1,.int .i64 a0_2,.int .i64 a0_3,.int .i64 a0_4] 28 (0,0)) (bf BK263) hb);replace BK264:=Aside0.mk (blk_below (g:=gb264) (o:=.cells #[.slice none 0 0,.int .i64 0,.int .i64 0,.int .i64 0,.int .i64 0] 28 (0,0)) (bf BK264) hb);replace BK272:=Aside0.mk (blk_below (g:=gb272) (o:=.cells #[.slice Ao11 t265.length co11,.int .i64 t268,.int .i64 t269,.int .i64 t270,.int .i64 t271] 28 (0,0)) (by (with_reducible repeat (first|refine blk_drewN ?_ _|refine blk_drew ?_|refine blk_alloc ?_ _));refine blk_put (cs:=#[.slice Ao11 t265.length co11,.int .i64 t268,.int .i64 t269,.int .i64 t270,.int .i64 0]) ?_ 4 _ rfl;(with_reducible repeat (first|refine blk_drewN ?_ _|refine blk_drew ?_|refine blk_alloc ?_ _));refine blk_put (cs:=#[.slice Ao11 t265.length co11,.int .i64 t268,.int .i64 t269,.int .i64 0,.int .i64 0]) ?_ 3 _ rfl;(with_reducible repeat (first|refine blk_drewN ?_ _|refine blk_drew ?_|refine blk_alloc ?_ _));refine blk_put (cs:=#[.slice Ao11 t265.length co11,.int .i64 t268,.int .i64 0,.int .i64 0,.int .i64 0]) ?_ 2 _ rfl;(with_reducible repeat (first|refine blk_drewN ?_ _|refine blk_drew ?_|refine blk_alloc ?_ _));refine blk_put (cs:=#[.slice Ao11 t265.length co11,.int .i64 0,.int .i64 0,.int .i64 0,.int .i64 0]) ?_ 1 _ rfl;(with_reducible repeat (first|refine blk_drewN ?_ _|refine blk_drew ?_|refine blk_alloc ?_ _));refine blk_put (cs:=#[.slice none 0 0,.int .i64 0,.int .i64 0,.int .i64 0,.int .i64 0]) ?_ 0 _ rfl;(with_reducible repeat (first|refine blk_drewN ?_ _|refine blk_drew ?_|refine blk_alloc ?_ _));exact BK272.out) hb);replace HB:=Aside0.mk (below_step bl hb);(try clear hb);(try clear hb2);(try clear hk);(try clear hi)))
   go_meet
   case rel=>exact ⟨_,(true),(by first|rfl|(simp;done)|(simp [*];done)),H',⟨by first|omega|exact Nat.le_refl _⟩,⟨kr HO267⟩,⟨bk BK263⟩,⟨bk BK264⟩,⟨bk BK272⟩,⟨bl⟩⟩
 case rest =>
  clear HC4
  try clear c1
  try clear c2
  try clear p2
  try clear q2
  try clear hx2
  try clear c3
  try clear c5
  try clear c6
  try clear c7
  try clear c12
  try clear c13
  try clear c16
  try clear c18
  try clear c19
  try clear c19b0
  try clear c20
  try clear c20b0
  try clear c21
  try clear c22
  try clear c26
  try clear c27
  try clear p27
  try clear q27
  try clear hx27
  try clear c30
  try clear c31
  try clear hcz14_0
  try clear hcz14_1
  try clear hcz14_2
  try clear hcz14_3
  try clear hcz14_4
  try clear hcz23_0
  try clear hcz23_1
  try clear hcz23_2
  try clear hcz23_3
  try clear hcz23_4
  try clear hcz25_0
  try clear hcz25_1
  try clear hcz25_2
  try clear hcz25_3
  try clear hcz25_4
  try clear hcz28_0
  try clear hcz28_1
  try clear hcz28_2
  try clear hcz28_3
  try clear hcz28_4
  try clear hcz32_0
  try clear hcz32_1
  try clear hcz32_2
  try clear hcz32_3
  try clear hcz32_4
  try clear hcz8_0
  try clear hcz8_1
  try clear hcz8_2
  try clear hcz8_3
  try clear hcz8_4
  try clear hfz14_0
  try clear hfz14_1
  try clear hfz14_2
  try clear hfz14_3
  try clear hfz14_4
  try clear hfz23_0
  try clear hfz23_1
  try clear hfz23_2
  try clear hfz23_3
  try clear hfz23_4
  try clear hfz25_0
  try clear hfz25_1
  try clear hfz25_2
  try clear hfz25_3
  try clear hfz25_4
  try clear hfz28_0
  try clear hfz28_1
  try clear hfz28_2
  try clear hfz28_3
  try clear hfz28_4
  try clear hfz32_0
  try clear hfz32_1
  try clear hfz32_2
  try clear hfz32_3
  try clear hfz32_4
  try clear hfz8_0
  try clear hfz8_1
  try clear hfz8_2
  try clear hfz8_3
  try clear hfz8_4
  try clear hx275_0
  try clear hx275_1
  try clear hx275_2
  try clear hx275_3
  try clear p275
  try clear q275
  obtain ⟨kq,x26_3,rfl,HA,HJ3,HO_273000,BK263,BK264,BK272,HB⟩:=hcut
  cases kq with
  | zero=>exact absurd HA.out (by simp [impl_RemoveAt.j0])
  | succ kj3 =>
   have H:=HA.out
   clear HA
   simp only [impl_RemoveAt.j0] at H
   by_cases c34:x26_3=true
   ·subst c34
    rw [if_pos rfl] at H
    simp only [Option.some.injEq,Prod.mk.injEq] at H
    obtain ⟨rfl,rfl,rfl,rfl,rfl,rfl⟩:=H
    have hnb35:=NB272_263.out
    have hnc35:=NB263_272.out
    have hnb36:=NB272_264.out
    have hnc36:=NB264_272.out
    obtain ⟨hcz37_0,hcz37_1,hcz37_2,hcz37_3,hcz37_4,hfz37_0,hfz37_1,hfz37_2,hfz37_3,hfz37_4⟩:=ck5 BK272.out
    have hnb38:=NB264_263.out
    have hnc38:=NB263_264.out
    obtain ⟨hcz39_0,hcz39_1,hcz39_2,hcz39_3,hcz39_4,hfz39_0,hfz39_1,hfz39_2,hfz39_3,hfz39_4⟩:=ck5 BK264.out
    go_wp2
    refine bodyPost_ret (results_ct rfl _ _ gb264 28 #[.slice Ao11 t265.length co11,.int .i64 t268,.int .i64 t269,.int .i64 t270,.int .i64 t271] (0,0) _ rfl (by (with_reducible repeat (first|refine blk_drewN ?_ _|refine blk_drew ?_|refine blk_alloc ?_ _));refine blk_put (cs:=#[.slice Ao11 t265.length co11,.int .i64 t268,.int .i64 t269,.int .i64 t270,.int .i64 0]) ?_ 4 _ rfl;(with_reducible repeat (first|refine blk_drewN ?_ _|refine blk_drew ?_|refine blk_alloc ?_ _));refine blk_put (cs:=#[.slice Ao11 t265.length co11,.int .i64 t268,.int .i64 t269,.int .i64 0,.int .i64 0]) ?_ 3 _ rfl;(with_reducible repeat (first|refine blk_drewN ?_ _|refine blk_drew ?_|refine blk_alloc ?_ _));refine blk_put (cs:=#[.slice Ao11 t265.length co11,.int .i64 t268,.int .i64 0,.int .i64 0,.int .i64 0]) ?_ 2 _ rfl;(with_reducible repeat (first|refine blk_drewN ?_ _|refine blk_drew ?_|refine blk_alloc ?_ _));refine blk_put (cs:=#[.slice Ao11 t265.length co11,.int .i64 0,.int .i64 0,.int .i64 0,.int .i64 0]) ?_ 1 _ rfl;(with_reducible repeat (first|refine blk_drewN ?_ _|refine blk_drew ?_|refine blk_alloc ?_ _));refine blk_put (cs:=#[.slice none 0 0,.int .i64 0,.int .i64 0,.int .i64 0,.int .i64 0]) ?_ 0 _ rfl;(with_reducible repeat (first|refine blk_drewN ?_ _|refine blk_drew ?_|refine blk_alloc ?_ _));exact BK264.out) Try.underlying28 rfl (by kernel_rfl)) rfl ?_
    exact ⟨_,by first|rfl|(simp [errW_none,errW_some] <;> rfl)|(simp [*,errW_none,errW_some] <;> rfl),by (with_reducible repeat (first|apply Kd.R_alloc|apply Kd.R_drewN|apply Kd.R_drew));exact Kd.R_mono (Kd.R_far (p:=⟨gb264,4,none⟩) (Kd.R_far (p:=⟨gb264,3,none⟩) (Kd.R_far (p:=⟨gb264,2,none⟩) (Kd.R_far (p:=⟨gb264,1,none⟩) (Kd.R_far (p:=⟨gb264,0,none⟩) (Kd.R_types HO_273000.out BK264.out (by decide)) (fun _ hk=>hk.2) (.slice Ao11 t265.length co11)) (fun _ hk=>hk.2) (.int .i64 t268)) (fun _ hk=>hk.2) (.int .i64 t269)) (fun _ hk=>hk.2) (.int .i64 t270)) (fun _ hk=>hk.2) (.int .i64 t271)) (fun _ hk=>trivial),bl⟩
   ·replace c34:=Bool.eq_false_iff.mpr c34
    subst c34
    rw [if_neg nft] at H
    by_cases c40:0≤a1
    ·rw [if_pos c40] at H
     have c40b0:decide (0≤a1)=true:=decide_eq_true c40
     clear c40
     by_cases c41:a1 < (l0_0.length:Int)
     ·rw [if_pos c41] at H
      have c41b0:decide (a1 < (l0_0.length:Int))=true:=decide_eq_true c41
      clear c41
      by_cases c42:((rd_T97 l0_0 a1).f1) ≥ 0
      ·rw [if_pos c42] at H
       have c42b0:decide (0≤((rd_T97 l0_0 a1).f1))=true:=decide_eq_true c42
       clear c42
       by_cases c43:0≤((rd_T97 l0_0 a1).f1)
       ·rw [if_pos c43] at H
        have c43b0:decide (0≤((rd_T97 l0_0 a1).f1))=true:=decide_eq_true c43
        clear c43
        by_cases c44:((rd_T97 l0_0 a1).f1) < (t265.length:Int)
        ·rw [if_pos c44] at H
         have c44b0:decide (((rd_T97 l0_0 a1).f1) < (t265.length:Int))=true:=decide_eq_true c44
         clear c44
         obtain ⟨y278,hy278⟩:∃ y_:List (S97),y_=(t265.set (((rd_T97 l0_0 a1).f1):Int).toNat (⟨(rd_T97 t265 ((rd_T97 l0_0 a1).f1)).f0,(rd_T97 t265 ((rd_T97 l0_0 a1).f1)).f1,(rd_T97 l0_0 a1).f2,(rd_T97 t265 ((rd_T97 l0_0 a1).f1)).f3⟩:S97)):=⟨_,rfl⟩
         replace H:(if ((rd_T97 l0_0 a1).f2) ≥ 0 then (if 0≤((rd_T97 l0_0 a1).f2) then (if ((rd_T97 l0_0 a1).f2) < (t265.length:Int) then (if a1 < (t265.length:Int) then (some (((y278.set (((rd_T97 l0_0 a1).f2):Int).toNat (⟨(rd_T97 y278 ((rd_T97 l0_0 a1).f2)).f0,(rd_T97 l0_0 a1).f1,(rd_T97 y278 ((rd_T97 l0_0 a1).f2)).f2,(rd_T97 y278 ((rd_T97 l0_0 a1).f2)).f3⟩:S97)).set (a1:Int).toNat (⟨0,(-1),a0_3,false⟩:S97)),t268,t269,a1,wrap64 (t271 - 1),(rd_T97 l0_0 a1).f0)) else (none)) else (none)) else (none)) else (if a1 < (t265.length:Int) then (some ((y278.set (a1:Int).toNat (⟨0,(-1),a0_3,false⟩:S97)),t268,(rd_T97 l0_0 a1).f1,a1,wrap64 (t271 - 1),(rd_T97 l0_0 a1).f0)) else (none)))=some (r1,r2,r3,r4,r5,r6):=by first|(rw [hy278];with_reducible exact H)|(have H2_:=(Option.bind_some _ _).symm.trans H;rw [hy278];with_reducible exact H2_)|(have H2_:=(Option.bind_some _ _).symm.trans H;with_reducible exact H2_)|with_reducible exact H|(rw [hy278];exact H)|exact H
         have Ny278:=Aside0.mk hy278
         clear hy278
         by_cases c46:((rd_T97 l0_0 a1).f2) ≥ 0
         ·rw [if_pos c46] at H
          have c46b0:decide (0≤((rd_T97 l0_0 a1).f2))=true:=decide_eq_true c46
          clear c46
          by_cases c47:0≤((rd_T97 l0_0 a1).f2)
          ·rw [if_pos c47] at H
           have c47b0:decide (0≤((rd_T97 l0_0 a1).f2))=true:=decide_eq_true c47
           clear c47
           by_cases c48:((rd_T97 l0_0 a1).f2) < (t265.length:Int)
           ·rw [if_pos c48] at H
            have c48b0:decide (((rd_T97 l0_0 a1).f2) < (t265.length:Int))=true:=decide_eq_true c48
            clear c48
            obtain ⟨y279,hy279⟩:∃ y_:List (S97),y_=(y278.set (((rd_T97 l0_0 a1).f2):Int).toNat (⟨(rd_T97 y278 ((rd_T97 l0_0 a1).f2)).f0,(rd_T97 l0_0 a1).f1,(rd_T97 y278 ((rd_T97 l0_0 a1).f2)).f2,(rd_T97 y278 ((rd_T97 l0_0 a1).f2)).f3⟩:S97)):=⟨_,rfl⟩
            replace H:(if a1 < (t265.length:Int) then (some ((y279.set (a1:Int).toNat (⟨0,(-1),a0_3,false⟩:S97)),t268,t269,a1,wrap64 (t271 - 1),(rd_T97 l0_0 a1).f0)) else (none))=some (r1,r2,r3,r4,r5,r6):=by first|(rw [hy279];with_reducible exact H)|(have H2_:=(Option.bind_some _ _).symm.trans H;rw [hy279];with_reducible exact H2_)|(have H2_:=(Option.bind_some _ _).symm.trans H;with_reducible exact H2_)|with_reducible exact H|(rw [hy279];exact H)|exact H
            have Ny279:=Aside0.mk hy279
            clear hy279
            by_cases c50:a1 < (t265.length:Int)
            ·rw [if_pos c50] at H
             have c50b0:decide (a1 < (t265.length:Int))=true:=decide_eq_true c50
             clear c50
             obtain ⟨y280,hy280⟩:∃ y_:List (S97),y_=(y279.set (a1:Int).toNat (⟨0,(-1),a0_3,false⟩:S97)):=⟨_,rfl⟩
             replace H:(some (y280,t268,t269,a1,wrap64 (t271 - 1),(rd_T97 l0_0 a1).f0))=some (r1,r2,r3,r4,r5,r6):=by first|(rw [hy280];with_reducible exact H)|(have H2_:=(Option.bind_some _ _).symm.trans H;rw [hy280];with_reducible exact H2_)|(have H2_:=(Option.bind_some _ _).symm.trans H;with_reducible exact H2_)|with_reducible exact H|(rw [hy280];exact H)|exact H
             have Ny280:=Aside0.mk hy280
             clear hy280
             simp only [Option.some.injEq,Prod.mk.injEq] at H
             obtain ⟨rfl,rfl,rfl,rfl,rfl,rfl⟩:=H
             have hnb52:=NB263_264.out
             have hnc52:=NB264_263.out
             have hnb53:=NB263_272.out
             have hnc53:=NB272_263.out
             obtain ⟨hcz54_0,hcz54_1,hcz54_2,hcz54_3,hcz54_4,hfz54_0,hfz54_1,hfz54_2,hfz54_3,hfz54_4⟩:=ck5 BK263.out
             have p276:0≤(a1:Int):=of_decide_eq_true (by first|(with_reducible assumption)|assumption)
             have q276:a1 < (l0_0.length:Int):=of_decide_eq_true (by first|(with_reducible assumption)|assumption)
             obtain ⟨ad276,e276,hx276_0,hx276_1,hx276_2,hx276_3⟩:=at_T97 HR0_0.out a1 p276 q276
             cases e276
             replace hx276_0:=cl HB hx276_0
             replace hx276_1:=cl HB hx276_1
             replace hx276_2:=cl HB hx276_2
             replace hx276_3:=cl HB hx276_3
             replace p276:=eq_true p276
             replace q276:=eq_true q276
             try go_wp2_with (first|((with_reducible refine gate_dst (N:=7) rfl ?_);refine bx 7 #[.int .i64 0,.int .i64 0,.int .i64 0,.bool false] 97 ?_;intro gb277 hg w55 hbox hb;replace HO_273000:=Aside0.mk (Kd.R_below (Kd.R_elderB (kr HO_273000) gb277 (Nat.le_of_eq hg.symm)) hb);have BK277:=Aside0.mk (hbox);have GW277:=Aside0.mk (bz hg:w.heap.size≤gb277);have GE277:=GW277;replace HB:=Aside0.mk (below_step bl hb);have NB263_277:=Aside0.mk (nl hg BK263:gb263≠gb277);have NB277_263:=Aside0.mk (nr hg BK263:gb277≠gb263);replace BK263:=Aside0.mk (blk_below (bk BK263) hb);have NB264_277:=Aside0.mk (nl hg BK264:gb264≠gb277);have NB277_264:=Aside0.mk (nr hg BK264:gb277≠gb264);replace BK264:=Aside0.mk (blk_below (bk BK264) hb);have NB272_277:=Aside0.mk (nl hg BK272:gb272≠gb277);have NB277_272:=Aside0.mk (nr hg BK272:gb277≠gb272);replace BK272:=Aside0.mk (blk_below (bk BK272) hb);clear hb hbox hg;have hnb56:=NB277_263.out;have hnc56:=NB263_277.out;have hnb57:=NB277_264.out;have hnc57:=NB264_277.out;have hnb58:=NB277_272.out;have hnc58:=NB272_277.out;obtain ⟨hcz59_0,hcz59_1,hcz59_2,hcz59_3,hfz59_0,hfz59_1,hfz59_2,hfz59_3⟩:=ck4 BK277.out)|((with_reducible refine gate_store (t:=97) (p:=7) rfl ?_);refine sx 97 7 ((((w55.setCell ⟨gb277,0,none⟩ (.int .i64 ((rd_T97 l0_0 a1).f0))).setCell ⟨gb277,1,none⟩ (.int .i64 ((rd_T97 l0_0 a1).f1))).setCell ⟨gb277,2,none⟩ (.int .i64 ((rd_T97 l0_0 a1).f2))).setCell ⟨gb277,3,none⟩ (.bool ((rd_T97 l0_0 a1).f3))) ?_;intro w60 hw;have n0_:Aside0 (Kd.R k97 97 w60 w.heap.size (fun k_=>k_≠gb277) (.slice Ao11 t265.length co11) t265):=⟨(by rw [hw];exact (by (with_reducible repeat (first|apply Kd.R_alloc|apply Kd.R_drewN|apply Kd.R_drew));exact Kd.R_mono (Kd.R_far (p:=⟨gb277,3,none⟩) (Kd.R_far (p:=⟨gb277,2,none⟩) (Kd.R_far (p:=⟨gb277,1,none⟩) (Kd.R_far (p:=⟨gb277,0,none⟩) (Kd.R_mono HO_273000.out (fun k_ hk=>(⟨hk,hk.2⟩:_∧k_≠gb277))) (fun _ hk=>hk.2) (.int .i64 ((rd_T97 l0_0 a1).f0))) (fun _ hk=>hk.2) (.int .i64 ((rd_T97 l0_0 a1).f1))) (fun _ hk=>hk.2) (.int .i64 ((rd_T97 l0_0 a1).f2))) (fun _ hk=>hk.2) (.bool ((rd_T97 l0_0 a1).f3))) (fun _ hk=>hk.1.2)))⟩;have n1_:Aside0 (w60.heap[gb263]? = some (.cells #[.slice (some ad276) l0_0.length c0_0,.int .i64 a0_1,.int .i64 a0_2,.int .i64 a0_3,.int .i64 a0_4] 28 (0,0))):=⟨(by rw [hw];exact (bf BK263))⟩;have n2_:Aside0 (w60.heap[gb264]? = some (.cells #[.slice none 0 0,.int .i64 0,.int .i64 0,.int .i64 0,.int .i64 0] 28 (0,0))):=⟨(by rw [hw];exact (bf BK264))⟩;have n3_:Aside0 (w60.heap[gb272]? = some (.cells #[.slice Ao11 t265.length co11,.int .i64 t268,.int .i64 t269,.int .i64 t270,.int .i64 t271] 28 (0,0))):=⟨(by rw [hw];exact (bf BK272))⟩;have n4_:Aside0 (w60.heap[gb277]? = some (.cells #[.int .i64 ((rd_T97 l0_0 a1).f0),.int .i64 ((rd_T97 l0_0 a1).f1),.int .i64 ((rd_T97 l0_0 a1).f2),.bool ((rd_T97 l0_0 a1).f3)] 97 (0,0))):=⟨(by rw [hw];exact (by (with_reducible repeat (first|refine blk_drewN ?_ _|refine blk_drew ?_|refine blk_alloc ?_ _));refine blk_put (cs:=#[.int .i64 ((rd_T97 l0_0 a1).f0),.int .i64 ((rd_T97 l0_0 a1).f1),.int .i64 ((rd_T97 l0_0 a1).f2),.bool false]) ?_ 3 _ rfl;(with_reducible repeat (first|refine blk_drewN ?_ _|refine blk_drew ?_|refine blk_alloc ?_ _));refine blk_put (cs:=#[.int .i64 ((rd_T97 l0_0 a1).f0),.int .i64 ((rd_T97 l0_0 a1).f1),.int .i64 0,.bool false]) ?_ 2 _ rfl;(with_reducible repeat (first|refine blk_drewN ?_ _|refine blk_drew ?_|refine blk_alloc ?_ _));refine blk_put (cs:=#[.int .i64 ((rd_T97 l0_0 a1).f0),.int .i64 0,.int .i64 0,.bool false]) ?_ 1 _ rfl;(with_reducible repeat (first|refine blk_drewN ?_ _|refine blk_drew ?_|refine blk_alloc ?_ _));refine blk_put (cs:=#[.int .i64 0,.int .i64 0,.int .i64 0,.bool false]) ?_ 0 _ rfl;(with_reducible repeat (first|refine blk_drewN ?_ _|refine blk_drew ?_|refine blk_alloc ?_ _));exact BK277.out))⟩;have n5_:Aside0 (Below w.heap.size w w60):=⟨(by rw [hw];exact bl)⟩;clear hw;clear HO_273000;clear BK263;clear BK264;clear BK272;clear BK277;clear HB;have HO_273000:=n0_;have BK263:=n1_;have BK264:=n2_;have BK272:=n3_;have BK277:=n4_;have HB:=n5_;clear n0_ n1_ n2_ n3_ n4_ n5_;obtain ⟨hcz61_0,hcz61_1,hcz61_2,hcz61_3,hfz61_0,hfz61_1,hfz61_2,hfz61_3⟩:=ck4 BK277.out;have hnb62:=NB272_264.out;have hnc62:=NB264_272.out;obtain ⟨hcz63_0,hcz63_1,hcz63_2,hcz63_3,hcz63_4,hfz63_0,hfz63_1,hfz63_2,hfz63_3,hfz63_4⟩:=ck5 BK272.out;have p45:0≤(((rd_T97 l0_0 a1).f1):Int):=of_decide_eq_true (by first|(with_reducible assumption)|assumption);have q45:(((rd_T97 l0_0 a1).f1):Int) < ((t265.length:Int):Int):=of_decide_eq_true (by first|(with_reducible assumption)|assumption);obtain ⟨go45,co45,eo45,gb45,gl45,cl45,HG45⟩:=Kd.R_form HO_273000.out (by omega);(first|cases eo45|(injection eo45 with ea_ en_ ec_;(first|subst ea_|(injection ea_ with ea_;subst ea_));subst ec_;clear en_));have GB45:=Aside0.mk gb45;have GG45:=Aside0.mk HG45;clear gb45 gl45 HG45;obtain ⟨ce45,hcl45,hM45,hcc45,hfr45⟩:=Kd.R_elem HO_273000.out z97 (((rd_T97 l0_0 a1).f1):Int) p45 q45;obtain rfl:=k97_openM hM45;have hx45_0:w60.cell? ⟨go45,(((rd_T97 l0_0 a1).f1):Int).toNat * 4,none⟩=some (.int .i64 ((rd_T97 t265 ((rd_T97 l0_0 a1).f1)).f0)):=hcc45 0 _ rfl;have hx45_1:w60.cell? ⟨go45,(((rd_T97 l0_0 a1).f1):Int).toNat * 4 + 1,none⟩=some (.int .i64 ((rd_T97 t265 ((rd_T97 l0_0 a1).f1)).f1)):=hcc45 1 _ rfl;have hx45_2:w60.cell? ⟨go45,(((rd_T97 l0_0 a1).f1):Int).toNat * 4 + 2,none⟩=some (.int .i64 ((rd_T97 t265 ((rd_T97 l0_0 a1).f1)).f2)):=hcc45 2 _ rfl;have hx45_3:w60.cell? ⟨go45,(((rd_T97 l0_0 a1).f1):Int).toNat * 4 + 3,none⟩=some (.bool ((rd_T97 t265 ((rd_T97 l0_0 a1).f1)).f3)):=hcc45 3 _ rfl;have hf45_0:w60.frozen? ⟨go45,(((rd_T97 l0_0 a1).f1):Int).toNat * 4,none⟩=false:=hfr45 0;have hf45_1:w60.frozen? ⟨go45,(((rd_T97 l0_0 a1).f1):Int).toNat * 4 + 1,none⟩=false:=hfr45 1;have hf45_2:w60.frozen? ⟨go45,(((rd_T97 l0_0 a1).f1):Int).toNat * 4 + 2,none⟩=false:=hfr45 2;have hf45_3:w60.frozen? ⟨go45,(((rd_T97 l0_0 a1).f1):Int).toNat * 4 + 3,none⟩=false:=hfr45 3;clear hcl45 hcc45 hfr45 hM45;replace p45:=eq_true p45;replace q45:=eq_true q45;have HX64:=Aside0.mk (show Kd.R k97 97 w60 w.heap.size (fun k_=>k_≠gb277) (.slice (some ⟨go45,0,none⟩) t265.length co11) t265 from (kr HO_273000));obtain ⟨ce64,hcl64,hM64,hcc64,hfr64⟩:=Kd.R_elem HX64.out z97 (((rd_T97 l0_0 a1).f1):Int) (of_decide_eq_true (by first|(with_reducible assumption)|assumption)) (by have h_:(((rd_T97 l0_0 a1).f1):Int) < ((t265.length:Int):Int):=of_decide_eq_true (by first|(with_reducible assumption)|assumption);first|exact h_|(have e_:=(Kd.R_reads' HO_273000.out).1;omega)|simpa using h_);obtain rfl:=k97_openM hM64;have HP64:=Kd.R_seg HX64.out (((rd_T97 l0_0 a1).f1):Int) (of_decide_eq_true (by first|(with_reducible assumption)|assumption)) (by have h_:(((rd_T97 l0_0 a1).f1):Int) < ((t265.length:Int):Int):=of_decide_eq_true (by first|(with_reducible assumption)|assumption);first|exact h_|(have e_:=(Kd.R_reads' HO_273000.out).1;omega)|simpa using h_) (seg:=[.int .i64 ((rd_T97 l0_0 a1).f2)]) (j:=2) hcl64 hcc64 (show 3≤4 from by decide) (x':=(⟨(rd_T97 t265 ((rd_T97 l0_0 a1).f1)).f0,(rd_T97 t265 ((rd_T97 l0_0 a1).f1)).f1,(rd_T97 l0_0 a1).f2,(rd_T97 t265 ((rd_T97 l0_0 a1).f1)).f3⟩:S97)) (k97_mkM _ _ _ (⟨(rd_T97 t265 ((rd_T97 l0_0 a1).f1)).f0,(rd_T97 t265 ((rd_T97 l0_0 a1).f1)).f1,(rd_T97 l0_0 a1).f2,(rd_T97 t265 ((rd_T97 l0_0 a1).f1)).f3⟩:S97) ) (fun _ hk=>hk);have hx64_2:=hcc64 2 _ rfl;(try simp only [show (k97).sz=4 from rfl,Nat.mul_one,Nat.add_zero] at hx64_2);have hf64_2:=hfr64 2;(try simp only [show (k97).sz=4 from rfl,Nat.mul_one,Nat.add_zero] at hf64_2);clear hcl64 hcc64 hfr64 hM64)|((with_reducible refine gate_store (t:=3) (p:=43) rfl ?_);refine sx 3 43 (w60.setCell ⟨go45,(((rd_T97 l0_0 a1).f1):Int).toNat * 4 + 2,none⟩ (.int .i64 ((rd_T97 l0_0 a1).f2))) ?_;intro w65 hw;have hg:w60.grownBy w65 (some go45):=(by rw [hw];exact HP64.2);have hp_:Kd.R k97 97 w65 w.heap.size (fun k_=>k_≠gb277) (.slice (some ⟨go45,0,none⟩) t265.length co11) y278:=(by rw [hw,Ny278.out];exact HP64.1);clear HP64;replace BK263:=Aside0.mk (blk_grown (bk BK263) hg (Kd.R_ne HO_273000.out BK263.out (by decide)));replace BK264:=Aside0.mk (blk_grown (bk BK264) hg (Kd.R_ne HO_273000.out BK264.out (by decide)));replace BK272:=Aside0.mk (blk_grown (bk BK272) hg (Kd.R_ne HO_273000.out BK272.out (by decide)));replace BK277:=Aside0.mk (blk_grown (bk BK277) hg (Kd.R_away HO_273000.out (fun _ hk=>hk)));replace HO_273000:=Aside0.mk (hp_);replace HB:=Aside0.mk ((by rw [hw];exact below_set (HB.out) GB45.out:Below w.heap.size w w65));clear hg hw hp_;obtain ⟨hcz66_0,hcz66_1,hcz66_2,hcz66_3,hfz66_0,hfz66_1,hfz66_2,hfz66_3⟩:=ck4 BK277.out;obtain ⟨hcz67_0,hcz67_1,hcz67_2,hcz67_3,hcz67_4,hfz67_0,hfz67_1,hfz67_2,hfz67_3,hfz67_4⟩:=ck5 BK272.out;have p49:0≤(((rd_T97 l0_0 a1).f2):Int):=of_decide_eq_true (by first|(with_reducible assumption)|assumption);have q49:(((rd_T97 l0_0 a1).f2):Int) < ((t265.length:Int):Int):=of_decide_eq_true (by first|(with_reducible assumption)|assumption);obtain ⟨ce49,hcl49,hM49,hcc49,hfr49⟩:=Kd.R_elem HO_273000.out z97 (((rd_T97 l0_0 a1).f2):Int) p49 q49;obtain rfl:=k97_openM hM49;have hx49_0:w65.cell? ⟨go45,(((rd_T97 l0_0 a1).f2):Int).toNat * 4,none⟩=some (.int .i64 ((rd_T97 y278 ((rd_T97 l0_0 a1).f2)).f0)):=hcc49 0 _ rfl;have hx49_1:w65.cell? ⟨go45,(((rd_T97 l0_0 a1).f2):Int).toNat * 4 + 1,none⟩=some (.int .i64 ((rd_T97 y278 ((rd_T97 l0_0 a1).f2)).f1)):=hcc49 1 _ rfl;have hx49_2:w65.cell? ⟨go45,(((rd_T97 l0_0 a1).f2):Int).toNat * 4 + 2,none⟩=some (.int .i64 ((rd_T97 y278 ((rd_T97 l0_0 a1).f2)).f2)):=hcc49 2 _ rfl;have hx49_3:w65.cell? ⟨go45,(((rd_T97 l0_0 a1).f2):Int).toNat * 4 + 3,none⟩=some (.bool ((rd_T97 y278 ((rd_T97 l0_0 a1).f2)).f3)):=hcc49 3 _ rfl;have hf49_0:w65.frozen? ⟨go45,(((rd_T97 l0_0 a1).f2):Int).toNat * 4,none⟩=false:=hfr49 0;have hf49_1:w65.frozen? ⟨go45,(((rd_T97 l0_0 a1).f2):Int).toNat * 4 + 1,none⟩=false:=hfr49 1;have hf49_2:w65.frozen? ⟨go45,(((rd_T97 l0_0 a1).f2):Int).toNat * 4 + 2,none⟩=false:=hfr49 2;have hf49_3:w65.frozen? ⟨go45,(((rd_T97 l0_0 a1).f2):Int).toNat * 4 + 3,none⟩=false:=hfr49 3;clear hcl49 hcc49 hfr49 hM49;replace p49:=eq_true p49;replace q49:=eq_true q49;have HX68:=Aside0.mk (show Kd.R k97 97 w65 w.heap.size (fun k_=>k_≠gb277) (.slice (some ⟨go45,0,none⟩) t265.length co11) y278 from (kr HO_273000));obtain ⟨ce68,hcl68,hM68,hcc68,hfr68⟩:=Kd.R_elem HX68.out z97 (((rd_T97 l0_0 a1).f2):Int) (of_decide_eq_true (by first|(with_reducible assumption)|assumption)) (by have h_:(((rd_T97 l0_0 a1).f2):Int) < ((t265.length:Int):Int):=of_decide_eq_true (by first|(with_reducible assumption)|assumption);first|exact h_|(have e_:=(Kd.R_reads' HO_273000.out).1;omega)|simpa using h_);obtain rfl:=k97_openM hM68;have HP68:=Kd.R_seg HX68.out (((rd_T97 l0_0 a1).f2):Int) (of_decide_eq_true (by first|(with_reducible assumption)|assumption)) (by have h_:(((rd_T97 l0_0 a1).f2):Int) < ((t265.length:Int):Int):=of_decide_eq_true (by first|(with_reducible assumption)|assumption);first|exact h_|(have e_:=(Kd.R_reads' HO_273000.out).1;omega)|simpa using h_) (seg:=[.int .i64 ((rd_T97 l0_0 a1).f1)]) (j:=1) hcl68 hcc68 (show 2≤4 from by decide) (x':=(⟨(rd_T97 y278 ((rd_T97 l0_0 a1).f2)).f0,(rd_T97 l0_0 a1).f1,(rd_T97 y278 ((rd_T97 l0_0 a1).f2)).f2,(rd_T97 y278 ((rd_T97 l0_0 a1).f2)).f3⟩:S97)) (k97_mkM _ _ _ (⟨(rd_T97 y278 ((rd_T97 l0_0 a1).f2)).f0,(rd_T97 l0_0 a1).f1,(rd_T97 y278 ((rd_T97 l0_0 a1).f2)).f2,(rd_T97 y278 ((rd_T97 l0_0 a1).f2)).f3⟩:S97) ) (fun _ hk=>hk);have hx68_1:=hcc68 1 _ rfl;(try simp only [show (k97).sz=4 from rfl,Nat.mul_one,Nat.add_zero] at hx68_1);have hf68_1:=hfr68 1;(try simp only [show (k97).sz=4 from rfl,Nat.mul_one,Nat.add_zero] at hf68_1);clear hcl68 hcc68 hfr68 hM68)|((with_reducible refine gate_store (t:=3) (p:=57) rfl ?_);refine sx 3 57 (w65.setCell ⟨go45,(((rd_T97 l0_0 a1).f2):Int).toNat * 4 + 1,none⟩ (.int .i64 ((rd_T97 l0_0 a1).f1))) ?_;intro w69 hw;have hg:w65.grownBy w69 (some go45):=(by rw [hw];exact HP68.2);have hp_:Kd.R k97 97 w69 w.heap.size (fun k_=>k_≠gb277) (.slice (some ⟨go45,0,none⟩) t265.length co11) y279:=(by rw [hw,Ny279.out];exact HP68.1);clear HP68;replace BK263:=Aside0.mk (blk_grown (bk BK263) hg (Kd.R_ne HO_273000.out BK263.out (by decide)));replace BK264:=Aside0.mk (blk_grown (bk BK264) hg (Kd.R_ne HO_273000.out BK264.out (by decide)));replace BK272:=Aside0.mk (blk_grown (bk BK272) hg (Kd.R_ne HO_273000.out BK272.out (by decide)));replace BK277:=Aside0.mk (blk_grown (bk BK277) hg (Kd.R_away HO_273000.out (fun _ hk=>hk)));replace HO_273000:=Aside0.mk (hp_);replace HB:=Aside0.mk ((by rw [hw];exact below_set (HB.out) GB45.out:Below w.heap.size w w69));clear hg hw hp_;obtain ⟨hcz70_0,hcz70_1,hcz70_2,hcz70_3,hcz70_4,hfz70_0,hfz70_1,hfz70_2,hfz70_3,hfz70_4⟩:=ck5 BK272.out;obtain ⟨hcz71_0,hcz71_1,hcz71_2,hcz71_3,hcz71_4,hfz71_0,hfz71_1,hfz71_2,hfz71_3,hfz71_4⟩:=ck5 BK263.out;have p51:0≤(a1:Int):=of_decide_eq_true (by first|(with_reducible assumption)|assumption);have q51:(a1:Int) < ((t265.length:Int):Int):=of_decide_eq_true (by first|(with_reducible assumption)|assumption);obtain ⟨ce51,hcl51,hM51,hcc51,hfr51⟩:=Kd.R_elem HO_273000.out z97 (a1:Int) p51 q51;obtain rfl:=k97_openM hM51;have hx51_0:w69.cell? ⟨go45,(a1:Int).toNat * 4,none⟩=some (.int .i64 ((rd_T97 y279 a1).f0)):=hcc51 0 _ rfl;have hx51_1:w69.cell? ⟨go45,(a1:Int).toNat * 4 + 1,none⟩=some (.int .i64 ((rd_T97 y279 a1).f1)):=hcc51 1 _ rfl;have hx51_2:w69.cell? ⟨go45,(a1:Int).toNat * 4 + 2,none⟩=some (.int .i64 ((rd_T97 y279 a1).f2)):=hcc51 2 _ rfl;have hx51_3:w69.cell? ⟨go45,(a1:Int).toNat * 4 + 3,none⟩=some (.bool ((rd_T97 y279 a1).f3)):=hcc51 3 _ rfl;have hf51_0:w69.frozen? ⟨go45,(a1:Int).toNat * 4,none⟩=false:=hfr51 0;have hf51_1:w69.frozen? ⟨go45,(a1:Int).toNat * 4 + 1,none⟩=false:=hfr51 1;have hf51_2:w69.frozen? ⟨go45,(a1:Int).toNat * 4 + 2,none⟩=false:=hfr51 2;have hf51_3:w69.frozen? ⟨go45,(a1:Int).toNat * 4 + 3,none⟩=false:=hfr51 3;clear hcl51 hcc51 hfr51 hM51;replace p51:=eq_true p51;replace q51:=eq_true q51;have HX72:=Aside0.mk (show Kd.R k97 97 w69 w.heap.size (fun k_=>k_≠gb277) (.slice (some ⟨go45,0,none⟩) t265.length co11) y279 from (kr HO_273000));obtain ⟨ce72,hcl72,hM72,hcc72,hfr72⟩:=Kd.R_elem HX72.out z97 (a1:Int) (of_decide_eq_true (by first|(with_reducible assumption)|assumption)) (by have h_:(a1:Int) < ((t265.length:Int):Int):=of_decide_eq_true (by first|(with_reducible assumption)|assumption);first|exact h_|(have e_:=(Kd.R_reads' HO_273000.out).1;omega)|simpa using h_);obtain rfl:=k97_openM hM72;have HP72:=Kd.R_seg HX72.out (a1:Int) (of_decide_eq_true (by first|(with_reducible assumption)|assumption)) (by have h_:(a1:Int) < ((t265.length:Int):Int):=of_decide_eq_true (by first|(with_reducible assumption)|assumption);first|exact h_|(have e_:=(Kd.R_reads' HO_273000.out).1;omega)|simpa using h_) (seg:=[.int .i64 0,.int .i64 (-1),.int .i64 a0_3,.bool false]) (j:=0) hcl72 hcc72 (show 4≤4 from by decide) (x':=(⟨0,(-1),a0_3,false⟩:S97)) (k97_mkM _ _ _ (⟨0,(-1),a0_3,false⟩:S97) ) (fun _ hk=>hk);have hx72_0:=hcc72 0 _ rfl;(try simp only [show (k97).sz=4 from rfl,Nat.mul_one,Nat.add_zero] at hx72_0);have hf72_0:=hfr72 0;(try simp only [show (k97).sz=4 from rfl,Nat.mul_one,Nat.add_zero] at hf72_0);have hx72_1:=hcc72 1 _ rfl;(try simp only [show (k97).sz=4 from rfl,Nat.mul_one,Nat.add_zero] at hx72_1);have hf72_1:=hfr72 1;(try simp only [show (k97).sz=4 from rfl,Nat.mul_one,Nat.add_zero] at hf72_1);have hx72_2:=hcc72 2 _ rfl;(try simp only [show (k97).sz=4 from rfl,Nat.mul_one,Nat.add_zero] at hx72_2);have hf72_2:=hfr72 2;(try simp only [show (k97).sz=4 from rfl,Nat.mul_one,Nat.add_zero] at hf72_2);have hx72_3:=hcc72 3 _ rfl;(try simp only [show (k97).sz=4 from rfl,Nat.mul_one,Nat.add_zero] at hx72_3);have hf72_3:=hfr72 3;(try simp only [show (k97).sz=4 from rfl,Nat.mul_one,Nat.add_zero] at hf72_3);clear hcl72 hcc72 hfr72 hM72)|((with_reducible refine gate_store (t:=97) (p:=67) rfl ?_);refine sx 97 67 ((((w69.setCell ⟨go45,(a1:Int).toNat * 4,none⟩ (.int .i64 0)).setCell ⟨go45,(a1:Int).toNat * 4 + 1,none⟩ (.int .i64 (-1))).setCell ⟨go45,(a1:Int).toNat * 4 + 2,none⟩ (.int .i64 a0_3)).setCell ⟨go45,(a1:Int).toNat * 4 + 3,none⟩ (.bool false)) ?_;intro w73 hw;have hg:w69.grownBy w73 (some go45):=(by rw [hw];exact HP72.2);have hp_:Kd.R k97 97 w73 w.heap.size (fun k_=>k_≠gb277) (.slice (some ⟨go45,0,none⟩) t265.length co11) y280:=(by rw [hw,Ny280.out];exact HP72.1);clear HP72;replace BK263:=Aside0.mk (blk_grown (bk BK263) hg (Kd.R_ne HO_273000.out BK263.out (by decide)));replace BK264:=Aside0.mk (blk_grown (bk BK264) hg (Kd.R_ne HO_273000.out BK264.out (by decide)));replace BK272:=Aside0.mk (blk_grown (bk BK272) hg (Kd.R_ne HO_273000.out BK272.out (by decide)));replace BK277:=Aside0.mk (blk_grown (bk BK277) hg (Kd.R_away HO_273000.out (fun _ hk=>hk)));replace HO_273000:=Aside0.mk (hp_);replace HB:=Aside0.mk ((by rw [hw];exact below_set (below_set (below_set (below_set (HB.out) GB45.out) GB45.out) GB45.out) GB45.out:Below w.heap.size w w73));clear hg hw hp_;obtain ⟨hcz74_0,hcz74_1,hcz74_2,hcz74_3,hcz74_4,hfz74_0,hfz74_1,hfz74_2,hfz74_3,hfz74_4⟩:=ck5 BK272.out))
             have n0_:Aside0 (Kd.R k97 97 ((w73.setCell ⟨gb272,3,none⟩ (.int .i64 a1)).setCell ⟨gb272,4,none⟩ (.int .i64 (wrap64 (t271 - 1)))) w.heap.size (fun k_=>k_≠gb277) (.slice (some ⟨go45,0,none⟩) t265.length co11) y280):=⟨by (with_reducible repeat (first|apply Kd.R_alloc|apply Kd.R_drewN|apply Kd.R_drew));exact Kd.R_mono (Kd.R_far (p:=⟨gb272,4,none⟩) (Kd.R_far (p:=⟨gb272,3,none⟩) (Kd.R_types HO_273000.out BK272.out (by decide)) (fun _ hk=>hk.2) (.int .i64 a1)) (fun _ hk=>hk.2) (.int .i64 (wrap64 (t271 - 1)))) (fun _ hk=>hk.1)⟩
             have n1_:Aside0 (((w73.setCell ⟨gb272,3,none⟩ (.int .i64 a1)).setCell ⟨gb272,4,none⟩ (.int .i64 (wrap64 (t271 - 1)))).heap[gb263]? = some (.cells #[.slice (some ad276) l0_0.length c0_0,.int .i64 a0_1,.int .i64 a0_2,.int .i64 a0_3,.int .i64 a0_4] 28 (0,0))):=⟨bf BK263⟩
             have n2_:Aside0 (((w73.setCell ⟨gb272,3,none⟩ (.int .i64 a1)).setCell ⟨gb272,4,none⟩ (.int .i64 (wrap64 (t271 - 1)))).heap[gb264]? = some (.cells #[.slice none 0 0,.int .i64 0,.int .i64 0,.int .i64 0,.int .i64 0] 28 (0,0))):=⟨bf BK264⟩
             have n3_:Aside0 (((w73.setCell ⟨gb272,3,none⟩ (.int .i64 a1)).setCell ⟨gb272,4,none⟩ (.int .i64 (wrap64 (t271 - 1)))).heap[gb272]? = some (.cells #[.slice (some ⟨go45,0,none⟩) t265.length co11,.int .i64 t268,.int .i64 t269,.int .i64 a1,.int .i64 (wrap64 (t271 - 1))] 28 (0,0))):=⟨by (with_reducible repeat (first|refine blk_drewN ?_ _|refine blk_drew ?_|refine blk_alloc ?_ _));refine blk_put (cs:=#[.slice (some ⟨go45,0,none⟩) t265.length co11,.int .i64 t268,.int .i64 t269,.int .i64 a1,.int .i64 t271]) ?_ 4 _ rfl;(with_reducible repeat (first|refine blk_drewN ?_ _|refine blk_drew ?_|refine blk_alloc ?_ _));refine blk_put (cs:=#[.slice (some ⟨go45,0,none⟩) t265.length co11,.int .i64 t268,.int .i64 t269,.int .i64 t270,.int .i64 t271]) ?_ 3 _ rfl;(with_reducible repeat (first|refine blk_drewN ?_ _|refine blk_drew ?_|refine blk_alloc ?_ _));exact BK272.out⟩
             have n4_:Aside0 (((w73.setCell ⟨gb272,3,none⟩ (.int .i64 a1)).setCell ⟨gb272,4,none⟩ (.int .i64 (wrap64 (t271 - 1)))).heap[gb277]? = some (.cells #[.int .i64 ((rd_T97 l0_0 a1).f0),.int .i64 ((rd_T97 l0_0 a1).f1),.int .i64 ((rd_T97 l0_0 a1).f2),.bool ((rd_T97 l0_0 a1).f3)] 97 (0,0))):=⟨bf BK277⟩
             have n5_:Aside0 (Below w.heap.size w ((w73.setCell ⟨gb272,3,none⟩ (.int .i64 a1)).setCell ⟨gb272,4,none⟩ (.int .i64 (wrap64 (t271 - 1))))):=⟨bl⟩
             (try clear HO_273000)
             (try clear BK263)
             (try clear BK264)
             (try clear BK272)
             (try clear BK277)
             (try clear HB)
             generalize ((w73.setCell ⟨gb272,3,none⟩ (.int .i64 a1)).setCell ⟨gb272,4,none⟩ (.int .i64 (wrap64 (t271 - 1))))=w75 at n0_ n1_ n2_ n3_ n4_ n5_ ⊢
             have HO_273000:=n0_
             have BK263:=n1_
             have BK264:=n2_
             have BK272:=n3_
             have BK277:=n4_
             have HB:=n5_
             clear n0_ n1_ n2_ n3_ n4_ n5_
             replace HO_273000:=Aside0.mk (Kd.R_drew HO_273000.out)
             replace BK263:=Aside0.mk (blk_drew BK263.out)
             replace BK264:=Aside0.mk (blk_drew BK264.out)
             replace BK272:=Aside0.mk (blk_drew BK272.out)
             replace BK277:=Aside0.mk (blk_drew BK277.out)
             replace HB:=Aside0.mk (below_drew1 HB.out)
             refine start_ (n:=5) (S:=fun w'=>w'.cell? ⟨gb272,0,none⟩=some (.slice (some ⟨go45,0,none⟩) t265.length co11)∧w'.cell? ⟨gb272,1,none⟩=some (.int .i64 t268)∧w'.cell? ⟨gb272,2,none⟩=some (.int .i64 t269)∧w'.cell? ⟨gb272,3,none⟩=some (.int .i64 a1)∧w'.cell? ⟨gb272,4,none⟩=some (.int .i64 (wrap64 (t271 - 1)))∧w'.cell? ⟨gb277,0,none⟩=some (.int .i64 ((rd_T97 l0_0 a1).f0))∧w'.cell? ⟨gb277,1,none⟩=some (.int .i64 ((rd_T97 l0_0 a1).f1))∧w'.cell? ⟨gb277,2,none⟩=some (.int .i64 ((rd_T97 l0_0 a1).f2))∧w'.cell? ⟨gb277,3,none⟩=some (.bool ((rd_T97 l0_0 a1).f3))) (ds:=[]) (bs 5 0) (by kernel_rfl) rfl rfl ⟨bc BK272 0,bc BK272 1,bc BK272 2,bc BK272 3,bc BK272 4,bc BK277 0,bc BK277 1,bc BK277 2,bc BK277 3⟩ (fun hHeld=>?_)
             generalize w75.drew=w76 at HO_273000 BK263 BK264 BK272 BK277 HB hHeld ⊢
             refine pk 1 75 (bs 5 2) ?_
             refine tk 0 74 (bs 5 3) hHeld ?_
             refine tk 2 76 (bs 5 7) hHeld ?_
             refine one_ (i:=3) (N:=none) (bs 5 15) rfl rfl (by kernel_rfl) (by decide) (fun K hK=>?_)
             have hs77:w76.cell? ⟨gb264,0,none⟩=some (.slice none 0 0):=(blk_cell BK264.out 0).trans rfl
             have hfs77:=blk_frozen BK264.out 0
             have hns77_0:=NB263_264.out
             have hns77_2:=NB272_264.out
             have hns77_3:=NB277_264.out
             have hms77_0:=NB264_263.out
             have hms77_2:=NB264_272.out
             have hms77_3:=NB264_277.out
             have hs78:w76.cell? ⟨gb264,1,none⟩=some (.int .i64 0):=(blk_cell BK264.out 1).trans rfl
             have hfs78:=blk_frozen BK264.out 1
             have hns78_0:=NB263_264.out
             have hns78_2:=NB272_264.out
             have hns78_3:=NB277_264.out
             have hms78_0:=NB264_263.out
             have hms78_2:=NB264_272.out
             have hms78_3:=NB264_277.out
             have hs79:w76.cell? ⟨gb264,2,none⟩=some (.int .i64 0):=(blk_cell BK264.out 2).trans rfl
             have hfs79:=blk_frozen BK264.out 2
             have hns79_0:=NB263_264.out
             have hns79_2:=NB272_264.out
             have hns79_3:=NB277_264.out
             have hms79_0:=NB264_263.out
             have hms79_2:=NB264_272.out
             have hms79_3:=NB264_277.out
             have hs80:w76.cell? ⟨gb264,3,none⟩=some (.int .i64 0):=(blk_cell BK264.out 3).trans rfl
             have hfs80:=blk_frozen BK264.out 3
             have hns80_0:=NB263_264.out
             have hns80_2:=NB272_264.out
             have hns80_3:=NB277_264.out
             have hms80_0:=NB264_263.out
             have hms80_2:=NB264_272.out
             have hms80_3:=NB264_277.out
             have hs81:w76.cell? ⟨gb264,4,none⟩=some (.int .i64 0):=(blk_cell BK264.out 4).trans rfl
             have hfs81:=blk_frozen BK264.out 4
             have hns81_0:=NB263_264.out
             have hns81_2:=NB272_264.out
             have hns81_3:=NB277_264.out
             have hms81_0:=NB264_263.out
             have hms81_2:=NB264_272.out
             have hms81_3:=NB264_277.out
             refine skip_ (w1:=?_) (by rfl) rfl ?_ ?_
             rotate_left
             ·go_simp
              rfl
             refine hK.out _ _ ⟨((cell_far (p:=⟨gb264,_,none⟩) NB272_264.out _).trans (((cell_far (p:=⟨gb264,_,none⟩) NB272_264.out _).trans (((cell_far (p:=⟨gb264,_,none⟩) NB272_264.out _).trans (((cell_far (p:=⟨gb264,_,none⟩) NB272_264.out _).trans (((cell_far (p:=⟨gb264,_,none⟩) NB272_264.out _).trans (hHeld.1)))))))))),((cell_far (p:=⟨gb264,_,none⟩) NB272_264.out _).trans (((cell_far (p:=⟨gb264,_,none⟩) NB272_264.out _).trans (((cell_far (p:=⟨gb264,_,none⟩) NB272_264.out _).trans (((cell_far (p:=⟨gb264,_,none⟩) NB272_264.out _).trans (((cell_far (p:=⟨gb264,_,none⟩) NB272_264.out _).trans (hHeld.2.1)))))))))),((cell_far (p:=⟨gb264,_,none⟩) NB272_264.out _).trans (((cell_far (p:=⟨gb264,_,none⟩) NB272_264.out _).trans (((cell_far (p:=⟨gb264,_,none⟩) NB272_264.out _).trans (((cell_far (p:=⟨gb264,_,none⟩) NB272_264.out _).trans (((cell_far (p:=⟨gb264,_,none⟩) NB272_264.out _).trans (hHeld.2.2.1)))))))))),((cell_far (p:=⟨gb264,_,none⟩) NB272_264.out _).trans (((cell_far (p:=⟨gb264,_,none⟩) NB272_264.out _).trans (((cell_far (p:=⟨gb264,_,none⟩) NB272_264.out _).trans (((cell_far (p:=⟨gb264,_,none⟩) NB272_264.out _).trans (((cell_far (p:=⟨gb264,_,none⟩) NB272_264.out _).trans (hHeld.2.2.2.1)))))))))),((cell_far (p:=⟨gb264,_,none⟩) NB272_264.out _).trans (((cell_far (p:=⟨gb264,_,none⟩) NB272_264.out _).trans (((cell_far (p:=⟨gb264,_,none⟩) NB272_264.out _).trans (((cell_far (p:=⟨gb264,_,none⟩) NB272_264.out _).trans (((cell_far (p:=⟨gb264,_,none⟩) NB272_264.out _).trans (hHeld.2.2.2.2.1)))))))))),((cell_far (p:=⟨gb264,_,none⟩) NB277_264.out _).trans (((cell_far (p:=⟨gb264,_,none⟩) NB277_264.out _).trans (((cell_far (p:=⟨gb264,_,none⟩) NB277_264.out _).trans (((cell_far (p:=⟨gb264,_,none⟩) NB277_264.out _).trans (((cell_far (p:=⟨gb264,_,none⟩) NB277_264.out _).trans (hHeld.2.2.2.2.2.1)))))))))),((cell_far (p:=⟨gb264,_,none⟩) NB277_264.out _).trans (((cell_far (p:=⟨gb264,_,none⟩) NB277_264.out _).trans (((cell_far (p:=⟨gb264,_,none⟩) NB277_264.out _).trans (((cell_far (p:=⟨gb264,_,none⟩) NB277_264.out _).trans (((cell_far (p:=⟨gb264,_,none⟩) NB277_264.out _).trans (hHeld.2.2.2.2.2.2.1)))))))))),((cell_far (p:=⟨gb264,_,none⟩) NB277_264.out _).trans (((cell_far (p:=⟨gb264,_,none⟩) NB277_264.out _).trans (((cell_far (p:=⟨gb264,_,none⟩) NB277_264.out _).trans (((cell_far (p:=⟨gb264,_,none⟩) NB277_264.out _).trans (((cell_far (p:=⟨gb264,_,none⟩) NB277_264.out _).trans (hHeld.2.2.2.2.2.2.2.1)))))))))),((cell_far (p:=⟨gb264,_,none⟩) NB277_264.out _).trans (((cell_far (p:=⟨gb264,_,none⟩) NB277_264.out _).trans (((cell_far (p:=⟨gb264,_,none⟩) NB277_264.out _).trans (((cell_far (p:=⟨gb264,_,none⟩) NB277_264.out _).trans (((cell_far (p:=⟨gb264,_,none⟩) NB277_264.out _).trans (hHeld.2.2.2.2.2.2.2.2))))))))))⟩ (fun hHeld=>?_)
             clear hK K
             refine pk 4 5 (bs 5 31) ?_
             refine done_ (by kernel_rfl) ?_
             try go_wp2
             refine bodyPost_ret (results_ct rfl _ _ gb264 28 #[.slice (some ⟨go45,0,none⟩) t265.length co11,.int .i64 t268,.int .i64 t269,.int .i64 a1,.int .i64 (wrap64 (t271 - 1))] (0,0) _ rfl (by (with_reducible repeat (first|refine blk_drewN ?_ _|refine blk_drew ?_|refine blk_alloc ?_ _));refine blk_put (cs:=#[.slice (some ⟨go45,0,none⟩) t265.length co11,.int .i64 t268,.int .i64 t269,.int .i64 a1,.int .i64 0]) ?_ 4 _ rfl;(with_reducible repeat (first|refine blk_drewN ?_ _|refine blk_drew ?_|refine blk_alloc ?_ _));refine blk_put (cs:=#[.slice (some ⟨go45,0,none⟩) t265.length co11,.int .i64 t268,.int .i64 t269,.int .i64 0,.int .i64 0]) ?_ 3 _ rfl;(with_reducible repeat (first|refine blk_drewN ?_ _|refine blk_drew ?_|refine blk_alloc ?_ _));refine blk_put (cs:=#[.slice (some ⟨go45,0,none⟩) t265.length co11,.int .i64 t268,.int .i64 0,.int .i64 0,.int .i64 0]) ?_ 2 _ rfl;(with_reducible repeat (first|refine blk_drewN ?_ _|refine blk_drew ?_|refine blk_alloc ?_ _));refine blk_put (cs:=#[.slice (some ⟨go45,0,none⟩) t265.length co11,.int .i64 0,.int .i64 0,.int .i64 0,.int .i64 0]) ?_ 1 _ rfl;(with_reducible repeat (first|refine blk_drewN ?_ _|refine blk_drew ?_|refine blk_alloc ?_ _));refine blk_put (cs:=#[.slice none 0 0,.int .i64 0,.int .i64 0,.int .i64 0,.int .i64 0]) ?_ 0 _ rfl;(with_reducible repeat (first|refine blk_drewN ?_ _|refine blk_drew ?_|refine blk_alloc ?_ _));exact BK264.out) Try.underlying28 rfl (by kernel_rfl)) rfl ?_
             exact ⟨_,by first|rfl|(simp [errW_none,errW_some] <;> rfl)|(simp [*,errW_none,errW_some] <;> rfl),by (with_reducible repeat (first|apply Kd.R_alloc|apply Kd.R_drewN|apply Kd.R_drew));exact Kd.R_mono (Kd.R_far (p:=⟨gb264,4,none⟩) (Kd.R_far (p:=⟨gb264,3,none⟩) (Kd.R_far (p:=⟨gb264,2,none⟩) (Kd.R_far (p:=⟨gb264,1,none⟩) (Kd.R_far (p:=⟨gb264,0,none⟩) (Kd.R_types HO_273000.out BK264.out (by decide)) (fun _ hk=>hk.2) (.slice (some ⟨go45,0,none⟩) t265.length co11)) (fun _ hk=>hk.2) (.int .i64 t268)) (fun _ hk=>hk.2) (.int .i64 t269)) (fun _ hk=>hk.2) (.int .i64 a1)) (fun _ hk=>hk.2) (.int .i64 (wrap64 (t271 - 1)))) (fun _ hk=>trivial),bl⟩
            ·rw [if_neg c50] at H
             exact absurd H (by simp)
           ·rw [if_neg c48] at H
            exact absurd H (by simp)
          ·rw [if_neg c47] at H
           exact absurd H (by simp)
         ·rw [if_neg c46] at H
          have c46b0:decide (0≤((rd_T97 l0_0 a1).f2))=false:=decide_eq_false c46
          clear c46
          by_cases c82:a1 < (t265.length:Int)
          ·rw [if_pos c82] at H
           have c82b0:decide (a1 < (t265.length:Int))=true:=decide_eq_true c82
           clear c82
           obtain ⟨y281,hy281⟩:∃ y_:List (S97),y_=(y278.set (a1:Int).toNat (⟨0,(-1),a0_3,false⟩:S97)):=⟨_,rfl⟩
           replace H:(some (y281,t268,(rd_T97 l0_0 a1).f1,a1,wrap64 (t271 - 1),(rd_T97 l0_0 a1).f0))=some (r1,r2,r3,r4,r5,r6):=by first|(rw [hy281];with_reducible exact H)|(have H2_:=(Option.bind_some _ _).symm.trans H;rw [hy281];with_reducible exact H2_)|(have H2_:=(Option.bind_some _ _).symm.trans H;with_reducible exact H2_)|with_reducible exact H|(rw [hy281];exact H)|exact H
           have Ny281:=Aside0.mk hy281
           clear hy281
           simp only [Option.some.injEq,Prod.mk.injEq] at H
           obtain ⟨rfl,rfl,rfl,rfl,rfl,rfl⟩:=H
           have hnb84:=NB263_264.out
           have hnc84:=NB264_263.out
           have hnb85:=NB263_272.out
           have hnc85:=NB272_263.out
           obtain ⟨hcz86_0,hcz86_1,hcz86_2,hcz86_3,hcz86_4,hfz86_0,hfz86_1,hfz86_2,hfz86_3,hfz86_4⟩:=ck5 BK263.out
           have p276:0≤(a1:Int):=of_decide_eq_true (by first|(with_reducible assumption)|assumption)
           have q276:a1 < (l0_0.length:Int):=of_decide_eq_true (by first|(with_reducible assumption)|assumption)
           obtain ⟨ad276,e276,hx276_0,hx276_1,hx276_2,hx276_3⟩:=at_T97 HR0_0.out a1 p276 q276
           cases e276
           replace hx276_0:=cl HB hx276_0
           replace hx276_1:=cl HB hx276_1
           replace hx276_2:=cl HB hx276_2
           replace hx276_3:=cl HB hx276_3
           replace p276:=eq_true p276
           replace q276:=eq_true q276
           try go_wp2_with (first|((with_reducible refine gate_dst (N:=7) rfl ?_);refine bx 7 #[.int .i64 0,.int .i64 0,.int .i64 0,.bool false] 97 ?_;intro gb277 hg w87 hbox hb;replace HO_273000:=Aside0.mk (Kd.R_below (Kd.R_elderB (kr HO_273000) gb277 (Nat.le_of_eq hg.symm)) hb);have BK277:=Aside0.mk (hbox);have GW277:=Aside0.mk (bz hg:w.heap.size≤gb277);have GE277:=GW277;replace HB:=Aside0.mk (below_step bl hb);have NB263_277:=Aside0.mk (nl hg BK263:gb263≠gb277);have NB277_263:=Aside0.mk (nr hg BK263:gb277≠gb263);replace BK263:=Aside0.mk (blk_below (bk BK263) hb);have NB264_277:=Aside0.mk (nl hg BK264:gb264≠gb277);have NB277_264:=Aside0.mk (nr hg BK264:gb277≠gb264);replace BK264:=Aside0.mk (blk_below (bk BK264) hb);have NB272_277:=Aside0.mk (nl hg BK272:gb272≠gb277);have NB277_272:=Aside0.mk (nr hg BK272:gb277≠gb272);replace BK272:=Aside0.mk (blk_below (bk BK272) hb);clear hb hbox hg;have hnb88:=NB277_263.out;have hnc88:=NB263_277.out;have hnb89:=NB277_264.out;have hnc89:=NB264_277.out;have hnb90:=NB277_272.out;have hnc90:=NB272_277.out;obtain ⟨hcz91_0,hcz91_1,hcz91_2,hcz91_3,hfz91_0,hfz91_1,hfz91_2,hfz91_3⟩:=ck4 BK277.out)|((with_reducible refine gate_store (t:=97) (p:=7) rfl ?_);refine sx 97 7 ((((w87.setCell ⟨gb277,0,none⟩ (.int .i64 ((rd_T97 l0_0 a1).f0))).setCell ⟨gb277,1,none⟩ (.int .i64 ((rd_T97 l0_0 a1).f1))).setCell ⟨gb277,2,none⟩ (.int .i64 ((rd_T97 l0_0 a1).f2))).setCell ⟨gb277,3,none⟩ (.bool ((rd_T97 l0_0 a1).f3))) ?_;intro w92 hw;have n0_:Aside0 (Kd.R k97 97 w92 w.heap.size (fun k_=>k_≠gb277) (.slice Ao11 t265.length co11) t265):=⟨(by rw [hw];exact (by (with_reducible repeat (first|apply Kd.R_alloc|apply Kd.R_drewN|apply Kd.R_drew));exact Kd.R_mono (Kd.R_far (p:=⟨gb277,3,none⟩) (Kd.R_far (p:=⟨gb277,2,none⟩) (Kd.R_far (p:=⟨gb277,1,none⟩) (Kd.R_far (p:=⟨gb277,0,none⟩) (Kd.R_mono HO_273000.out (fun k_ hk=>(⟨hk,hk.2⟩:_∧k_≠gb277))) (fun _ hk=>hk.2) (.int .i64 ((rd_T97 l0_0 a1).f0))) (fun _ hk=>hk.2) (.int .i64 ((rd_T97 l0_0 a1).f1))) (fun _ hk=>hk.2) (.int .i64 ((rd_T97 l0_0 a1).f2))) (fun _ hk=>hk.2) (.bool ((rd_T97 l0_0 a1).f3))) (fun _ hk=>hk.1.2)))⟩;have n1_:Aside0 (w92.heap[gb263]? = some (.cells #[.slice (some ad276) l0_0.length c0_0,.int .i64 a0_1,.int .i64 a0_2,.int .i64 a0_3,.int .i64 a0_4] 28 (0,0))):=⟨(by rw [hw];exact (bf BK263))⟩;have n2_:Aside0 (w92.heap[gb264]? = some (.cells #[.slice none 0 0,.int .i64 0,.int .i64 0,.int .i64 0,.int .i64 0] 28 (0,0))):=⟨(by rw [hw];exact (bf BK264))⟩;have n3_:Aside0 (w92.heap[gb272]? = some (.cells #[.slice Ao11 t265.length co11,.int .i64 t268,.int .i64 t269,.int .i64 t270,.int .i64 t271] 28 (0,0))):=⟨(by rw [hw];exact (bf BK272))⟩;have n4_:Aside0 (w92.heap[gb277]? = some (.cells #[.int .i64 ((rd_T97 l0_0 a1).f0),.int .i64 ((rd_T97 l0_0 a1).f1),.int .i64 ((rd_T97 l0_0 a1).f2),.bool ((rd_T97 l0_0 a1).f3)] 97 (0,0))):=⟨(by rw [hw];exact (by (with_reducible repeat (first|refine blk_drewN ?_ _|refine blk_drew ?_|refine blk_alloc ?_ _));refine blk_put (cs:=#[.int .i64 ((rd_T97 l0_0 a1).f0),.int .i64 ((rd_T97 l0_0 a1).f1),.int .i64 ((rd_T97 l0_0 a1).f2),.bool false]) ?_ 3 _ rfl;(with_reducible repeat (first|refine blk_drewN ?_ _|refine blk_drew ?_|refine blk_alloc ?_ _));refine blk_put (cs:=#[.int .i64 ((rd_T97 l0_0 a1).f0),.int .i64 ((rd_T97 l0_0 a1).f1),.int .i64 0,.bool false]) ?_ 2 _ rfl;(with_reducible repeat (first|refine blk_drewN ?_ _|refine blk_drew ?_|refine blk_alloc ?_ _));refine blk_put (cs:=#[.int .i64 ((rd_T97 l0_0 a1).f0),.int .i64 0,.int .i64 0,.bool false]) ?_ 1 _ rfl;(with_reducible repeat (first|refine blk_drewN ?_ _|refine blk_drew ?_|refine blk_alloc ?_ _));refine blk_put (cs:=#[.int .i64 0,.int .i64 0,.int .i64 0,.bool false]) ?_ 0 _ rfl;(with_reducible repeat (first|refine blk_drewN ?_ _|refine blk_drew ?_|refine blk_alloc ?_ _));exact BK277.out))⟩;have n5_:Aside0 (Below w.heap.size w w92):=⟨(by rw [hw];exact bl)⟩;clear hw;clear HO_273000;clear BK263;clear BK264;clear BK272;clear BK277;clear HB;have HO_273000:=n0_;have BK263:=n1_;have BK264:=n2_;have BK272:=n3_;have BK277:=n4_;have HB:=n5_;clear n0_ n1_ n2_ n3_ n4_ n5_;obtain ⟨hcz93_0,hcz93_1,hcz93_2,hcz93_3,hfz93_0,hfz93_1,hfz93_2,hfz93_3⟩:=ck4 BK277.out;have hnb94:=NB272_264.out;have hnc94:=NB264_272.out;obtain ⟨hcz95_0,hcz95_1,hcz95_2,hcz95_3,hcz95_4,hfz95_0,hfz95_1,hfz95_2,hfz95_3,hfz95_4⟩:=ck5 BK272.out;have p45:0≤(((rd_T97 l0_0 a1).f1):Int):=of_decide_eq_true (by first|(with_reducible assumption)|assumption);have q45:(((rd_T97 l0_0 a1).f1):Int) < ((t265.length:Int):Int):=of_decide_eq_true (by first|(with_reducible assumption)|assumption);obtain ⟨go45,co45,eo45,gb45,gl45,cl45,HG45⟩:=Kd.R_form HO_273000.out (by omega);(first|cases eo45|(injection eo45 with ea_ en_ ec_;(first|subst ea_|(injection ea_ with ea_;subst ea_));subst ec_;clear en_));have GB45:=Aside0.mk gb45;have GG45:=Aside0.mk HG45;clear gb45 gl45 HG45;obtain ⟨ce45,hcl45,hM45,hcc45,hfr45⟩:=Kd.R_elem HO_273000.out z97 (((rd_T97 l0_0 a1).f1):Int) p45 q45;obtain rfl:=k97_openM hM45;have hx45_0:w92.cell? ⟨go45,(((rd_T97 l0_0 a1).f1):Int).toNat * 4,none⟩=some (.int .i64 ((rd_T97 t265 ((rd_T97 l0_0 a1).f1)).f0)):=hcc45 0 _ rfl;have hx45_1:w92.cell? ⟨go45,(((rd_T97 l0_0 a1).f1):Int).toNat * 4 + 1,none⟩=some (.int .i64 ((rd_T97 t265 ((rd_T97 l0_0 a1).f1)).f1)):=hcc45 1 _ rfl;have hx45_2:w92.cell? ⟨go45,(((rd_T97 l0_0 a1).f1):Int).toNat * 4 + 2,none⟩=some (.int .i64 ((rd_T97 t265 ((rd_T97 l0_0 a1).f1)).f2)):=hcc45 2 _ rfl;have hx45_3:w92.cell? ⟨go45,(((rd_T97 l0_0 a1).f1):Int).toNat * 4 + 3,none⟩=some (.bool ((rd_T97 t265 ((rd_T97 l0_0 a1).f1)).f3)):=hcc45 3 _ rfl;have hf45_0:w92.frozen? ⟨go45,(((rd_T97 l0_0 a1).f1):Int).toNat * 4,none⟩=false:=hfr45 0;have hf45_1:w92.frozen? ⟨go45,(((rd_T97 l0_0 a1).f1):Int).toNat * 4 + 1,none⟩=false:=hfr45 1;have hf45_2:w92.frozen? ⟨go45,(((rd_T97 l0_0 a1).f1):Int).toNat * 4 + 2,none⟩=false:=hfr45 2;have hf45_3:w92.frozen? ⟨go45,(((rd_T97 l0_0 a1).f1):Int).toNat * 4 + 3,none⟩=false:=hfr45 3;clear hcl45 hcc45 hfr45 hM45;replace p45:=eq_true p45;replace q45:=eq_true q45;have HX96:=Aside0.mk (show Kd.R k97 97 w92 w.heap.size (fun k_=>k_≠gb277) (.slice (some ⟨go45,0,none⟩) t265.length co11) t265 from (kr HO_273000));obtain ⟨ce96,hcl96,hM96,hcc96,hfr96⟩:=Kd.R_elem HX96.out z97 (((rd_T97 l0_0 a1).f1):Int) (of_decide_eq_true (by first|(with_reducible assumption)|assumption)) (by have h_:(((rd_T97 l0_0 a1).f1):Int) < ((t265.length:Int):Int):=of_decide_eq_true (by first|(with_reducible assumption)|assumption);first|exact h_|(have e_:=(Kd.R_reads' HO_273000.out).1;omega)|simpa using h_);obtain rfl:=k97_openM hM96;have HP96:=Kd.R_seg HX96.out (((rd_T97 l0_0 a1).f1):Int) (of_decide_eq_true (by first|(with_reducible assumption)|assumption)) (by have h_:(((rd_T97 l0_0 a1).f1):Int) < ((t265.length:Int):Int):=of_decide_eq_true (by first|(with_reducible assumption)|assumption);first|exact h_|(have e_:=(Kd.R_reads' HO_273000.out).1;omega)|simpa using h_) (seg:=[.int .i64 ((rd_T97 l0_0 a1).f2)]) (j:=2) hcl96 hcc96 (show 3≤4 from by decide) (x':=(⟨(rd_T97 t265 ((rd_T97 l0_0 a1).f1)).f0,(rd_T97 t265 ((rd_T97 l0_0 a1).f1)).f1,(rd_T97 l0_0 a1).f2,(rd_T97 t265 ((rd_T97 l0_0 a1).f1)).f3⟩:S97)) (k97_mkM _ _ _ (⟨(rd_T97 t265 ((rd_T97 l0_0 a1).f1)).f0,(rd_T97 t265 ((rd_T97 l0_0 a1).f1)).f1,(rd_T97 l0_0 a1).f2,(rd_T97 t265 ((rd_T97 l0_0 a1).f1)).f3⟩:S97) ) (fun _ hk=>hk);have hx96_2:=hcc96 2 _ rfl;(try simp only [show (k97).sz=4 from rfl,Nat.mul_one,Nat.add_zero] at hx96_2);have hf96_2:=hfr96 2;(try simp only [show (k97).sz=4 from rfl,Nat.mul_one,Nat.add_zero] at hf96_2);clear hcl96 hcc96 hfr96 hM96)|((with_reducible refine gate_store (t:=3) (p:=43) rfl ?_);refine sx 3 43 (w92.setCell ⟨go45,(((rd_T97 l0_0 a1).f1):Int).toNat * 4 + 2,none⟩ (.int .i64 ((rd_T97 l0_0 a1).f2))) ?_;intro w97 hw;have hg:w92.grownBy w97 (some go45):=(by rw [hw];exact HP96.2);have hp_:Kd.R k97 97 w97 w.heap.size (fun k_=>k_≠gb277) (.slice (some ⟨go45,0,none⟩) t265.length co11) y278:=(by rw [hw,Ny278.out];exact HP96.1);clear HP96;replace BK263:=Aside0.mk (blk_grown (bk BK263) hg (Kd.R_ne HO_273000.out BK263.out (by decide)));replace BK264:=Aside0.mk (blk_grown (bk BK264) hg (Kd.R_ne HO_273000.out BK264.out (by decide)));replace BK272:=Aside0.mk (blk_grown (bk BK272) hg (Kd.R_ne HO_273000.out BK272.out (by decide)));replace BK277:=Aside0.mk (blk_grown (bk BK277) hg (Kd.R_away HO_273000.out (fun _ hk=>hk)));replace HO_273000:=Aside0.mk (hp_);replace HB:=Aside0.mk ((by rw [hw];exact below_set (HB.out) GB45.out:Below w.heap.size w w97));clear hg hw hp_;obtain ⟨hcz98_0,hcz98_1,hcz98_2,hcz98_3,hfz98_0,hfz98_1,hfz98_2,hfz98_3⟩:=ck4 BK277.out;obtain ⟨hcz99_0,hcz99_1,hcz99_2,hcz99_3,hcz99_4,hfz99_0,hfz99_1,hfz99_2,hfz99_3,hfz99_4⟩:=ck5 BK272.out)|((with_reducible refine gate_store (t:=3) (p:=60) rfl ?_);refine sx 3 60 (w97.setCell ⟨gb272,2,none⟩ (.int .i64 ((rd_T97 l0_0 a1).f1))) ?_;intro w100 hw;have n0_:Aside0 (Kd.R k97 97 w100 w.heap.size (fun k_=>k_≠gb277) (.slice (some ⟨go45,0,none⟩) t265.length co11) y278):=⟨(by rw [hw];exact (by (with_reducible repeat (first|apply Kd.R_alloc|apply Kd.R_drewN|apply Kd.R_drew));exact Kd.R_mono (Kd.R_far (p:=⟨gb272,2,none⟩) (Kd.R_types HO_273000.out BK272.out (by decide)) (fun _ hk=>hk.2) (.int .i64 ((rd_T97 l0_0 a1).f1))) (fun _ hk=>hk.1)))⟩;have n1_:Aside0 (w100.heap[gb263]? = some (.cells #[.slice (some ad276) l0_0.length c0_0,.int .i64 a0_1,.int .i64 a0_2,.int .i64 a0_3,.int .i64 a0_4] 28 (0,0))):=⟨(by rw [hw];exact (bf BK263))⟩;have n2_:Aside0 (w100.heap[gb264]? = some (.cells #[.slice none 0 0,.int .i64 0,.int .i64 0,.int .i64 0,.int .i64 0] 28 (0,0))):=⟨(by rw [hw];exact (bf BK264))⟩;have n3_:Aside0 (w100.heap[gb272]? = some (.cells #[.slice (some ⟨go45,0,none⟩) t265.length co11,.int .i64 t268,.int .i64 ((rd_T97 l0_0 a1).f1),.int .i64 t270,.int .i64 t271] 28 (0,0))):=⟨(by rw [hw];exact (by (with_reducible repeat (first|refine blk_drewN ?_ _|refine blk_drew ?_|refine blk_alloc ?_ _));refine blk_put (cs:=#[.slice (some ⟨go45,0,none⟩) t265.length co11,.int .i64 t268,.int .i64 t269,.int .i64 t270,.int .i64 t271]) ?_ 2 _ rfl;(with_reducible repeat (first|refine blk_drewN ?_ _|refine blk_drew ?_|refine blk_alloc ?_ _));exact BK272.out))⟩;have n4_:Aside0 (w100.heap[gb277]? = some (.cells #[.int .i64 ((rd_T97 l0_0 a1).f0),.int .i64 ((rd_T97 l0_0 a1).f1),.int .i64 ((rd_T97 l0_0 a1).f2),.bool ((rd_T97 l0_0 a1).f3)] 97 (0,0))):=⟨(by rw [hw];exact (bf BK277))⟩;have n5_:Aside0 (Below w.heap.size w w100):=⟨(by rw [hw];exact bl)⟩;clear hw;clear HO_273000;clear BK263;clear BK264;clear BK272;clear BK277;clear HB;have HO_273000:=n0_;have BK263:=n1_;have BK264:=n2_;have BK272:=n3_;have BK277:=n4_;have HB:=n5_;clear n0_ n1_ n2_ n3_ n4_ n5_;obtain ⟨hcz101_0,hcz101_1,hcz101_2,hcz101_3,hcz101_4,hfz101_0,hfz101_1,hfz101_2,hfz101_3,hfz101_4⟩:=ck5 BK272.out;obtain ⟨hcz102_0,hcz102_1,hcz102_2,hcz102_3,hcz102_4,hfz102_0,hfz102_1,hfz102_2,hfz102_3,hfz102_4⟩:=ck5 BK263.out;have p83:0≤(a1:Int):=of_decide_eq_true (by first|(with_reducible assumption)|assumption);have q83:(a1:Int) < ((t265.length:Int):Int):=of_decide_eq_true (by first|(with_reducible assumption)|assumption);obtain ⟨ce83,hcl83,hM83,hcc83,hfr83⟩:=Kd.R_elem HO_273000.out z97 (a1:Int) p83 q83;obtain rfl:=k97_openM hM83;have hx83_0:w100.cell? ⟨go45,(a1:Int).toNat * 4,none⟩=some (.int .i64 ((rd_T97 y278 a1).f0)):=hcc83 0 _ rfl;have hx83_1:w100.cell? ⟨go45,(a1:Int).toNat * 4 + 1,none⟩=some (.int .i64 ((rd_T97 y278 a1).f1)):=hcc83 1 _ rfl;have hx83_2:w100.cell? ⟨go45,(a1:Int).toNat * 4 + 2,none⟩=some (.int .i64 ((rd_T97 y278 a1).f2)):=hcc83 2 _ rfl;have hx83_3:w100.cell? ⟨go45,(a1:Int).toNat * 4 + 3,none⟩=some (.bool ((rd_T97 y278 a1).f3)):=hcc83 3 _ rfl;have hf83_0:w100.frozen? ⟨go45,(a1:Int).toNat * 4,none⟩=false:=hfr83 0;have hf83_1:w100.frozen? ⟨go45,(a1:Int).toNat * 4 + 1,none⟩=false:=hfr83 1;have hf83_2:w100.frozen? ⟨go45,(a1:Int).toNat * 4 + 2,none⟩=false:=hfr83 2;have hf83_3:w100.frozen? ⟨go45,(a1:Int).toNat * 4 + 3,none⟩=false:=hfr83 3;clear hcl83 hcc83 hfr83 hM83;replace p83:=eq_true p83;replace q83:=eq_true q83;have HX103:=Aside0.mk (show Kd.R k97 97 w100 w.heap.size (fun k_=>k_≠gb277) (.slice (some ⟨go45,0,none⟩) t265.length co11) y278 from (kr HO_273000));obtain ⟨ce103,hcl103,hM103,hcc103,hfr103⟩:=Kd.R_elem HX103.out z97 (a1:Int) (of_decide_eq_true (by first|(with_reducible assumption)|assumption)) (by have h_:(a1:Int) < ((t265.length:Int):Int):=of_decide_eq_true (by first|(with_reducible assumption)|assumption);first|exact h_|(have e_:=(Kd.R_reads' HO_273000.out).1;omega)|simpa using h_);obtain rfl:=k97_openM hM103;have HP103:=Kd.R_seg HX103.out (a1:Int) (of_decide_eq_true (by first|(with_reducible assumption)|assumption)) (by have h_:(a1:Int) < ((t265.length:Int):Int):=of_decide_eq_true (by first|(with_reducible assumption)|assumption);first|exact h_|(have e_:=(Kd.R_reads' HO_273000.out).1;omega)|simpa using h_) (seg:=[.int .i64 0,.int .i64 (-1),.int .i64 a0_3,.bool false]) (j:=0) hcl103 hcc103 (show 4≤4 from by decide) (x':=(⟨0,(-1),a0_3,false⟩:S97)) (k97_mkM _ _ _ (⟨0,(-1),a0_3,false⟩:S97) ) (fun _ hk=>hk);have hx103_0:=hcc103 0 _ rfl;(try simp only [show (k97).sz=4 from rfl,Nat.mul_one,Nat.add_zero] at hx103_0);have hf103_0:=hfr103 0;(try simp only [show (k97).sz=4 from rfl,Nat.mul_one,Nat.add_zero] at hf103_0);have hx103_1:=hcc103 1 _ rfl;(try simp only [show (k97).sz=4 from rfl,Nat.mul_one,Nat.add_zero] at hx103_1);have hf103_1:=hfr103 1;(try simp only [show (k97).sz=4 from rfl,Nat.mul_one,Nat.add_zero] at hf103_1);have hx103_2:=hcc103 2 _ rfl;(try simp only [show (k97).sz=4 from rfl,Nat.mul_one,Nat.add_zero] at hx103_2);have hf103_2:=hfr103 2;(try simp only [show (k97).sz=4 from rfl,Nat.mul_one,Nat.add_zero] at hf103_2);have hx103_3:=hcc103 3 _ rfl;(try simp only [show (k97).sz=4 from rfl,Nat.mul_one,Nat.add_zero] at hx103_3);have hf103_3:=hfr103 3;(try simp only [show (k97).sz=4 from rfl,Nat.mul_one,Nat.add_zero] at hf103_3);clear hcl103 hcc103 hfr103 hM103)|((with_reducible refine gate_store (t:=97) (p:=67) rfl ?_);refine sx 97 67 ((((w100.setCell ⟨go45,(a1:Int).toNat * 4,none⟩ (.int .i64 0)).setCell ⟨go45,(a1:Int).toNat * 4 + 1,none⟩ (.int .i64 (-1))).setCell ⟨go45,(a1:Int).toNat * 4 + 2,none⟩ (.int .i64 a0_3)).setCell ⟨go45,(a1:Int).toNat * 4 + 3,none⟩ (.bool false)) ?_;intro w104 hw;have hg:w100.grownBy w104 (some go45):=(by rw [hw];exact HP103.2);have hp_:Kd.R k97 97 w104 w.heap.size (fun k_=>k_≠gb277) (.slice (some ⟨go45,0,none⟩) t265.length co11) y281:=(by rw [hw,Ny281.out];exact HP103.1);clear HP103;replace BK263:=Aside0.mk (blk_grown (bk BK263) hg (Kd.R_ne HO_273000.out BK263.out (by decide)));replace BK264:=Aside0.mk (blk_grown (bk BK264) hg (Kd.R_ne HO_273000.out BK264.out (by decide)));replace BK272:=Aside0.mk (blk_grown (bk BK272) hg (Kd.R_ne HO_273000.out BK272.out (by decide)));replace BK277:=Aside0.mk (blk_grown (bk BK277) hg (Kd.R_away HO_273000.out (fun _ hk=>hk)));replace HO_273000:=Aside0.mk (hp_);replace HB:=Aside0.mk ((by rw [hw];exact below_set (below_set (below_set (below_set (HB.out) GB45.out) GB45.out) GB45.out) GB45.out:Below w.heap.size w w104));clear hg hw hp_;obtain ⟨hcz105_0,hcz105_1,hcz105_2,hcz105_3,hcz105_4,hfz105_0,hfz105_1,hfz105_2,hfz105_3,hfz105_4⟩:=ck5 BK272.out))
           have n0_:Aside0 (Kd.R k97 97 ((w104.setCell ⟨gb272,3,none⟩ (.int .i64 a1)).setCell ⟨gb272,4,none⟩ (.int .i64 (wrap64 (t271 - 1)))) w.heap.size (fun k_=>k_≠gb277) (.slice (some ⟨go45,0,none⟩) t265.length co11) y281):=⟨by (with_reducible repeat (first|apply Kd.R_alloc|apply Kd.R_drewN|apply Kd.R_drew));exact Kd.R_mono (Kd.R_far (p:=⟨gb272,4,none⟩) (Kd.R_far (p:=⟨gb272,3,none⟩) (Kd.R_types HO_273000.out BK272.out (by decide)) (fun _ hk=>hk.2) (.int .i64 a1)) (fun _ hk=>hk.2) (.int .i64 (wrap64 (t271 - 1)))) (fun _ hk=>hk.1)⟩
           have n1_:Aside0 (((w104.setCell ⟨gb272,3,none⟩ (.int .i64 a1)).setCell ⟨gb272,4,none⟩ (.int .i64 (wrap64 (t271 - 1)))).heap[gb263]? = some (.cells #[.slice (some ad276) l0_0.length c0_0,.int .i64 a0_1,.int .i64 a0_2,.int .i64 a0_3,.int .i64 a0_4] 28 (0,0))):=⟨bf BK263⟩
           have n2_:Aside0 (((w104.setCell ⟨gb272,3,none⟩ (.int .i64 a1)).setCell ⟨gb272,4,none⟩ (.int .i64 (wrap64 (t271 - 1)))).heap[gb264]? = some (.cells #[.slice none 0 0,.int .i64 0,.int .i64 0,.int .i64 0,.int .i64 0] 28 (0,0))):=⟨bf BK264⟩
           have n3_:Aside0 (((w104.setCell ⟨gb272,3,none⟩ (.int .i64 a1)).setCell ⟨gb272,4,none⟩ (.int .i64 (wrap64 (t271 - 1)))).heap[gb272]? = some (.cells #[.slice (some ⟨go45,0,none⟩) t265.length co11,.int .i64 t268,.int .i64 ((rd_T97 l0_0 a1).f1),.int .i64 a1,.int .i64 (wrap64 (t271 - 1))] 28 (0,0))):=⟨by (with_reducible repeat (first|refine blk_drewN ?_ _|refine blk_drew ?_|refine blk_alloc ?_ _));refine blk_put (cs:=#[.slice (some ⟨go45,0,none⟩) t265.length co11,.int .i64 t268,.int .i64 ((rd_T97 l0_0 a1).f1),.int .i64 a1,.int .i64 t271]) ?_ 4 _ rfl;(with_reducible repeat (first|refine blk_drewN ?_ _|refine blk_drew ?_|refine blk_alloc ?_ _));refine blk_put (cs:=#[.slice (some ⟨go45,0,none⟩) t265.length co11,.int .i64 t268,.int .i64 ((rd_T97 l0_0 a1).f1),.int .i64 t270,.int .i64 t271]) ?_ 3 _ rfl;(with_reducible repeat (first|refine blk_drewN ?_ _|refine blk_drew ?_|refine blk_alloc ?_ _));exact BK272.out⟩
           have n4_:Aside0 (((w104.setCell ⟨gb272,3,none⟩ (.int .i64 a1)).setCell ⟨gb272,4,none⟩ (.int .i64 (wrap64 (t271 - 1)))).heap[gb277]? = some (.cells #[.int .i64 ((rd_T97 l0_0 a1).f0),.int .i64 ((rd_T97 l0_0 a1).f1),.int .i64 ((rd_T97 l0_0 a1).f2),.bool ((rd_T97 l0_0 a1).f3)] 97 (0,0))):=⟨bf BK277⟩
           have n5_:Aside0 (Below w.heap.size w ((w104.setCell ⟨gb272,3,none⟩ (.int .i64 a1)).setCell ⟨gb272,4,none⟩ (.int .i64 (wrap64 (t271 - 1))))):=⟨bl⟩
           (try clear HO_273000)
           (try clear BK263)
           (try clear BK264)
           (try clear BK272)
           (try clear BK277)
           (try clear HB)
           generalize ((w104.setCell ⟨gb272,3,none⟩ (.int .i64 a1)).setCell ⟨gb272,4,none⟩ (.int .i64 (wrap64 (t271 - 1))))=w106 at n0_ n1_ n2_ n3_ n4_ n5_ ⊢
           have HO_273000:=n0_
           have BK263:=n1_
           have BK264:=n2_
           have BK272:=n3_
           have BK277:=n4_
           have HB:=n5_
           clear n0_ n1_ n2_ n3_ n4_ n5_
           replace HO_273000:=Aside0.mk (Kd.R_drew HO_273000.out)
           replace BK263:=Aside0.mk (blk_drew BK263.out)
           replace BK264:=Aside0.mk (blk_drew BK264.out)
           replace BK272:=Aside0.mk (blk_drew BK272.out)
           replace BK277:=Aside0.mk (blk_drew BK277.out)
           replace HB:=Aside0.mk (below_drew1 HB.out)
           refine start_ (n:=5) (S:=fun w'=>w'.cell? ⟨gb272,0,none⟩=some (.slice (some ⟨go45,0,none⟩) t265.length co11)∧w'.cell? ⟨gb272,1,none⟩=some (.int .i64 t268)∧w'.cell? ⟨gb272,2,none⟩=some (.int .i64 ((rd_T97 l0_0 a1).f1))∧w'.cell? ⟨gb272,3,none⟩=some (.int .i64 a1)∧w'.cell? ⟨gb272,4,none⟩=some (.int .i64 (wrap64 (t271 - 1)))∧w'.cell? ⟨gb277,0,none⟩=some (.int .i64 ((rd_T97 l0_0 a1).f0))∧w'.cell? ⟨gb277,1,none⟩=some (.int .i64 ((rd_T97 l0_0 a1).f1))∧w'.cell? ⟨gb277,2,none⟩=some (.int .i64 ((rd_T97 l0_0 a1).f2))∧w'.cell? ⟨gb277,3,none⟩=some (.bool ((rd_T97 l0_0 a1).f3))) (ds:=[]) (bs 5 0) (by kernel_rfl) rfl rfl ⟨bc BK272 0,bc BK272 1,bc BK272 2,bc BK272 3,bc BK272 4,bc BK277 0,bc BK277 1,bc BK277 2,bc BK277 3⟩ (fun hHeld=>?_)
           generalize w106.drew=w107 at HO_273000 BK263 BK264 BK272 BK277 HB hHeld ⊢
           refine pk 1 75 (bs 5 2) ?_
           refine tk 0 74 (bs 5 3) hHeld ?_
           refine tk 2 76 (bs 5 7) hHeld ?_
           refine one_ (i:=3) (N:=none) (bs 5 15) rfl rfl (by kernel_rfl) (by decide) (fun K hK=>?_)
           have hs108:w107.cell? ⟨gb264,0,none⟩=some (.slice none 0 0):=(blk_cell BK264.out 0).trans rfl
           have hfs108:=blk_frozen BK264.out 0
           have hns108_0:=NB263_264.out
           have hns108_2:=NB272_264.out
           have hns108_3:=NB277_264.out
           have hms108_0:=NB264_263.out
           have hms108_2:=NB264_272.out
           have hms108_3:=NB264_277.out
           have hs109:w107.cell? ⟨gb264,1,none⟩=some (.int .i64 0):=(blk_cell BK264.out 1).trans rfl
           have hfs109:=blk_frozen BK264.out 1
           have hns109_0:=NB263_264.out
           have hns109_2:=NB272_264.out
           have hns109_3:=NB277_264.out
           have hms109_0:=NB264_263.out
           have hms109_2:=NB264_272.out
           have hms109_3:=NB264_277.out
           have hs110:w107.cell? ⟨gb264,2,none⟩=some (.int .i64 0):=(blk_cell BK264.out 2).trans rfl
           have hfs110:=blk_frozen BK264.out 2
           have hns110_0:=NB263_264.out
           have hns110_2:=NB272_264.out
           have hns110_3:=NB277_264.out
           have hms110_0:=NB264_263.out
           have hms110_2:=NB264_272.out
           have hms110_3:=NB264_277.out
           have hs111:w107.cell? ⟨gb264,3,none⟩=some (.int .i64 0):=(blk_cell BK264.out 3).trans rfl
           have hfs111:=blk_frozen BK264.out 3
           have hns111_0:=NB263_264.out
           have hns111_2:=NB272_264.out
           have hns111_3:=NB277_264.out
           have hms111_0:=NB264_263.out
           have hms111_2:=NB264_272.out
           have hms111_3:=NB264_277.out
           have hs112:w107.cell? ⟨gb264,4,none⟩=some (.int .i64 0):=(blk_cell BK264.out 4).trans rfl
           have hfs112:=blk_frozen BK264.out 4
           have hns112_0:=NB263_264.out
           have hns112_2:=NB272_264.out
           have hns112_3:=NB277_264.out
           have hms112_0:=NB264_263.out
           have hms112_2:=NB264_272.out
           have hms112_3:=NB264_277.out
           refine skip_ (w1:=?_) (by rfl) rfl ?_ ?_
           rotate_left
           ·go_simp
            rfl
           refine hK.out _ _ ⟨((cell_far (p:=⟨gb264,_,none⟩) NB272_264.out _).trans (((cell_far (p:=⟨gb264,_,none⟩) NB272_264.out _).trans (((cell_far (p:=⟨gb264,_,none⟩) NB272_264.out _).trans (((cell_far (p:=⟨gb264,_,none⟩) NB272_264.out _).trans (((cell_far (p:=⟨gb264,_,none⟩) NB272_264.out _).trans (hHeld.1)))))))))),((cell_far (p:=⟨gb264,_,none⟩) NB272_264.out _).trans (((cell_far (p:=⟨gb264,_,none⟩) NB272_264.out _).trans (((cell_far (p:=⟨gb264,_,none⟩) NB272_264.out _).trans (((cell_far (p:=⟨gb264,_,none⟩) NB272_264.out _).trans (((cell_far (p:=⟨gb264,_,none⟩) NB272_264.out _).trans (hHeld.2.1)))))))))),((cell_far (p:=⟨gb264,_,none⟩) NB272_264.out _).trans (((cell_far (p:=⟨gb264,_,none⟩) NB272_264.out _).trans (((cell_far (p:=⟨gb264,_,none⟩) NB272_264.out _).trans (((cell_far (p:=⟨gb264,_,none⟩) NB272_264.out _).trans (((cell_far (p:=⟨gb264,_,none⟩) NB272_264.out _).trans (hHeld.2.2.1)))))))))),((cell_far (p:=⟨gb264,_,none⟩) NB272_264.out _).trans (((cell_far (p:=⟨gb264,_,none⟩) NB272_264.out _).trans (((cell_far (p:=⟨gb264,_,none⟩) NB272_264.out _).trans (((cell_far (p:=⟨gb264,_,none⟩) NB272_264.out _).trans (((cell_far (p:=⟨gb264,_,none⟩) NB272_264.out _).trans (hHeld.2.2.2.1)))))))))),((cell_far (p:=⟨gb264,_,none⟩) NB272_264.out _).trans (((cell_far (p:=⟨gb264,_,none⟩) NB272_264.out _).trans (((cell_far (p:=⟨gb264,_,none⟩) NB272_264.out _).trans (((cell_far (p:=⟨gb264,_,none⟩) NB272_264.out _).trans (((cell_far (p:=⟨gb264,_,none⟩) NB272_264.out _).trans (hHeld.2.2.2.2.1)))))))))),((cell_far (p:=⟨gb264,_,none⟩) NB277_264.out _).trans (((cell_far (p:=⟨gb264,_,none⟩) NB277_264.out _).trans (((cell_far (p:=⟨gb264,_,none⟩) NB277_264.out _).trans (((cell_far (p:=⟨gb264,_,none⟩) NB277_264.out _).trans (((cell_far (p:=⟨gb264,_,none⟩) NB277_264.out _).trans (hHeld.2.2.2.2.2.1)))))))))),((cell_far (p:=⟨gb264,_,none⟩) NB277_264.out _).trans (((cell_far (p:=⟨gb264,_,none⟩) NB277_264.out _).trans (((cell_far (p:=⟨gb264,_,none⟩) NB277_264.out _).trans (((cell_far (p:=⟨gb264,_,none⟩) NB277_264.out _).trans (((cell_far (p:=⟨gb264,_,none⟩) NB277_264.out _).trans (hHeld.2.2.2.2.2.2.1)))))))))),((cell_far (p:=⟨gb264,_,none⟩) NB277_264.out _).trans (((cell_far (p:=⟨gb264,_,none⟩) NB277_264.out _).trans (((cell_far (p:=⟨gb264,_,none⟩) NB277_264.out _).trans (((cell_far (p:=⟨gb264,_,none⟩) NB277_264.out _).trans (((cell_far (p:=⟨gb264,_,none⟩) NB277_264.out _).trans (hHeld.2.2.2.2.2.2.2.1)))))))))),((cell_far (p:=⟨gb264,_,none⟩) NB277_264.out _).trans (((cell_far (p:=⟨gb264,_,none⟩) NB277_264.out _).trans (((cell_far (p:=⟨gb264,_,none⟩) NB277_264.out _).trans (((cell_far (p:=⟨gb264,_,none⟩) NB277_264.out _).trans (((cell_far (p:=⟨gb264,_,none⟩) NB277_264.out _).trans (hHeld.2.2.2.2.2.2.2.2))))))))))⟩ (fun hHeld=>?_)
           clear hK K
           refine pk 4 5 (bs 5 31) ?_
           refine done_ (by kernel_rfl) ?_
           try go_wp2
           refine bodyPost_ret (results_ct rfl _ _ gb264 28 #[.slice (some ⟨go45,0,none⟩) t265.length co11,.int .i64 t268,.int .i64 ((rd_T97 l0_0 a1).f1),.int .i64 a1,.int .i64 (wrap64 (t271 - 1))] (0,0) _ rfl (by (with_reducible repeat (first|refine blk_drewN ?_ _|refine blk_drew ?_|refine blk_alloc ?_ _));refine blk_put (cs:=#[.slice (some ⟨go45,0,none⟩) t265.length co11,.int .i64 t268,.int .i64 ((rd_T97 l0_0 a1).f1),.int .i64 a1,.int .i64 0]) ?_ 4 _ rfl;(with_reducible repeat (first|refine blk_drewN ?_ _|refine blk_drew ?_|refine blk_alloc ?_ _));refine blk_put (cs:=#[.slice (some ⟨go45,0,none⟩) t265.length co11,.int .i64 t268,.int .i64 ((rd_T97 l0_0 a1).f1),.int .i64 0,.int .i64 0]) ?_ 3 _ rfl;(with_reducible repeat (first|refine blk_drewN ?_ _|refine blk_drew ?_|refine blk_alloc ?_ _));refine blk_put (cs:=#[.slice (some ⟨go45,0,none⟩) t265.length co11,.int .i64 t268,.int .i64 0,.int .i64 0,.int .i64 0]) ?_ 2 _ rfl;(with_reducible repeat (first|refine blk_drewN ?_ _|refine blk_drew ?_|refine blk_alloc ?_ _));refine blk_put (cs:=#[.slice (some ⟨go45,0,none⟩) t265.length co11,.int .i64 0,.int .i64 0,.int .i64 0,.int .i64 0]) ?_ 1 _ rfl;(with_reducible repeat (first|refine blk_drewN ?_ _|refine blk_drew ?_|refine blk_alloc ?_ _));refine blk_put (cs:=#[.slice none 0 0,.int .i64 0,.int .i64 0,.int .i64 0,.int .i64 0]) ?_ 0 _ rfl;(with_reducible repeat (first|refine blk_drewN ?_ _|refine blk_drew ?_|refine blk_alloc ?_ _));exact BK264.out) Try.underlying28 rfl (by kernel_rfl)) rfl ?_
           exact ⟨_,by first|rfl|(simp [errW_none,errW_some] <;> rfl)|(simp [*,errW_none,errW_some] <;> rfl),by (with_reducible repeat (first|apply Kd.R_alloc|apply Kd.R_drewN|apply Kd.R_drew));exact Kd.R_mono (Kd.R_far (p:=⟨gb264,4,none⟩) (Kd.R_far (p:=⟨gb264,3,none⟩) (Kd.R_far (p:=⟨gb264,2,none⟩) (Kd.R_far (p:=⟨gb264,1,none⟩) (Kd.R_far (p:=⟨gb264,0,none⟩) (Kd.R_types HO_273000.out BK264.out (by decide)) (fun _ hk=>hk.2) (.slice (some ⟨go45,0,none⟩) t265.length co11)) (fun _ hk=>hk.2) (.int .i64 t268)) (fun _ hk=>hk.2) (.int .i64 ((rd_T97 l0_0 a1).f1))) (fun _ hk=>hk.2) (.int .i64 a1)) (fun _ hk=>hk.2) (.int .i64 (wrap64 (t271 - 1)))) (fun _ hk=>trivial),bl⟩
          ·rw [if_neg c82] at H
           exact absurd H (by simp)
        ·rw [if_neg c44] at H
         exact absurd H (by simp)
       ·rw [if_neg c43] at H
        exact absurd H (by simp)
      ·rw [if_neg c42] at H
       have c42b0:decide (0≤((rd_T97 l0_0 a1).f1))=false:=decide_eq_false c42
       clear c42
       by_cases c113:((rd_T97 l0_0 a1).f2) ≥ 0
       ·rw [if_pos c113] at H
        have c113b0:decide (0≤((rd_T97 l0_0 a1).f2))=true:=decide_eq_true c113
        clear c113
        by_cases c114:0≤((rd_T97 l0_0 a1).f2)
        ·rw [if_pos c114] at H
         have c114b0:decide (0≤((rd_T97 l0_0 a1).f2))=true:=decide_eq_true c114
         clear c114
         by_cases c115:((rd_T97 l0_0 a1).f2) < (t265.length:Int)
         ·rw [if_pos c115] at H
          have c115b0:decide (((rd_T97 l0_0 a1).f2) < (t265.length:Int))=true:=decide_eq_true c115
          clear c115
          obtain ⟨y282,hy282⟩:∃ y_:List (S97),y_=(t265.set (((rd_T97 l0_0 a1).f2):Int).toNat (⟨(rd_T97 t265 ((rd_T97 l0_0 a1).f2)).f0,(rd_T97 l0_0 a1).f1,(rd_T97 t265 ((rd_T97 l0_0 a1).f2)).f2,(rd_T97 t265 ((rd_T97 l0_0 a1).f2)).f3⟩:S97)):=⟨_,rfl⟩
          replace H:(if a1 < (t265.length:Int) then (some ((y282.set (a1:Int).toNat (⟨0,(-1),a0_3,false⟩:S97)),(rd_T97 l0_0 a1).f2,t269,a1,wrap64 (t271 - 1),(rd_T97 l0_0 a1).f0)) else (none))=some (r1,r2,r3,r4,r5,r6):=by first|(rw [hy282];with_reducible exact H)|(have H2_:=(Option.bind_some _ _).symm.trans H;rw [hy282];with_reducible exact H2_)|(have H2_:=(Option.bind_some _ _).symm.trans H;with_reducible exact H2_)|with_reducible exact H|(rw [hy282];exact H)|exact H
          have Ny282:=Aside0.mk hy282
          clear hy282
          by_cases c117:a1 < (t265.length:Int)
          ·rw [if_pos c117] at H
           have c117b0:decide (a1 < (t265.length:Int))=true:=decide_eq_true c117
           clear c117
           obtain ⟨y283,hy283⟩:∃ y_:List (S97),y_=(y282.set (a1:Int).toNat (⟨0,(-1),a0_3,false⟩:S97)):=⟨_,rfl⟩
           replace H:(some (y283,(rd_T97 l0_0 a1).f2,t269,a1,wrap64 (t271 - 1),(rd_T97 l0_0 a1).f0))=some (r1,r2,r3,r4,r5,r6):=by first|(rw [hy283];with_reducible exact H)|(have H2_:=(Option.bind_some _ _).symm.trans H;rw [hy283];with_reducible exact H2_)|(have H2_:=(Option.bind_some _ _).symm.trans H;with_reducible exact H2_)|with_reducible exact H|(rw [hy283];exact H)|exact H
           have Ny283:=Aside0.mk hy283
           clear hy283
           simp only [Option.some.injEq,Prod.mk.injEq] at H
           obtain ⟨rfl,rfl,rfl,rfl,rfl,rfl⟩:=H
           have hnb119:=NB263_264.out
           have hnc119:=NB264_263.out
           have hnb120:=NB263_272.out
           have hnc120:=NB272_263.out
           obtain ⟨hcz121_0,hcz121_1,hcz121_2,hcz121_3,hcz121_4,hfz121_0,hfz121_1,hfz121_2,hfz121_3,hfz121_4⟩:=ck5 BK263.out
           have p276:0≤(a1:Int):=of_decide_eq_true (by first|(with_reducible assumption)|assumption)
           have q276:a1 < (l0_0.length:Int):=of_decide_eq_true (by first|(with_reducible assumption)|assumption)
           obtain ⟨ad276,e276,hx276_0,hx276_1,hx276_2,hx276_3⟩:=at_T97 HR0_0.out a1 p276 q276
           cases e276
           replace hx276_0:=cl HB hx276_0
           replace hx276_1:=cl HB hx276_1
           replace hx276_2:=cl HB hx276_2
           replace hx276_3:=cl HB hx276_3
           replace p276:=eq_true p276
           replace q276:=eq_true q276
           try go_wp2_with (first|((with_reducible refine gate_dst (N:=7) rfl ?_);refine bx 7 #[.int .i64 0,.int .i64 0,.int .i64 0,.bool false] 97 ?_;intro gb277 hg w122 hbox hb;replace HO_273000:=Aside0.mk (Kd.R_below (Kd.R_elderB (kr HO_273000) gb277 (Nat.le_of_eq hg.symm)) hb);have BK277:=Aside0.mk (hbox);have GW277:=Aside0.mk (bz hg:w.heap.size≤gb277);have GE277:=GW277;replace HB:=Aside0.mk (below_step bl hb);have NB263_277:=Aside0.mk (nl hg BK263:gb263≠gb277);have NB277_263:=Aside0.mk (nr hg BK263:gb277≠gb263);replace BK263:=Aside0.mk (blk_below (bk BK263) hb);have NB264_277:=Aside0.mk (nl hg BK264:gb264≠gb277);have NB277_264:=Aside0.mk (nr hg BK264:gb277≠gb264);replace BK264:=Aside0.mk (blk_below (bk BK264) hb);have NB272_277:=Aside0.mk (nl hg BK272:gb272≠gb277);have NB277_272:=Aside0.mk (nr hg BK272:gb277≠gb272);replace BK272:=Aside0.mk (blk_below (bk BK272) hb);clear hb hbox hg;have hnb123:=NB277_263.out;have hnc123:=NB263_277.out;have hnb124:=NB277_264.out;have hnc124:=NB264_277.out;have hnb125:=NB277_272.out;have hnc125:=NB272_277.out;obtain ⟨hcz126_0,hcz126_1,hcz126_2,hcz126_3,hfz126_0,hfz126_1,hfz126_2,hfz126_3⟩:=ck4 BK277.out)|((with_reducible refine gate_store (t:=97) (p:=7) rfl ?_);refine sx 97 7 ((((w122.setCell ⟨gb277,0,none⟩ (.int .i64 ((rd_T97 l0_0 a1).f0))).setCell ⟨gb277,1,none⟩ (.int .i64 ((rd_T97 l0_0 a1).f1))).setCell ⟨gb277,2,none⟩ (.int .i64 ((rd_T97 l0_0 a1).f2))).setCell ⟨gb277,3,none⟩ (.bool ((rd_T97 l0_0 a1).f3))) ?_;intro w127 hw;have n0_:Aside0 (Kd.R k97 97 w127 w.heap.size (fun k_=>k_≠gb277) (.slice Ao11 t265.length co11) t265):=⟨(by rw [hw];exact (by (with_reducible repeat (first|apply Kd.R_alloc|apply Kd.R_drewN|apply Kd.R_drew));exact Kd.R_mono (Kd.R_far (p:=⟨gb277,3,none⟩) (Kd.R_far (p:=⟨gb277,2,none⟩) (Kd.R_far (p:=⟨gb277,1,none⟩) (Kd.R_far (p:=⟨gb277,0,none⟩) (Kd.R_mono HO_273000.out (fun k_ hk=>(⟨hk,hk.2⟩:_∧k_≠gb277))) (fun _ hk=>hk.2) (.int .i64 ((rd_T97 l0_0 a1).f0))) (fun _ hk=>hk.2) (.int .i64 ((rd_T97 l0_0 a1).f1))) (fun _ hk=>hk.2) (.int .i64 ((rd_T97 l0_0 a1).f2))) (fun _ hk=>hk.2) (.bool ((rd_T97 l0_0 a1).f3))) (fun _ hk=>hk.1.2)))⟩;have n1_:Aside0 (w127.heap[gb263]? = some (.cells #[.slice (some ad276) l0_0.length c0_0,.int .i64 a0_1,.int .i64 a0_2,.int .i64 a0_3,.int .i64 a0_4] 28 (0,0))):=⟨(by rw [hw];exact (bf BK263))⟩;have n2_:Aside0 (w127.heap[gb264]? = some (.cells #[.slice none 0 0,.int .i64 0,.int .i64 0,.int .i64 0,.int .i64 0] 28 (0,0))):=⟨(by rw [hw];exact (bf BK264))⟩;have n3_:Aside0 (w127.heap[gb272]? = some (.cells #[.slice Ao11 t265.length co11,.int .i64 t268,.int .i64 t269,.int .i64 t270,.int .i64 t271] 28 (0,0))):=⟨(by rw [hw];exact (bf BK272))⟩;have n4_:Aside0 (w127.heap[gb277]? = some (.cells #[.int .i64 ((rd_T97 l0_0 a1).f0),.int .i64 ((rd_T97 l0_0 a1).f1),.int .i64 ((rd_T97 l0_0 a1).f2),.bool ((rd_T97 l0_0 a1).f3)] 97 (0,0))):=⟨(by rw [hw];exact (by (with_reducible repeat (first|refine blk_drewN ?_ _|refine blk_drew ?_|refine blk_alloc ?_ _));refine blk_put (cs:=#[.int .i64 ((rd_T97 l0_0 a1).f0),.int .i64 ((rd_T97 l0_0 a1).f1),.int .i64 ((rd_T97 l0_0 a1).f2),.bool false]) ?_ 3 _ rfl;(with_reducible repeat (first|refine blk_drewN ?_ _|refine blk_drew ?_|refine blk_alloc ?_ _));refine blk_put (cs:=#[.int .i64 ((rd_T97 l0_0 a1).f0),.int .i64 ((rd_T97 l0_0 a1).f1),.int .i64 0,.bool false]) ?_ 2 _ rfl;(with_reducible repeat (first|refine blk_drewN ?_ _|refine blk_drew ?_|refine blk_alloc ?_ _));refine blk_put (cs:=#[.int .i64 ((rd_T97 l0_0 a1).f0),.int .i64 0,.int .i64 0,.bool false]) ?_ 1 _ rfl;(with_reducible repeat (first|refine blk_drewN ?_ _|refine blk_drew ?_|refine blk_alloc ?_ _));refine blk_put (cs:=#[.int .i64 0,.int .i64 0,.int .i64 0,.bool false]) ?_ 0 _ rfl;(with_reducible repeat (first|refine blk_drewN ?_ _|refine blk_drew ?_|refine blk_alloc ?_ _));exact BK277.out))⟩;have n5_:Aside0 (Below w.heap.size w w127):=⟨(by rw [hw];exact bl)⟩;clear hw;clear HO_273000;clear BK263;clear BK264;clear BK272;clear BK277;clear HB;have HO_273000:=n0_;have BK263:=n1_;have BK264:=n2_;have BK272:=n3_;have BK277:=n4_;have HB:=n5_;clear n0_ n1_ n2_ n3_ n4_ n5_;obtain ⟨hcz128_0,hcz128_1,hcz128_2,hcz128_3,hfz128_0,hfz128_1,hfz128_2,hfz128_3⟩:=ck4 BK277.out;have hnb129:=NB272_264.out;have hnc129:=NB264_272.out;obtain ⟨hcz130_0,hcz130_1,hcz130_2,hcz130_3,hcz130_4,hfz130_0,hfz130_1,hfz130_2,hfz130_3,hfz130_4⟩:=ck5 BK272.out)|((with_reducible refine gate_store (t:=3) (p:=46) rfl ?_);refine sx 3 46 (w127.setCell ⟨gb272,1,none⟩ (.int .i64 ((rd_T97 l0_0 a1).f2))) ?_;intro w131 hw;have n0_:Aside0 (Kd.R k97 97 w131 w.heap.size (fun k_=>k_≠gb277) (.slice Ao11 t265.length co11) t265):=⟨(by rw [hw];exact (by (with_reducible repeat (first|apply Kd.R_alloc|apply Kd.R_drewN|apply Kd.R_drew));exact Kd.R_mono (Kd.R_far (p:=⟨gb272,1,none⟩) (Kd.R_types HO_273000.out BK272.out (by decide)) (fun _ hk=>hk.2) (.int .i64 ((rd_T97 l0_0 a1).f2))) (fun _ hk=>hk.1)))⟩;have n1_:Aside0 (w131.heap[gb263]? = some (.cells #[.slice (some ad276) l0_0.length c0_0,.int .i64 a0_1,.int .i64 a0_2,.int .i64 a0_3,.int .i64 a0_4] 28 (0,0))):=⟨(by rw [hw];exact (bf BK263))⟩;have n2_:Aside0 (w131.heap[gb264]? = some (.cells #[.slice none 0 0,.int .i64 0,.int .i64 0,.int .i64 0,.int .i64 0] 28 (0,0))):=⟨(by rw [hw];exact (bf BK264))⟩;have n3_:Aside0 (w131.heap[gb272]? = some (.cells #[.slice Ao11 t265.length co11,.int .i64 ((rd_T97 l0_0 a1).f2),.int .i64 t269,.int .i64 t270,.int .i64 t271] 28 (0,0))):=⟨(by rw [hw];exact (by (with_reducible repeat (first|refine blk_drewN ?_ _|refine blk_drew ?_|refine blk_alloc ?_ _));refine blk_put (cs:=#[.slice Ao11 t265.length co11,.int .i64 t268,.int .i64 t269,.int .i64 t270,.int .i64 t271]) ?_ 1 _ rfl;(with_reducible repeat (first|refine blk_drewN ?_ _|refine blk_drew ?_|refine blk_alloc ?_ _));exact BK272.out))⟩;have n4_:Aside0 (w131.heap[gb277]? = some (.cells #[.int .i64 ((rd_T97 l0_0 a1).f0),.int .i64 ((rd_T97 l0_0 a1).f1),.int .i64 ((rd_T97 l0_0 a1).f2),.bool ((rd_T97 l0_0 a1).f3)] 97 (0,0))):=⟨(by rw [hw];exact (bf BK277))⟩;have n5_:Aside0 (Below w.heap.size w w131):=⟨(by rw [hw];exact bl)⟩;clear hw;clear HO_273000;clear BK263;clear BK264;clear BK272;clear BK277;clear HB;have HO_273000:=n0_;have BK263:=n1_;have BK264:=n2_;have BK272:=n3_;have BK277:=n4_;have HB:=n5_;clear n0_ n1_ n2_ n3_ n4_ n5_;obtain ⟨hcz132_0,hcz132_1,hcz132_2,hcz132_3,hfz132_0,hfz132_1,hfz132_2,hfz132_3⟩:=ck4 BK277.out;obtain ⟨hcz133_0,hcz133_1,hcz133_2,hcz133_3,hcz133_4,hfz133_0,hfz133_1,hfz133_2,hfz133_3,hfz133_4⟩:=ck5 BK272.out;have p116:0≤(((rd_T97 l0_0 a1).f2):Int):=of_decide_eq_true (by first|(with_reducible assumption)|assumption);have q116:(((rd_T97 l0_0 a1).f2):Int) < ((t265.length:Int):Int):=of_decide_eq_true (by first|(with_reducible assumption)|assumption);obtain ⟨go116,co116,eo116,gb116,gl116,cl116,HG116⟩:=Kd.R_form HO_273000.out (by omega);(first|cases eo116|(injection eo116 with ea_ en_ ec_;(first|subst ea_|(injection ea_ with ea_;subst ea_));subst ec_;clear en_));have GB116:=Aside0.mk gb116;have GG116:=Aside0.mk HG116;clear gb116 gl116 HG116;obtain ⟨ce116,hcl116,hM116,hcc116,hfr116⟩:=Kd.R_elem HO_273000.out z97 (((rd_T97 l0_0 a1).f2):Int) p116 q116;obtain rfl:=k97_openM hM116;have hx116_0:w131.cell? ⟨go116,(((rd_T97 l0_0 a1).f2):Int).toNat * 4,none⟩=some (.int .i64 ((rd_T97 t265 ((rd_T97 l0_0 a1).f2)).f0)):=hcc116 0 _ rfl;have hx116_1:w131.cell? ⟨go116,(((rd_T97 l0_0 a1).f2):Int).toNat * 4 + 1,none⟩=some (.int .i64 ((rd_T97 t265 ((rd_T97 l0_0 a1).f2)).f1)):=hcc116 1 _ rfl;have hx116_2:w131.cell? ⟨go116,(((rd_T97 l0_0 a1).f2):Int).toNat * 4 + 2,none⟩=some (.int .i64 ((rd_T97 t265 ((rd_T97 l0_0 a1).f2)).f2)):=hcc116 2 _ rfl;have hx116_3:w131.cell? ⟨go116,(((rd_T97 l0_0 a1).f2):Int).toNat * 4 + 3,none⟩=some (.bool ((rd_T97 t265 ((rd_T97 l0_0 a1).f2)).f3)):=hcc116 3 _ rfl;have hf116_0:w131.frozen? ⟨go116,(((rd_T97 l0_0 a1).f2):Int).toNat * 4,none⟩=false:=hfr116 0;have hf116_1:w131.frozen? ⟨go116,(((rd_T97 l0_0 a1).f2):Int).toNat * 4 + 1,none⟩=false:=hfr116 1;have hf116_2:w131.frozen? ⟨go116,(((rd_T97 l0_0 a1).f2):Int).toNat * 4 + 2,none⟩=false:=hfr116 2;have hf116_3:w131.frozen? ⟨go116,(((rd_T97 l0_0 a1).f2):Int).toNat * 4 + 3,none⟩=false:=hfr116 3;clear hcl116 hcc116 hfr116 hM116;replace p116:=eq_true p116;replace q116:=eq_true q116;have HX134:=Aside0.mk (show Kd.R k97 97 w131 w.heap.size (fun k_=>k_≠gb277) (.slice (some ⟨go116,0,none⟩) t265.length co11) t265 from (kr HO_273000));obtain ⟨ce134,hcl134,hM134,hcc134,hfr134⟩:=Kd.R_elem HX134.out z97 (((rd_T97 l0_0 a1).f2):Int) (of_decide_eq_true (by first|(with_reducible assumption)|assumption)) (by have h_:(((rd_T97 l0_0 a1).f2):Int) < ((t265.length:Int):Int):=of_decide_eq_true (by first|(with_reducible assumption)|assumption);first|exact h_|(have e_:=(Kd.R_reads' HO_273000.out).1;omega)|simpa using h_);obtain rfl:=k97_openM hM134;have HP134:=Kd.R_seg HX134.out (((rd_T97 l0_0 a1).f2):Int) (of_decide_eq_true (by first|(with_reducible assumption)|assumption)) (by have h_:(((rd_T97 l0_0 a1).f2):Int) < ((t265.length:Int):Int):=of_decide_eq_true (by first|(with_reducible assumption)|assumption);first|exact h_|(have e_:=(Kd.R_reads' HO_273000.out).1;omega)|simpa using h_) (seg:=[.int .i64 ((rd_T97 l0_0 a1).f1)]) (j:=1) hcl134 hcc134 (show 2≤4 from by decide) (x':=(⟨(rd_T97 t265 ((rd_T97 l0_0 a1).f2)).f0,(rd_T97 l0_0 a1).f1,(rd_T97 t265 ((rd_T97 l0_0 a1).f2)).f2,(rd_T97 t265 ((rd_T97 l0_0 a1).f2)).f3⟩:S97)) (k97_mkM _ _ _ (⟨(rd_T97 t265 ((rd_T97 l0_0 a1).f2)).f0,(rd_T97 l0_0 a1).f1,(rd_T97 t265 ((rd_T97 l0_0 a1).f2)).f2,(rd_T97 t265 ((rd_T97 l0_0 a1).f2)).f3⟩:S97) ) (fun _ hk=>hk);have hx134_1:=hcc134 1 _ rfl;(try simp only [show (k97).sz=4 from rfl,Nat.mul_one,Nat.add_zero] at hx134_1);have hf134_1:=hfr134 1;(try simp only [show (k97).sz=4 from rfl,Nat.mul_one,Nat.add_zero] at hf134_1);clear hcl134 hcc134 hfr134 hM134)|((with_reducible refine gate_store (t:=3) (p:=57) rfl ?_);refine sx 3 57 (w131.setCell ⟨go116,(((rd_T97 l0_0 a1).f2):Int).toNat * 4 + 1,none⟩ (.int .i64 ((rd_T97 l0_0 a1).f1))) ?_;intro w135 hw;have hg:w131.grownBy w135 (some go116):=(by rw [hw];exact HP134.2);have hp_:Kd.R k97 97 w135 w.heap.size (fun k_=>k_≠gb277) (.slice (some ⟨go116,0,none⟩) t265.length co11) y282:=(by rw [hw,Ny282.out];exact HP134.1);clear HP134;replace BK263:=Aside0.mk (blk_grown (bk BK263) hg (Kd.R_ne HO_273000.out BK263.out (by decide)));replace BK264:=Aside0.mk (blk_grown (bk BK264) hg (Kd.R_ne HO_273000.out BK264.out (by decide)));replace BK272:=Aside0.mk (blk_grown (bk BK272) hg (Kd.R_ne HO_273000.out BK272.out (by decide)));replace BK277:=Aside0.mk (blk_grown (bk BK277) hg (Kd.R_away HO_273000.out (fun _ hk=>hk)));replace HO_273000:=Aside0.mk (hp_);replace HB:=Aside0.mk ((by rw [hw];exact below_set (HB.out) GB116.out:Below w.heap.size w w135));clear hg hw hp_;obtain ⟨hcz136_0,hcz136_1,hcz136_2,hcz136_3,hcz136_4,hfz136_0,hfz136_1,hfz136_2,hfz136_3,hfz136_4⟩:=ck5 BK272.out;obtain ⟨hcz137_0,hcz137_1,hcz137_2,hcz137_3,hcz137_4,hfz137_0,hfz137_1,hfz137_2,hfz137_3,hfz137_4⟩:=ck5 BK263.out;have p118:0≤(a1:Int):=of_decide_eq_true (by first|(with_reducible assumption)|assumption);have q118:(a1:Int) < ((t265.length:Int):Int):=of_decide_eq_true (by first|(with_reducible assumption)|assumption);obtain ⟨ce118,hcl118,hM118,hcc118,hfr118⟩:=Kd.R_elem HO_273000.out z97 (a1:Int) p118 q118;obtain rfl:=k97_openM hM118;have hx118_0:w135.cell? ⟨go116,(a1:Int).toNat * 4,none⟩=some (.int .i64 ((rd_T97 y282 a1).f0)):=hcc118 0 _ rfl;have hx118_1:w135.cell? ⟨go116,(a1:Int).toNat * 4 + 1,none⟩=some (.int .i64 ((rd_T97 y282 a1).f1)):=hcc118 1 _ rfl;have hx118_2:w135.cell? ⟨go116,(a1:Int).toNat * 4 + 2,none⟩=some (.int .i64 ((rd_T97 y282 a1).f2)):=hcc118 2 _ rfl;have hx118_3:w135.cell? ⟨go116,(a1:Int).toNat * 4 + 3,none⟩=some (.bool ((rd_T97 y282 a1).f3)):=hcc118 3 _ rfl;have hf118_0:w135.frozen? ⟨go116,(a1:Int).toNat * 4,none⟩=false:=hfr118 0;have hf118_1:w135.frozen? ⟨go116,(a1:Int).toNat * 4 + 1,none⟩=false:=hfr118 1;have hf118_2:w135.frozen? ⟨go116,(a1:Int).toNat * 4 + 2,none⟩=false:=hfr118 2;have hf118_3:w135.frozen? ⟨go116,(a1:Int).toNat * 4 + 3,none⟩=false:=hfr118 3;clear hcl118 hcc118 hfr118 hM118;replace p118:=eq_true p118;replace q118:=eq_true q118;have HX138:=Aside0.mk (show Kd.R k97 97 w135 w.heap.size (fun k_=>k_≠gb277) (.slice (some ⟨go116,0,none⟩) t265.length co11) y282 from (kr HO_273000));obtain ⟨ce138,hcl138,hM138,hcc138,hfr138⟩:=Kd.R_elem HX138.out z97 (a1:Int) (of_decide_eq_true (by first|(with_reducible assumption)|assumption)) (by have h_:(a1:Int) < ((t265.length:Int):Int):=of_decide_eq_true (by first|(with_reducible assumption)|assumption);first|exact h_|(have e_:=(Kd.R_reads' HO_273000.out).1;omega)|simpa using h_);obtain rfl:=k97_openM hM138;have HP138:=Kd.R_seg HX138.out (a1:Int) (of_decide_eq_true (by first|(with_reducible assumption)|assumption)) (by have h_:(a1:Int) < ((t265.length:Int):Int):=of_decide_eq_true (by first|(with_reducible assumption)|assumption);first|exact h_|(have e_:=(Kd.R_reads' HO_273000.out).1;omega)|simpa using h_) (seg:=[.int .i64 0,.int .i64 (-1),.int .i64 a0_3,.bool false]) (j:=0) hcl138 hcc138 (show 4≤4 from by decide) (x':=(⟨0,(-1),a0_3,false⟩:S97)) (k97_mkM _ _ _ (⟨0,(-1),a0_3,false⟩:S97) ) (fun _ hk=>hk);have hx138_0:=hcc138 0 _ rfl;(try simp only [show (k97).sz=4 from rfl,Nat.mul_one,Nat.add_zero] at hx138_0);have hf138_0:=hfr138 0;(try simp only [show (k97).sz=4 from rfl,Nat.mul_one,Nat.add_zero] at hf138_0);have hx138_1:=hcc138 1 _ rfl;(try simp only [show (k97).sz=4 from rfl,Nat.mul_one,Nat.add_zero] at hx138_1);have hf138_1:=hfr138 1;(try simp only [show (k97).sz=4 from rfl,Nat.mul_one,Nat.add_zero] at hf138_1);have hx138_2:=hcc138 2 _ rfl;(try simp only [show (k97).sz=4 from rfl,Nat.mul_one,Nat.add_zero] at hx138_2);have hf138_2:=hfr138 2;(try simp only [show (k97).sz=4 from rfl,Nat.mul_one,Nat.add_zero] at hf138_2);have hx138_3:=hcc138 3 _ rfl;(try simp only [show (k97).sz=4 from rfl,Nat.mul_one,Nat.add_zero] at hx138_3);have hf138_3:=hfr138 3;(try simp only [show (k97).sz=4 from rfl,Nat.mul_one,Nat.add_zero] at hf138_3);clear hcl138 hcc138 hfr138 hM138)|((with_reducible refine gate_store (t:=97) (p:=67) rfl ?_);refine sx 97 67 ((((w135.setCell ⟨go116,(a1:Int).toNat * 4,none⟩ (.int .i64 0)).setCell ⟨go116,(a1:Int).toNat * 4 + 1,none⟩ (.int .i64 (-1))).setCell ⟨go116,(a1:Int).toNat * 4 + 2,none⟩ (.int .i64 a0_3)).setCell ⟨go116,(a1:Int).toNat * 4 + 3,none⟩ (.bool false)) ?_;intro w139 hw;have hg:w135.grownBy w139 (some go116):=(by rw [hw];exact HP138.2);have hp_:Kd.R k97 97 w139 w.heap.size (fun k_=>k_≠gb277) (.slice (some ⟨go116,0,none⟩) t265.length co11) y283:=(by rw [hw,Ny283.out];exact HP138.1);clear HP138;replace BK263:=Aside0.mk (blk_grown (bk BK263) hg (Kd.R_ne HO_273000.out BK263.out (by decide)));replace BK264:=Aside0.mk (blk_grown (bk BK264) hg (Kd.R_ne HO_273000.out BK264.out (by decide)));replace BK272:=Aside0.mk (blk_grown (bk BK272) hg (Kd.R_ne HO_273000.out BK272.out (by decide)));replace BK277:=Aside0.mk (blk_grown (bk BK277) hg (Kd.R_away HO_273000.out (fun _ hk=>hk)));replace HO_273000:=Aside0.mk (hp_);replace HB:=Aside0.mk ((by rw [hw];exact below_set (below_set (below_set (below_set (HB.out) GB116.out) GB116.out) GB116.out) GB116.out:Below w.heap.size w w139));clear hg hw hp_;obtain ⟨hcz140_0,hcz140_1,hcz140_2,hcz140_3,hcz140_4,hfz140_0,hfz140_1,hfz140_2,hfz140_3,hfz140_4⟩:=ck5 BK272.out))
           have n0_:Aside0 (Kd.R k97 97 ((w139.setCell ⟨gb272,3,none⟩ (.int .i64 a1)).setCell ⟨gb272,4,none⟩ (.int .i64 (wrap64 (t271 - 1)))) w.heap.size (fun k_=>k_≠gb277) (.slice (some ⟨go116,0,none⟩) t265.length co11) y283):=⟨by (with_reducible repeat (first|apply Kd.R_alloc|apply Kd.R_drewN|apply Kd.R_drew));exact Kd.R_mono (Kd.R_far (p:=⟨gb272,4,none⟩) (Kd.R_far (p:=⟨gb272,3,none⟩) (Kd.R_types HO_273000.out BK272.out (by decide)) (fun _ hk=>hk.2) (.int .i64 a1)) (fun _ hk=>hk.2) (.int .i64 (wrap64 (t271 - 1)))) (fun _ hk=>hk.1)⟩
           have n1_:Aside0 (((w139.setCell ⟨gb272,3,none⟩ (.int .i64 a1)).setCell ⟨gb272,4,none⟩ (.int .i64 (wrap64 (t271 - 1)))).heap[gb263]? = some (.cells #[.slice (some ad276) l0_0.length c0_0,.int .i64 a0_1,.int .i64 a0_2,.int .i64 a0_3,.int .i64 a0_4] 28 (0,0))):=⟨bf BK263⟩
           have n2_:Aside0 (((w139.setCell ⟨gb272,3,none⟩ (.int .i64 a1)).setCell ⟨gb272,4,none⟩ (.int .i64 (wrap64 (t271 - 1)))).heap[gb264]? = some (.cells #[.slice none 0 0,.int .i64 0,.int .i64 0,.int .i64 0,.int .i64 0] 28 (0,0))):=⟨bf BK264⟩
           have n3_:Aside0 (((w139.setCell ⟨gb272,3,none⟩ (.int .i64 a1)).setCell ⟨gb272,4,none⟩ (.int .i64 (wrap64 (t271 - 1)))).heap[gb272]? = some (.cells #[.slice (some ⟨go116,0,none⟩) t265.length co11,.int .i64 ((rd_T97 l0_0 a1).f2),.int .i64 t269,.int .i64 a1,.int .i64 (wrap64 (t271 - 1))] 28 (0,0))):=⟨by (with_reducible repeat (first|refine blk_drewN ?_ _|refine blk_drew ?_|refine blk_alloc ?_ _));refine blk_put (cs:=#[.slice (some ⟨go116,0,none⟩) t265.length co11,.int .i64 ((rd_T97 l0_0 a1).f2),.int .i64 t269,.int .i64 a1,.int .i64 t271]) ?_ 4 _ rfl;(with_reducible repeat (first|refine blk_drewN ?_ _|refine blk_drew ?_|refine blk_alloc ?_ _));refine blk_put (cs:=#[.slice (some ⟨go116,0,none⟩) t265.length co11,.int .i64 ((rd_T97 l0_0 a1).f2),.int .i64 t269,.int .i64 t270,.int .i64 t271]) ?_ 3 _ rfl;(with_reducible repeat (first|refine blk_drewN ?_ _|refine blk_drew ?_|refine blk_alloc ?_ _));exact BK272.out⟩
           have n4_:Aside0 (((w139.setCell ⟨gb272,3,none⟩ (.int .i64 a1)).setCell ⟨gb272,4,none⟩ (.int .i64 (wrap64 (t271 - 1)))).heap[gb277]? = some (.cells #[.int .i64 ((rd_T97 l0_0 a1).f0),.int .i64 ((rd_T97 l0_0 a1).f1),.int .i64 ((rd_T97 l0_0 a1).f2),.bool ((rd_T97 l0_0 a1).f3)] 97 (0,0))):=⟨bf BK277⟩
           have n5_:Aside0 (Below w.heap.size w ((w139.setCell ⟨gb272,3,none⟩ (.int .i64 a1)).setCell ⟨gb272,4,none⟩ (.int .i64 (wrap64 (t271 - 1))))):=⟨bl⟩
           (try clear HO_273000)
           (try clear BK263)
           (try clear BK264)
           (try clear BK272)
           (try clear BK277)
           (try clear HB)
           generalize ((w139.setCell ⟨gb272,3,none⟩ (.int .i64 a1)).setCell ⟨gb272,4,none⟩ (.int .i64 (wrap64 (t271 - 1))))=w141 at n0_ n1_ n2_ n3_ n4_ n5_ ⊢
           have HO_273000:=n0_
           have BK263:=n1_
           have BK264:=n2_
           have BK272:=n3_
           have BK277:=n4_
           have HB:=n5_
           clear n0_ n1_ n2_ n3_ n4_ n5_
           replace HO_273000:=Aside0.mk (Kd.R_drew HO_273000.out)
           replace BK263:=Aside0.mk (blk_drew BK263.out)
           replace BK264:=Aside0.mk (blk_drew BK264.out)
           replace BK272:=Aside0.mk (blk_drew BK272.out)
           replace BK277:=Aside0.mk (blk_drew BK277.out)
           replace HB:=Aside0.mk (below_drew1 HB.out)
           refine start_ (n:=5) (S:=fun w'=>w'.cell? ⟨gb272,0,none⟩=some (.slice (some ⟨go116,0,none⟩) t265.length co11)∧w'.cell? ⟨gb272,1,none⟩=some (.int .i64 ((rd_T97 l0_0 a1).f2))∧w'.cell? ⟨gb272,2,none⟩=some (.int .i64 t269)∧w'.cell? ⟨gb272,3,none⟩=some (.int .i64 a1)∧w'.cell? ⟨gb272,4,none⟩=some (.int .i64 (wrap64 (t271 - 1)))∧w'.cell? ⟨gb277,0,none⟩=some (.int .i64 ((rd_T97 l0_0 a1).f0))∧w'.cell? ⟨gb277,1,none⟩=some (.int .i64 ((rd_T97 l0_0 a1).f1))∧w'.cell? ⟨gb277,2,none⟩=some (.int .i64 ((rd_T97 l0_0 a1).f2))∧w'.cell? ⟨gb277,3,none⟩=some (.bool ((rd_T97 l0_0 a1).f3))) (ds:=[]) (bs 5 0) (by kernel_rfl) rfl rfl ⟨bc BK272 0,bc BK272 1,bc BK272 2,bc BK272 3,bc BK272 4,bc BK277 0,bc BK277 1,bc BK277 2,bc BK277 3⟩ (fun hHeld=>?_)
           generalize w141.drew=w142 at HO_273000 BK263 BK264 BK272 BK277 HB hHeld ⊢
           refine pk 1 75 (bs 5 2) ?_
           refine tk 0 74 (bs 5 3) hHeld ?_
           refine tk 2 76 (bs 5 7) hHeld ?_
           refine one_ (i:=3) (N:=none) (bs 5 15) rfl rfl (by kernel_rfl) (by decide) (fun K hK=>?_)
           have hs143:w142.cell? ⟨gb264,0,none⟩=some (.slice none 0 0):=(blk_cell BK264.out 0).trans rfl
           have hfs143:=blk_frozen BK264.out 0
           have hns143_0:=NB263_264.out
           have hns143_2:=NB272_264.out
           have hns143_3:=NB277_264.out
           have hms143_0:=NB264_263.out
           have hms143_2:=NB264_272.out
           have hms143_3:=NB264_277.out
           have hs144:w142.cell? ⟨gb264,1,none⟩=some (.int .i64 0):=(blk_cell BK264.out 1).trans rfl
           have hfs144:=blk_frozen BK264.out 1
           have hns144_0:=NB263_264.out
           have hns144_2:=NB272_264.out
           have hns144_3:=NB277_264.out
           have hms144_0:=NB264_263.out
           have hms144_2:=NB264_272.out
           have hms144_3:=NB264_277.out
           have hs145:w142.cell? ⟨gb264,2,none⟩=some (.int .i64 0):=(blk_cell BK264.out 2).trans rfl
           have hfs145:=blk_frozen BK264.out 2
           have hns145_0:=NB263_264.out
           have hns145_2:=NB272_264.out
           have hns145_3:=NB277_264.out
           have hms145_0:=NB264_263.out
           have hms145_2:=NB264_272.out
           have hms145_3:=NB264_277.out
           have hs146:w142.cell? ⟨gb264,3,none⟩=some (.int .i64 0):=(blk_cell BK264.out 3).trans rfl
           have hfs146:=blk_frozen BK264.out 3
           have hns146_0:=NB263_264.out
           have hns146_2:=NB272_264.out
           have hns146_3:=NB277_264.out
           have hms146_0:=NB264_263.out
           have hms146_2:=NB264_272.out
           have hms146_3:=NB264_277.out
           have hs147:w142.cell? ⟨gb264,4,none⟩=some (.int .i64 0):=(blk_cell BK264.out 4).trans rfl
           have hfs147:=blk_frozen BK264.out 4
           have hns147_0:=NB263_264.out
           have hns147_2:=NB272_264.out
           have hns147_3:=NB277_264.out
           have hms147_0:=NB264_263.out
           have hms147_2:=NB264_272.out
           have hms147_3:=NB264_277.out
           refine skip_ (w1:=?_) (by rfl) rfl ?_ ?_
           rotate_left
           ·go_simp
            rfl
           refine hK.out _ _ ⟨((cell_far (p:=⟨gb264,_,none⟩) NB272_264.out _).trans (((cell_far (p:=⟨gb264,_,none⟩) NB272_264.out _).trans (((cell_far (p:=⟨gb264,_,none⟩) NB272_264.out _).trans (((cell_far (p:=⟨gb264,_,none⟩) NB272_264.out _).trans (((cell_far (p:=⟨gb264,_,none⟩) NB272_264.out _).trans (hHeld.1)))))))))),((cell_far (p:=⟨gb264,_,none⟩) NB272_264.out _).trans (((cell_far (p:=⟨gb264,_,none⟩) NB272_264.out _).trans (((cell_far (p:=⟨gb264,_,none⟩) NB272_264.out _).trans (((cell_far (p:=⟨gb264,_,none⟩) NB272_264.out _).trans (((cell_far (p:=⟨gb264,_,none⟩) NB272_264.out _).trans (hHeld.2.1)))))))))),((cell_far (p:=⟨gb264,_,none⟩) NB272_264.out _).trans (((cell_far (p:=⟨gb264,_,none⟩) NB272_264.out _).trans (((cell_far (p:=⟨gb264,_,none⟩) NB272_264.out _).trans (((cell_far (p:=⟨gb264,_,none⟩) NB272_264.out _).trans (((cell_far (p:=⟨gb264,_,none⟩) NB272_264.out _).trans (hHeld.2.2.1)))))))))),((cell_far (p:=⟨gb264,_,none⟩) NB272_264.out _).trans (((cell_far (p:=⟨gb264,_,none⟩) NB272_264.out _).trans (((cell_far (p:=⟨gb264,_,none⟩) NB272_264.out _).trans (((cell_far (p:=⟨gb264,_,none⟩) NB272_264.out _).trans (((cell_far (p:=⟨gb264,_,none⟩) NB272_264.out _).trans (hHeld.2.2.2.1)))))))))),((cell_far (p:=⟨gb264,_,none⟩) NB272_264.out _).trans (((cell_far (p:=⟨gb264,_,none⟩) NB272_264.out _).trans (((cell_far (p:=⟨gb264,_,none⟩) NB272_264.out _).trans (((cell_far (p:=⟨gb264,_,none⟩) NB272_264.out _).trans (((cell_far (p:=⟨gb264,_,none⟩) NB272_264.out _).trans (hHeld.2.2.2.2.1)))))))))),((cell_far (p:=⟨gb264,_,none⟩) NB277_264.out _).trans (((cell_far (p:=⟨gb264,_,none⟩) NB277_264.out _).trans (((cell_far (p:=⟨gb264,_,none⟩) NB277_264.out _).trans (((cell_far (p:=⟨gb264,_,none⟩) NB277_264.out _).trans (((cell_far (p:=⟨gb264,_,none⟩) NB277_264.out _).trans (hHeld.2.2.2.2.2.1)))))))))),((cell_far (p:=⟨gb264,_,none⟩) NB277_264.out _).trans (((cell_far (p:=⟨gb264,_,none⟩) NB277_264.out _).trans (((cell_far (p:=⟨gb264,_,none⟩) NB277_264.out _).trans (((cell_far (p:=⟨gb264,_,none⟩) NB277_264.out _).trans (((cell_far (p:=⟨gb264,_,none⟩) NB277_264.out _).trans (hHeld.2.2.2.2.2.2.1)))))))))),((cell_far (p:=⟨gb264,_,none⟩) NB277_264.out _).trans (((cell_far (p:=⟨gb264,_,none⟩) NB277_264.out _).trans (((cell_far (p:=⟨gb264,_,none⟩) NB277_264.out _).trans (((cell_far (p:=⟨gb264,_,none⟩) NB277_264.out _).trans (((cell_far (p:=⟨gb264,_,none⟩) NB277_264.out _).trans (hHeld.2.2.2.2.2.2.2.1)))))))))),((cell_far (p:=⟨gb264,_,none⟩) NB277_264.out _).trans (((cell_far (p:=⟨gb264,_,none⟩) NB277_264.out _).trans (((cell_far (p:=⟨gb264,_,none⟩) NB277_264.out _).trans (((cell_far (p:=⟨gb264,_,none⟩) NB277_264.out _).trans (((cell_far (p:=⟨gb264,_,none⟩) NB277_264.out _).trans (hHeld.2.2.2.2.2.2.2.2))))))))))⟩ (fun hHeld=>?_)
           clear hK K
           refine pk 4 5 (bs 5 31) ?_
           refine done_ (by kernel_rfl) ?_
           try go_wp2
           refine bodyPost_ret (results_ct rfl _ _ gb264 28 #[.slice (some ⟨go116,0,none⟩) t265.length co11,.int .i64 ((rd_T97 l0_0 a1).f2),.int .i64 t269,.int .i64 a1,.int .i64 (wrap64 (t271 - 1))] (0,0) _ rfl (by (with_reducible repeat (first|refine blk_drewN ?_ _|refine blk_drew ?_|refine blk_alloc ?_ _));refine blk_put (cs:=#[.slice (some ⟨go116,0,none⟩) t265.length co11,.int .i64 ((rd_T97 l0_0 a1).f2),.int .i64 t269,.int .i64 a1,.int .i64 0]) ?_ 4 _ rfl;(with_reducible repeat (first|refine blk_drewN ?_ _|refine blk_drew ?_|refine blk_alloc ?_ _));refine blk_put (cs:=#[.slice (some ⟨go116,0,none⟩) t265.length co11,.int .i64 ((rd_T97 l0_0 a1).f2),.int .i64 t269,.int .i64 0,.int .i64 0]) ?_ 3 _ rfl;(with_reducible repeat (first|refine blk_drewN ?_ _|refine blk_drew ?_|refine blk_alloc ?_ _));refine blk_put (cs:=#[.slice (some ⟨go116,0,none⟩) t265.length co11,.int .i64 ((rd_T97 l0_0 a1).f2),.int .i64 0,.int .i64 0,.int .i64 0]) ?_ 2 _ rfl;(with_reducible repeat (first|refine blk_drewN ?_ _|refine blk_drew ?_|refine blk_alloc ?_ _));refine blk_put (cs:=#[.slice (some ⟨go116,0,none⟩) t265.length co11,.int .i64 0,.int .i64 0,.int .i64 0,.int .i64 0]) ?_ 1 _ rfl;(with_reducible repeat (first|refine blk_drewN ?_ _|refine blk_drew ?_|refine blk_alloc ?_ _));refine blk_put (cs:=#[.slice none 0 0,.int .i64 0,.int .i64 0,.int .i64 0,.int .i64 0]) ?_ 0 _ rfl;(with_reducible repeat (first|refine blk_drewN ?_ _|refine blk_drew ?_|refine blk_alloc ?_ _));exact BK264.out) Try.underlying28 rfl (by kernel_rfl)) rfl ?_
           exact ⟨_,by first|rfl|(simp [errW_none,errW_some] <;> rfl)|(simp [*,errW_none,errW_some] <;> rfl),by (with_reducible repeat (first|apply Kd.R_alloc|apply Kd.R_drewN|apply Kd.R_drew));exact Kd.R_mono (Kd.R_far (p:=⟨gb264,4,none⟩) (Kd.R_far (p:=⟨gb264,3,none⟩) (Kd.R_far (p:=⟨gb264,2,none⟩) (Kd.R_far (p:=⟨gb264,1,none⟩) (Kd.R_far (p:=⟨gb264,0,none⟩) (Kd.R_types HO_273000.out BK264.out (by decide)) (fun _ hk=>hk.2) (.slice (some ⟨go116,0,none⟩) t265.length co11)) (fun _ hk=>hk.2) (.int .i64 ((rd_T97 l0_0 a1).f2))) (fun _ hk=>hk.2) (.int .i64 t269)) (fun _ hk=>hk.2) (.int .i64 a1)) (fun _ hk=>hk.2) (.int .i64 (wrap64 (t271 - 1)))) (fun _ hk=>trivial),bl⟩
          ·rw [if_neg c117] at H
           exact absurd H (by simp)
         ·rw [if_neg c115] at H
          exact absurd H (by simp)
        ·rw [if_neg c114] at H
         exact absurd H (by simp)
       ·rw [if_neg c113] at H
        have c113b0:decide (0≤((rd_T97 l0_0 a1).f2))=false:=decide_eq_false c113
        clear c113
        by_cases c148:a1 < (t265.length:Int)
        ·rw [if_pos c148] at H
         have c148b0:decide (a1 < (t265.length:Int))=true:=decide_eq_true c148
         clear c148
         obtain ⟨y284,hy284⟩:∃ y_:List (S97),y_=(t265.set (a1:Int).toNat (⟨0,(-1),a0_3,false⟩:S97)):=⟨_,rfl⟩
         replace H:(some (y284,(rd_T97 l0_0 a1).f2,(rd_T97 l0_0 a1).f1,a1,wrap64 (t271 - 1),(rd_T97 l0_0 a1).f0))=some (r1,r2,r3,r4,r5,r6):=by first|(rw [hy284];with_reducible exact H)|(have H2_:=(Option.bind_some _ _).symm.trans H;rw [hy284];with_reducible exact H2_)|(have H2_:=(Option.bind_some _ _).symm.trans H;with_reducible exact H2_)|with_reducible exact H|(rw [hy284];exact H)|exact H
         have Ny284:=Aside0.mk hy284
         clear hy284
         simp only [Option.some.injEq,Prod.mk.injEq] at H
         obtain ⟨rfl,rfl,rfl,rfl,rfl,rfl⟩:=H
         have hnb150:=NB263_264.out
         have hnc150:=NB264_263.out
         have hnb151:=NB263_272.out
         have hnc151:=NB272_263.out
         obtain ⟨hcz152_0,hcz152_1,hcz152_2,hcz152_3,hcz152_4,hfz152_0,hfz152_1,hfz152_2,hfz152_3,hfz152_4⟩:=ck5 BK263.out
         have p276:0≤(a1:Int):=of_decide_eq_true (by first|(with_reducible assumption)|assumption)
         have q276:a1 < (l0_0.length:Int):=of_decide_eq_true (by first|(with_reducible assumption)|assumption)
         obtain ⟨ad276,e276,hx276_0,hx276_1,hx276_2,hx276_3⟩:=at_T97 HR0_0.out a1 p276 q276
         cases e276
         replace hx276_0:=cl HB hx276_0
         replace hx276_1:=cl HB hx276_1
         replace hx276_2:=cl HB hx276_2
         replace hx276_3:=cl HB hx276_3
         replace p276:=eq_true p276
         replace q276:=eq_true q276
         try go_wp2_with (first|((with_reducible refine gate_dst (N:=7) rfl ?_);refine bx 7 #[.int .i64 0,.int .i64 0,.int .i64 0,.bool false] 97 ?_;intro gb277 hg w153 hbox hb;replace HO_273000:=Aside0.mk (Kd.R_below (Kd.R_elderB (kr HO_273000) gb277 (Nat.le_of_eq hg.symm)) hb);have BK277:=Aside0.mk (hbox);have GW277:=Aside0.mk (bz hg:w.heap.size≤gb277);have GE277:=GW277;replace HB:=Aside0.mk (below_step bl hb);have NB263_277:=Aside0.mk (nl hg BK263:gb263≠gb277);have NB277_263:=Aside0.mk (nr hg BK263:gb277≠gb263);replace BK263:=Aside0.mk (blk_below (bk BK263) hb);have NB264_277:=Aside0.mk (nl hg BK264:gb264≠gb277);have NB277_264:=Aside0.mk (nr hg BK264:gb277≠gb264);replace BK264:=Aside0.mk (blk_below (bk BK264) hb);have NB272_277:=Aside0.mk (nl hg BK272:gb272≠gb277);have NB277_272:=Aside0.mk (nr hg BK272:gb277≠gb272);replace BK272:=Aside0.mk (blk_below (bk BK272) hb);clear hb hbox hg;have hnb154:=NB277_263.out;have hnc154:=NB263_277.out;have hnb155:=NB277_264.out;have hnc155:=NB264_277.out;have hnb156:=NB277_272.out;have hnc156:=NB272_277.out;obtain ⟨hcz157_0,hcz157_1,hcz157_2,hcz157_3,hfz157_0,hfz157_1,hfz157_2,hfz157_3⟩:=ck4 BK277.out)|((with_reducible refine gate_store (t:=97) (p:=7) rfl ?_);refine sx 97 7 ((((w153.setCell ⟨gb277,0,none⟩ (.int .i64 ((rd_T97 l0_0 a1).f0))).setCell ⟨gb277,1,none⟩ (.int .i64 ((rd_T97 l0_0 a1).f1))).setCell ⟨gb277,2,none⟩ (.int .i64 ((rd_T97 l0_0 a1).f2))).setCell ⟨gb277,3,none⟩ (.bool ((rd_T97 l0_0 a1).f3))) ?_;intro w158 hw;have n0_:Aside0 (Kd.R k97 97 w158 w.heap.size (fun k_=>k_≠gb277) (.slice Ao11 t265.length co11) t265):=⟨(by rw [hw];exact (by (with_reducible repeat (first|apply Kd.R_alloc|apply Kd.R_drewN|apply Kd.R_drew));exact Kd.R_mono (Kd.R_far (p:=⟨gb277,3,none⟩) (Kd.R_far (p:=⟨gb277,2,none⟩) (Kd.R_far (p:=⟨gb277,1,none⟩) (Kd.R_far (p:=⟨gb277,0,none⟩) (Kd.R_mono HO_273000.out (fun k_ hk=>(⟨hk,hk.2⟩:_∧k_≠gb277))) (fun _ hk=>hk.2) (.int .i64 ((rd_T97 l0_0 a1).f0))) (fun _ hk=>hk.2) (.int .i64 ((rd_T97 l0_0 a1).f1))) (fun _ hk=>hk.2) (.int .i64 ((rd_T97 l0_0 a1).f2))) (fun _ hk=>hk.2) (.bool ((rd_T97 l0_0 a1).f3))) (fun _ hk=>hk.1.2)))⟩;have n1_:Aside0 (w158.heap[gb263]? = some (.cells #[.slice (some ad276) l0_0.length c0_0,.int .i64 a0_1,.int .i64 a0_2,.int .i64 a0_3,.int .i64 a0_4] 28 (0,0))):=⟨(by rw [hw];exact (bf BK263))⟩;have n2_:Aside0 (w158.heap[gb264]? = some (.cells #[.slice none 0 0,.int .i64 0,.int .i64 0,.int .i64 0,.int .i64 0] 28 (0,0))):=⟨(by rw [hw];exact (bf BK264))⟩;have n3_:Aside0 (w158.heap[gb272]? = some (.cells #[.slice Ao11 t265.length co11,.int .i64 t268,.int .i64 t269,.int .i64 t270,.int .i64 t271] 28 (0,0))):=⟨(by rw [hw];exact (bf BK272))⟩;have n4_:Aside0 (w158.heap[gb277]? = some (.cells #[.int .i64 ((rd_T97 l0_0 a1).f0),.int .i64 ((rd_T97 l0_0 a1).f1),.int .i64 ((rd_T97 l0_0 a1).f2),.bool ((rd_T97 l0_0 a1).f3)] 97 (0,0))):=⟨(by rw [hw];exact (by (with_reducible repeat (first|refine blk_drewN ?_ _|refine blk_drew ?_|refine blk_alloc ?_ _));refine blk_put (cs:=#[.int .i64 ((rd_T97 l0_0 a1).f0),.int .i64 ((rd_T97 l0_0 a1).f1),.int .i64 ((rd_T97 l0_0 a1).f2),.bool false]) ?_ 3 _ rfl;(with_reducible repeat (first|refine blk_drewN ?_ _|refine blk_drew ?_|refine blk_alloc ?_ _));refine blk_put (cs:=#[.int .i64 ((rd_T97 l0_0 a1).f0),.int .i64 ((rd_T97 l0_0 a1).f1),.int .i64 0,.bool false]) ?_ 2 _ rfl;(with_reducible repeat (first|refine blk_drewN ?_ _|refine blk_drew ?_|refine blk_alloc ?_ _));refine blk_put (cs:=#[.int .i64 ((rd_T97 l0_0 a1).f0),.int .i64 0,.int .i64 0,.bool false]) ?_ 1 _ rfl;(with_reducible repeat (first|refine blk_drewN ?_ _|refine blk_drew ?_|refine blk_alloc ?_ _));refine blk_put (cs:=#[.int .i64 0,.int .i64 0,.int .i64 0,.bool false]) ?_ 0 _ rfl;(with_reducible repeat (first|refine blk_drewN ?_ _|refine blk_drew ?_|refine blk_alloc ?_ _));exact BK277.out))⟩;have n5_:Aside0 (Below w.heap.size w w158):=⟨(by rw [hw];exact bl)⟩;clear hw;clear HO_273000;clear BK263;clear BK264;clear BK272;clear BK277;clear HB;have HO_273000:=n0_;have BK263:=n1_;have BK264:=n2_;have BK272:=n3_;have BK277:=n4_;have HB:=n5_;clear n0_ n1_ n2_ n3_ n4_ n5_;obtain ⟨hcz159_0,hcz159_1,hcz159_2,hcz159_3,hfz159_0,hfz159_1,hfz159_2,hfz159_3⟩:=ck4 BK277.out;have hnb160:=NB272_264.out;have hnc160:=NB264_272.out;obtain ⟨hcz161_0,hcz161_1,hcz161_2,hcz161_3,hcz161_4,hfz161_0,hfz161_1,hfz161_2,hfz161_3,hfz161_4⟩:=ck5 BK272.out)|((with_reducible refine gate_store (t:=3) (p:=46) rfl ?_);refine sx 3 46 (w158.setCell ⟨gb272,1,none⟩ (.int .i64 ((rd_T97 l0_0 a1).f2))) ?_;intro w162 hw;have n0_:Aside0 (Kd.R k97 97 w162 w.heap.size (fun k_=>k_≠gb277) (.slice Ao11 t265.length co11) t265):=⟨(by rw [hw];exact (by (with_reducible repeat (first|apply Kd.R_alloc|apply Kd.R_drewN|apply Kd.R_drew));exact Kd.R_mono (Kd.R_far (p:=⟨gb272,1,none⟩) (Kd.R_types HO_273000.out BK272.out (by decide)) (fun _ hk=>hk.2) (.int .i64 ((rd_T97 l0_0 a1).f2))) (fun _ hk=>hk.1)))⟩;have n1_:Aside0 (w162.heap[gb263]? = some (.cells #[.slice (some ad276) l0_0.length c0_0,.int .i64 a0_1,.int .i64 a0_2,.int .i64 a0_3,.int .i64 a0_4] 28 (0,0))):=⟨(by rw [hw];exact (bf BK263))⟩;have n2_:Aside0 (w162.heap[gb264]? = some (.cells #[.slice none 0 0,.int .i64 0,.int .i64 0,.int .i64 0,.int .i64 0] 28 (0,0))):=⟨(by rw [hw];exact (bf BK264))⟩;have n3_:Aside0 (w162.heap[gb272]? = some (.cells #[.slice Ao11 t265.length co11,.int .i64 ((rd_T97 l0_0 a1).f2),.int .i64 t269,.int .i64 t270,.int .i64 t271] 28 (0,0))):=⟨(by rw [hw];exact (by (with_reducible repeat (first|refine blk_drewN ?_ _|refine blk_drew ?_|refine blk_alloc ?_ _));refine blk_put (cs:=#[.slice Ao11 t265.length co11,.int .i64 t268,.int .i64 t269,.int .i64 t270,.int .i64 t271]) ?_ 1 _ rfl;(with_reducible repeat (first|refine blk_drewN ?_ _|refine blk_drew ?_|refine blk_alloc ?_ _));exact BK272.out))⟩;have n4_:Aside0 (w162.heap[gb277]? = some (.cells #[.int .i64 ((rd_T97 l0_0 a1).f0),.int .i64 ((rd_T97 l0_0 a1).f1),.int .i64 ((rd_T97 l0_0 a1).f2),.bool ((rd_T97 l0_0 a1).f3)] 97 (0,0))):=⟨(by rw [hw];exact (bf BK277))⟩;have n5_:Aside0 (Below w.heap.size w w162):=⟨(by rw [hw];exact bl)⟩;clear hw;clear HO_273000;clear BK263;clear BK264;clear BK272;clear BK277;clear HB;have HO_273000:=n0_;have BK263:=n1_;have BK264:=n2_;have BK272:=n3_;have BK277:=n4_;have HB:=n5_;clear n0_ n1_ n2_ n3_ n4_ n5_;obtain ⟨hcz163_0,hcz163_1,hcz163_2,hcz163_3,hfz163_0,hfz163_1,hfz163_2,hfz163_3⟩:=ck4 BK277.out;obtain ⟨hcz164_0,hcz164_1,hcz164_2,hcz164_3,hcz164_4,hfz164_0,hfz164_1,hfz164_2,hfz164_3,hfz164_4⟩:=ck5 BK272.out)|((with_reducible refine gate_store (t:=3) (p:=60) rfl ?_);refine sx 3 60 (w162.setCell ⟨gb272,2,none⟩ (.int .i64 ((rd_T97 l0_0 a1).f1))) ?_;intro w165 hw;have n0_:Aside0 (Kd.R k97 97 w165 w.heap.size (fun k_=>k_≠gb277) (.slice Ao11 t265.length co11) t265):=⟨(by rw [hw];exact (by (with_reducible repeat (first|apply Kd.R_alloc|apply Kd.R_drewN|apply Kd.R_drew));exact Kd.R_mono (Kd.R_far (p:=⟨gb272,2,none⟩) (Kd.R_types HO_273000.out BK272.out (by decide)) (fun _ hk=>hk.2) (.int .i64 ((rd_T97 l0_0 a1).f1))) (fun _ hk=>hk.1)))⟩;have n1_:Aside0 (w165.heap[gb263]? = some (.cells #[.slice (some ad276) l0_0.length c0_0,.int .i64 a0_1,.int .i64 a0_2,.int .i64 a0_3,.int .i64 a0_4] 28 (0,0))):=⟨(by rw [hw];exact (bf BK263))⟩;have n2_:Aside0 (w165.heap[gb264]? = some (.cells #[.slice none 0 0,.int .i64 0,.int .i64 0,.int .i64 0,.int .i64 0] 28 (0,0))):=⟨(by rw [hw];exact (bf BK264))⟩;have n3_:Aside0 (w165.heap[gb272]? = some (.cells #[.slice Ao11 t265.length co11,.int .i64 ((rd_T97 l0_0 a1).f2),.int .i64 ((rd_T97 l0_0 a1).f1),.int .i64 t270,.int .i64 t271] 28 (0,0))):=⟨(by rw [hw];exact (by (with_reducible repeat (first|refine blk_drewN ?_ _|refine blk_drew ?_|refine blk_alloc ?_ _));refine blk_put (cs:=#[.slice Ao11 t265.length co11,.int .i64 ((rd_T97 l0_0 a1).f2),.int .i64 t269,.int .i64 t270,.int .i64 t271]) ?_ 2 _ rfl;(with_reducible repeat (first|refine blk_drewN ?_ _|refine blk_drew ?_|refine blk_alloc ?_ _));exact BK272.out))⟩;have n4_:Aside0 (w165.heap[gb277]? = some (.cells #[.int .i64 ((rd_T97 l0_0 a1).f0),.int .i64 ((rd_T97 l0_0 a1).f1),.int .i64 ((rd_T97 l0_0 a1).f2),.bool ((rd_T97 l0_0 a1).f3)] 97 (0,0))):=⟨(by rw [hw];exact (bf BK277))⟩;have n5_:Aside0 (Below w.heap.size w w165):=⟨(by rw [hw];exact bl)⟩;clear hw;clear HO_273000;clear BK263;clear BK264;clear BK272;clear BK277;clear HB;have HO_273000:=n0_;have BK263:=n1_;have BK264:=n2_;have BK272:=n3_;have BK277:=n4_;have HB:=n5_;clear n0_ n1_ n2_ n3_ n4_ n5_;obtain ⟨hcz166_0,hcz166_1,hcz166_2,hcz166_3,hcz166_4,hfz166_0,hfz166_1,hfz166_2,hfz166_3,hfz166_4⟩:=ck5 BK272.out;obtain ⟨hcz167_0,hcz167_1,hcz167_2,hcz167_3,hcz167_4,hfz167_0,hfz167_1,hfz167_2,hfz167_3,hfz167_4⟩:=ck5 BK263.out;have p149:0≤(a1:Int):=of_decide_eq_true (by first|(with_reducible assumption)|assumption);have q149:(a1:Int) < ((t265.length:Int):Int):=of_decide_eq_true (by first|(with_reducible assumption)|assumption);obtain ⟨go149,co149,eo149,gb149,gl149,cl149,HG149⟩:=Kd.R_form HO_273000.out (by omega);(first|cases eo149|(injection eo149 with ea_ en_ ec_;(first|subst ea_|(injection ea_ with ea_;subst ea_));subst ec_;clear en_));have GB149:=Aside0.mk gb149;have GG149:=Aside0.mk HG149;clear gb149 gl149 HG149;obtain ⟨ce149,hcl149,hM149,hcc149,hfr149⟩:=Kd.R_elem HO_273000.out z97 (a1:Int) p149 q149;obtain rfl:=k97_openM hM149;have hx149_0:w165.cell? ⟨go149,(a1:Int).toNat * 4,none⟩=some (.int .i64 ((rd_T97 t265 a1).f0)):=hcc149 0 _ rfl;have hx149_1:w165.cell? ⟨go149,(a1:Int).toNat * 4 + 1,none⟩=some (.int .i64 ((rd_T97 t265 a1).f1)):=hcc149 1 _ rfl;have hx149_2:w165.cell? ⟨go149,(a1:Int).toNat * 4 + 2,none⟩=some (.int .i64 ((rd_T97 t265 a1).f2)):=hcc149 2 _ rfl;have hx149_3:w165.cell? ⟨go149,(a1:Int).toNat * 4 + 3,none⟩=some (.bool ((rd_T97 t265 a1).f3)):=hcc149 3 _ rfl;have hf149_0:w165.frozen? ⟨go149,(a1:Int).toNat * 4,none⟩=false:=hfr149 0;have hf149_1:w165.frozen? ⟨go149,(a1:Int).toNat * 4 + 1,none⟩=false:=hfr149 1;have hf149_2:w165.frozen? ⟨go149,(a1:Int).toNat * 4 + 2,none⟩=false:=hfr149 2;have hf149_3:w165.frozen? ⟨go149,(a1:Int).toNat * 4 + 3,none⟩=false:=hfr149 3;clear hcl149 hcc149 hfr149 hM149;replace p149:=eq_true p149;replace q149:=eq_true q149;have HX168:=Aside0.mk (show Kd.R k97 97 w165 w.heap.size (fun k_=>k_≠gb277) (.slice (some ⟨go149,0,none⟩) t265.length co11) t265 from (kr HO_273000));obtain ⟨ce168,hcl168,hM168,hcc168,hfr168⟩:=Kd.R_elem HX168.out z97 (a1:Int) (of_decide_eq_true (by first|(with_reducible assumption)|assumption)) (by have h_:(a1:Int) < ((t265.length:Int):Int):=of_decide_eq_true (by first|(with_reducible assumption)|assumption);first|exact h_|(have e_:=(Kd.R_reads' HO_273000.out).1;omega)|simpa using h_);obtain rfl:=k97_openM hM168;have HP168:=Kd.R_seg HX168.out (a1:Int) (of_decide_eq_true (by first|(with_reducible assumption)|assumption)) (by have h_:(a1:Int) < ((t265.length:Int):Int):=of_decide_eq_true (by first|(with_reducible assumption)|assumption);first|exact h_|(have e_:=(Kd.R_reads' HO_273000.out).1;omega)|simpa using h_) (seg:=[.int .i64 0,.int .i64 (-1),.int .i64 a0_3,.bool false]) (j:=0) hcl168 hcc168 (show 4≤4 from by decide) (x':=(⟨0,(-1),a0_3,false⟩:S97)) (k97_mkM _ _ _ (⟨0,(-1),a0_3,false⟩:S97) ) (fun _ hk=>hk);have hx168_0:=hcc168 0 _ rfl;(try simp only [show (k97).sz=4 from rfl,Nat.mul_one,Nat.add_zero] at hx168_0);have hf168_0:=hfr168 0;(try simp only [show (k97).sz=4 from rfl,Nat.mul_one,Nat.add_zero] at hf168_0);have hx168_1:=hcc168 1 _ rfl;(try simp only [show (k97).sz=4 from rfl,Nat.mul_one,Nat.add_zero] at hx168_1);have hf168_1:=hfr168 1;(try simp only [show (k97).sz=4 from rfl,Nat.mul_one,Nat.add_zero] at hf168_1);have hx168_2:=hcc168 2 _ rfl;(try simp only [show (k97).sz=4 from rfl,Nat.mul_one,Nat.add_zero] at hx168_2);have hf168_2:=hfr168 2;(try simp only [show (k97).sz=4 from rfl,Nat.mul_one,Nat.add_zero] at hf168_2);have hx168_3:=hcc168 3 _ rfl;(try simp only [show (k97).sz=4 from rfl,Nat.mul_one,Nat.add_zero] at hx168_3);have hf168_3:=hfr168 3;(try simp only [show (k97).sz=4 from rfl,Nat.mul_one,Nat.add_zero] at hf168_3);clear hcl168 hcc168 hfr168 hM168)|((with_reducible refine gate_store (t:=97) (p:=67) rfl ?_);refine sx 97 67 ((((w165.setCell ⟨go149,(a1:Int).toNat * 4,none⟩ (.int .i64 0)).setCell ⟨go149,(a1:Int).toNat * 4 + 1,none⟩ (.int .i64 (-1))).setCell ⟨go149,(a1:Int).toNat * 4 + 2,none⟩ (.int .i64 a0_3)).setCell ⟨go149,(a1:Int).toNat * 4 + 3,none⟩ (.bool false)) ?_;intro w169 hw;have hg:w165.grownBy w169 (some go149):=(by rw [hw];exact HP168.2);have hp_:Kd.R k97 97 w169 w.heap.size (fun k_=>k_≠gb277) (.slice (some ⟨go149,0,none⟩) t265.length co11) y284:=(by rw [hw,Ny284.out];exact HP168.1);clear HP168;replace BK263:=Aside0.mk (blk_grown (bk BK263) hg (Kd.R_ne HO_273000.out BK263.out (by decide)));replace BK264:=Aside0.mk (blk_grown (bk BK264) hg (Kd.R_ne HO_273000.out BK264.out (by decide)));replace BK272:=Aside0.mk (blk_grown (bk BK272) hg (Kd.R_ne HO_273000.out BK272.out (by decide)));replace BK277:=Aside0.mk (blk_grown (bk BK277) hg (Kd.R_away HO_273000.out (fun _ hk=>hk)));replace HO_273000:=Aside0.mk (hp_);replace HB:=Aside0.mk ((by rw [hw];exact below_set (below_set (below_set (below_set (HB.out) GB149.out) GB149.out) GB149.out) GB149.out:Below w.heap.size w w169));clear hg hw hp_;obtain ⟨hcz170_0,hcz170_1,hcz170_2,hcz170_3,hcz170_4,hfz170_0,hfz170_1,hfz170_2,hfz170_3,hfz170_4⟩:=ck5 BK272.out))
         have n0_:Aside0 (Kd.R k97 97 ((w169.setCell ⟨gb272,3,none⟩ (.int .i64 a1)).setCell ⟨gb272,4,none⟩ (.int .i64 (wrap64 (t271 - 1)))) w.heap.size (fun k_=>k_≠gb277) (.slice (some ⟨go149,0,none⟩) t265.length co11) y284):=⟨by (with_reducible repeat (first|apply Kd.R_alloc|apply Kd.R_drewN|apply Kd.R_drew));exact Kd.R_mono (Kd.R_far (p:=⟨gb272,4,none⟩) (Kd.R_far (p:=⟨gb272,3,none⟩) (Kd.R_types HO_273000.out BK272.out (by decide)) (fun _ hk=>hk.2) (.int .i64 a1)) (fun _ hk=>hk.2) (.int .i64 (wrap64 (t271 - 1)))) (fun _ hk=>hk.1)⟩
         have n1_:Aside0 (((w169.setCell ⟨gb272,3,none⟩ (.int .i64 a1)).setCell ⟨gb272,4,none⟩ (.int .i64 (wrap64 (t271 - 1)))).heap[gb263]? = some (.cells #[.slice (some ad276) l0_0.length c0_0,.int .i64 a0_1,.int .i64 a0_2,.int .i64 a0_3,.int .i64 a0_4] 28 (0,0))):=⟨bf BK263⟩
         have n2_:Aside0 (((w169.setCell ⟨gb272,3,none⟩ (.int .i64 a1)).setCell ⟨gb272,4,none⟩ (.int .i64 (wrap64 (t271 - 1)))).heap[gb264]? = some (.cells #[.slice none 0 0,.int .i64 0,.int .i64 0,.int .i64 0,.int .i64 0] 28 (0,0))):=⟨bf BK264⟩
         have n3_:Aside0 (((w169.setCell ⟨gb272,3,none⟩ (.int .i64 a1)).setCell ⟨gb272,4,none⟩ (.int .i64 (wrap64 (t271 - 1)))).heap[gb272]? = some (.cells #[.slice (some ⟨go149,0,none⟩) t265.length co11,.int .i64 ((rd_T97 l0_0 a1).f2),.int .i64 ((rd_T97 l0_0 a1).f1),.int .i64 a1,.int .i64 (wrap64 (t271 - 1))] 28 (0,0))):=⟨by (with_reducible repeat (first|refine blk_drewN ?_ _|refine blk_drew ?_|refine blk_alloc ?_ _));refine blk_put (cs:=#[.slice (some ⟨go149,0,none⟩) t265.length co11,.int .i64 ((rd_T97 l0_0 a1).f2),.int .i64 ((rd_T97 l0_0 a1).f1),.int .i64 a1,.int .i64 t271]) ?_ 4 _ rfl;(with_reducible repeat (first|refine blk_drewN ?_ _|refine blk_drew ?_|refine blk_alloc ?_ _));refine blk_put (cs:=#[.slice (some ⟨go149,0,none⟩) t265.length co11,.int .i64 ((rd_T97 l0_0 a1).f2),.int .i64 ((rd_T97 l0_0 a1).f1),.int .i64 t270,.int .i64 t271]) ?_ 3 _ rfl;(with_reducible repeat (first|refine blk_drewN ?_ _|refine blk_drew ?_|refine blk_alloc ?_ _));exact BK272.out⟩
         have n4_:Aside0 (((w169.setCell ⟨gb272,3,none⟩ (.int .i64 a1)).setCell ⟨gb272,4,none⟩ (.int .i64 (wrap64 (t271 - 1)))).heap[gb277]? = some (.cells #[.int .i64 ((rd_T97 l0_0 a1).f0),.int .i64 ((rd_T97 l0_0 a1).f1),.int .i64 ((rd_T97 l0_0 a1).f2),.bool ((rd_T97 l0_0 a1).f3)] 97 (0,0))):=⟨bf BK277⟩
         have n5_:Aside0 (Below w.heap.size w ((w169.setCell ⟨gb272,3,none⟩ (.int .i64 a1)).setCell ⟨gb272,4,none⟩ (.int .i64 (wrap64 (t271 - 1))))):=⟨bl⟩
         (try clear HO_273000)
         (try clear BK263)
         (try clear BK264)
         (try clear BK272)
         (try clear BK277)
         (try clear HB)
         generalize ((w169.setCell ⟨gb272,3,none⟩ (.int .i64 a1)).setCell ⟨gb272,4,none⟩ (.int .i64 (wrap64 (t271 - 1))))=w171 at n0_ n1_ n2_ n3_ n4_ n5_ ⊢
         have HO_273000:=n0_
         have BK263:=n1_
         have BK264:=n2_
         have BK272:=n3_
         have BK277:=n4_
         have HB:=n5_
         clear n0_ n1_ n2_ n3_ n4_ n5_
         replace HO_273000:=Aside0.mk (Kd.R_drew HO_273000.out)
         replace BK263:=Aside0.mk (blk_drew BK263.out)
         replace BK264:=Aside0.mk (blk_drew BK264.out)
         replace BK272:=Aside0.mk (blk_drew BK272.out)
         replace BK277:=Aside0.mk (blk_drew BK277.out)
         replace HB:=Aside0.mk (below_drew1 HB.out)
         refine start_ (n:=5) (S:=fun w'=>w'.cell? ⟨gb272,0,none⟩=some (.slice (some ⟨go149,0,none⟩) t265.length co11)∧w'.cell? ⟨gb272,1,none⟩=some (.int .i64 ((rd_T97 l0_0 a1).f2))∧w'.cell? ⟨gb272,2,none⟩=some (.int .i64 ((rd_T97 l0_0 a1).f1))∧w'.cell? ⟨gb272,3,none⟩=some (.int .i64 a1)∧w'.cell? ⟨gb272,4,none⟩=some (.int .i64 (wrap64 (t271 - 1)))∧w'.cell? ⟨gb277,0,none⟩=some (.int .i64 ((rd_T97 l0_0 a1).f0))∧w'.cell? ⟨gb277,1,none⟩=some (.int .i64 ((rd_T97 l0_0 a1).f1))∧w'.cell? ⟨gb277,2,none⟩=some (.int .i64 ((rd_T97 l0_0 a1).f2))∧w'.cell? ⟨gb277,3,none⟩=some (.bool ((rd_T97 l0_0 a1).f3))) (ds:=[]) (bs 5 0) (by kernel_rfl) rfl rfl ⟨bc BK272 0,bc BK272 1,bc BK272 2,bc BK272 3,bc BK272 4,bc BK277 0,bc BK277 1,bc BK277 2,bc BK277 3⟩ (fun hHeld=>?_)
         generalize w171.drew=w172 at HO_273000 BK263 BK264 BK272 BK277 HB hHeld ⊢
         refine pk 1 75 (bs 5 2) ?_
         refine tk 0 74 (bs 5 3) hHeld ?_
         refine tk 2 76 (bs 5 7) hHeld ?_
         refine one_ (i:=3) (N:=none) (bs 5 15) rfl rfl (by kernel_rfl) (by decide) (fun K hK=>?_)
         have hs173:w172.cell? ⟨gb264,0,none⟩=some (.slice none 0 0):=(blk_cell BK264.out 0).trans rfl
         have hfs173:=blk_frozen BK264.out 0
         have hns173_0:=NB263_264.out
         have hns173_2:=NB272_264.out
         have hns173_3:=NB277_264.out
         have hms173_0:=NB264_263.out
         have hms173_2:=NB264_272.out
         have hms173_3:=NB264_277.out
         have hs174:w172.cell? ⟨gb264,1,none⟩=some (.int .i64 0):=(blk_cell BK264.out 1).trans rfl
         have hfs174:=blk_frozen BK264.out 1
         have hns174_0:=NB263_264.out
         have hns174_2:=NB272_264.out
         have hns174_3:=NB277_264.out
         have hms174_0:=NB264_263.out
         have hms174_2:=NB264_272.out
         have hms174_3:=NB264_277.out
         have hs175:w172.cell? ⟨gb264,2,none⟩=some (.int .i64 0):=(blk_cell BK264.out 2).trans rfl
         have hfs175:=blk_frozen BK264.out 2
         have hns175_0:=NB263_264.out
         have hns175_2:=NB272_264.out
         have hns175_3:=NB277_264.out
         have hms175_0:=NB264_263.out
         have hms175_2:=NB264_272.out
         have hms175_3:=NB264_277.out
         have hs176:w172.cell? ⟨gb264,3,none⟩=some (.int .i64 0):=(blk_cell BK264.out 3).trans rfl
         have hfs176:=blk_frozen BK264.out 3
         have hns176_0:=NB263_264.out
         have hns176_2:=NB272_264.out
         have hns176_3:=NB277_264.out
         have hms176_0:=NB264_263.out
         have hms176_2:=NB264_272.out
         have hms176_3:=NB264_277.out
         have hs177:w172.cell? ⟨gb264,4,none⟩=some (.int .i64 0):=(blk_cell BK264.out 4).trans rfl
         have hfs177:=blk_frozen BK264.out 4
         have hns177_0:=NB263_264.out
         have hns177_2:=NB272_264.out
         have hns177_3:=NB277_264.out
         have hms177_0:=NB264_263.out
         have hms177_2:=NB264_272.out
         have hms177_3:=NB264_277.out
         refine skip_ (w1:=?_) (by rfl) rfl ?_ ?_
         rotate_left
         ·go_simp
          rfl
         refine hK.out _ _ ⟨((cell_far (p:=⟨gb264,_,none⟩) NB272_264.out _).trans (((cell_far (p:=⟨gb264,_,none⟩) NB272_264.out _).trans (((cell_far (p:=⟨gb264,_,none⟩) NB272_264.out _).trans (((cell_far (p:=⟨gb264,_,none⟩) NB272_264.out _).trans (((cell_far (p:=⟨gb264,_,none⟩) NB272_264.out _).trans (hHeld.1)))))))))),((cell_far (p:=⟨gb264,_,none⟩) NB272_264.out _).trans (((cell_far (p:=⟨gb264,_,none⟩) NB272_264.out _).trans (((cell_far (p:=⟨gb264,_,none⟩) NB272_264.out _).trans (((cell_far (p:=⟨gb264,_,none⟩) NB272_264.out _).trans (((cell_far (p:=⟨gb264,_,none⟩) NB272_264.out _).trans (hHeld.2.1)))))))))),((cell_far (p:=⟨gb264,_,none⟩) NB272_264.out _).trans (((cell_far (p:=⟨gb264,_,none⟩) NB272_264.out _).trans (((cell_far (p:=⟨gb264,_,none⟩) NB272_264.out _).trans (((cell_far (p:=⟨gb264,_,none⟩) NB272_264.out _).trans (((cell_far (p:=⟨gb264,_,none⟩) NB272_264.out _).trans (hHeld.2.2.1)))))))))),((cell_far (p:=⟨gb264,_,none⟩) NB272_264.out _).trans (((cell_far (p:=⟨gb264,_,none⟩) NB272_264.out _).trans (((cell_far (p:=⟨gb264,_,none⟩) NB272_264.out _).trans (((cell_far (p:=⟨gb264,_,none⟩) NB272_264.out _).trans (((cell_far (p:=⟨gb264,_,none⟩) NB272_264.out _).trans (hHeld.2.2.2.1)))))))))),((cell_far (p:=⟨gb264,_,none⟩) NB272_264.out _).trans (((cell_far (p:=⟨gb264,_,none⟩) NB272_264.out _).trans (((cell_far (p:=⟨gb264,_,none⟩) NB272_264.out _).trans (((cell_far (p:=⟨gb264,_,none⟩) NB272_264.out _).trans (((cell_far (p:=⟨gb264,_,none⟩) NB272_264.out _).trans (hHeld.2.2.2.2.1)))))))))),((cell_far (p:=⟨gb264,_,none⟩) NB277_264.out _).trans (((cell_far (p:=⟨gb264,_,none⟩) NB277_264.out _).trans (((cell_far (p:=⟨gb264,_,none⟩) NB277_264.out _).trans (((cell_far (p:=⟨gb264,_,none⟩) NB277_264.out _).trans (((cell_far (p:=⟨gb264,_,none⟩) NB277_264.out _).trans (hHeld.2.2.2.2.2.1)))))))))),((cell_far (p:=⟨gb264,_,none⟩) NB277_264.out _).trans (((cell_far (p:=⟨gb264,_,none⟩) NB277_264.out _).trans (((cell_far (p:=⟨gb264,_,none⟩) NB277_264.out _).trans (((cell_far (p:=⟨gb264,_,none⟩) NB277_264.out _).trans (((cell_far (p:=⟨gb264,_,none⟩) NB277_264.out _).trans (hHeld.2.2.2.2.2.2.1)))))))))),((cell_far (p:=⟨gb264,_,none⟩) NB277_264.out _).trans (((cell_far (p:=⟨gb264,_,none⟩) NB277_264.out _).trans (((cell_far (p:=⟨gb264,_,none⟩) NB277_264.out _).trans (((cell_far (p:=⟨gb264,_,none⟩) NB277_264.out _).trans (((cell_far (p:=⟨gb264,_,none⟩) NB277_264.out _).trans (hHeld.2.2.2.2.2.2.2.1)))))))))),((cell_far (p:=⟨gb264,_,none⟩) NB277_264.out _).trans (((cell_far (p:=⟨gb264,_,none⟩) NB277_264.out _).trans (((cell_far (p:=⟨gb264,_,none⟩) NB277_264.out _).trans (((cell_far (p:=⟨gb264,_,none⟩) NB277_264.out _).trans (((cell_far (p:=⟨gb264,_,none⟩) NB277_264.out _).trans (hHeld.2.2.2.2.2.2.2.2))))))))))⟩ (fun hHeld=>?_)
         clear hK K
         refine pk 4 5 (bs 5 31) ?_
         refine done_ (by kernel_rfl) ?_
         try go_wp2
         refine bodyPost_ret (results_ct rfl _ _ gb264 28 #[.slice (some ⟨go149,0,none⟩) t265.length co11,.int .i64 ((rd_T97 l0_0 a1).f2),.int .i64 ((rd_T97 l0_0 a1).f1),.int .i64 a1,.int .i64 (wrap64 (t271 - 1))] (0,0) _ rfl (by (with_reducible repeat (first|refine blk_drewN ?_ _|refine blk_drew ?_|refine blk_alloc ?_ _));refine blk_put (cs:=#[.slice (some ⟨go149,0,none⟩) t265.length co11,.int .i64 ((rd_T97 l0_0 a1).f2),.int .i64 ((rd_T97 l0_0 a1).f1),.int .i64 a1,.int .i64 0]) ?_ 4 _ rfl;(with_reducible repeat (first|refine blk_drewN ?_ _|refine blk_drew ?_|refine blk_alloc ?_ _));refine blk_put (cs:=#[.slice (some ⟨go149,0,none⟩) t265.length co11,.int .i64 ((rd_T97 l0_0 a1).f2),.int .i64 ((rd_T97 l0_0 a1).f1),.int .i64 0,.int .i64 0]) ?_ 3 _ rfl;(with_reducible repeat (first|refine blk_drewN ?_ _|refine blk_drew ?_|refine blk_alloc ?_ _));refine blk_put (cs:=#[.slice (some ⟨go149,0,none⟩) t265.length co11,.int .i64 ((rd_T97 l0_0 a1).f2),.int .i64 0,.int .i64 0,.int .i64 0]) ?_ 2 _ rfl;(with_reducible repeat (first|refine blk_drewN ?_ _|refine blk_drew ?_|refine blk_alloc ?_ _));refine blk_put (cs:=#[.slice (some ⟨go149,0,none⟩) t265.length co11,.int .i64 0,.int .i64 0,.int .i64 0,.int .i64 0]) ?_ 1 _ rfl;(with_reducible repeat (first|refine blk_drewN ?_ _|refine blk_drew ?_|refine blk_alloc ?_ _));refine blk_put (cs:=#[.slice none 0 0,.int .i64 0,.int .i64 0,.int .i64 0,.int .i64 0]) ?_ 0 _ rfl;(with_reducible repeat (first|refine blk_drewN ?_ _|refine blk_drew ?_|refine blk_alloc ?_ _));exact BK264.out) Try.underlying28 rfl (by kernel_rfl)) rfl ?_
         exact ⟨_,by first|rfl|(simp [errW_none,errW_some] <;> rfl)|(simp [*,errW_none,errW_some] <;> rfl),by (with_reducible repeat (first|apply Kd.R_alloc|apply Kd.R_drewN|apply Kd.R_drew));exact Kd.R_mono (Kd.R_far (p:=⟨gb264,4,none⟩) (Kd.R_far (p:=⟨gb264,3,none⟩) (Kd.R_far (p:=⟨gb264,2,none⟩) (Kd.R_far (p:=⟨gb264,1,none⟩) (Kd.R_far (p:=⟨gb264,0,none⟩) (Kd.R_types HO_273000.out BK264.out (by decide)) (fun _ hk=>hk.2) (.slice (some ⟨go149,0,none⟩) t265.length co11)) (fun _ hk=>hk.2) (.int .i64 ((rd_T97 l0_0 a1).f2))) (fun _ hk=>hk.2) (.int .i64 ((rd_T97 l0_0 a1).f1))) (fun _ hk=>hk.2) (.int .i64 a1)) (fun _ hk=>hk.2) (.int .i64 (wrap64 (t271 - 1)))) (fun _ hk=>trivial),bl⟩
        ·rw [if_neg c148] at H
         exact absurd H (by simp)
     ·rw [if_neg c41] at H
      exact absurd H (by simp)
    ·rw [if_neg c40] at H
     exact absurd H (by simp)

end Go.Proofs.Ytnkpjpfmjkiidaa.PFnExactMoveBack
