/- Contracts of functions of the given program: what each call answers. Written by a program of this session, out of the text of the functions. -/
import Derived.Test.YtnkpjpfmjkiidaaPFnExactMoveBackx0
import Derived.Test.YtnkpjpfmjkiidaaPFnExactMoveBackx1
import Derived.Test.YtnkpjpfmjkiidaaPFnExactMoveBackx2
import Derived.Test.YtnkpjpfmjkiidaaPFnExactMoveBackx3
import Derived.Test.YtnkpjpfmjkiidaaZFnExactMoveBack
namespace Go.Proofs.Ytnkpjpfmjkiidaa.PFnExactMoveBack
open Go.RowKit Go.Proofs.YtnkpjpfmjkiidaaW.PrintWords Go.Proofs.YtnkpjpfmjkiidaaW.PrintLast Go.Proofs.YtnkpjpfmjkiidaaW.PrintMore Go.Proofs.Ytnkpjpfmjkiidaa.Giv Go.Proofs.Ytnkpjpfmjkiidaa.Prs
attribute [local go_sem] max2_int min2_int max_two min_two max_three min_three max_four min_four   -- for this text's walks alone
set_option linter.unusedVariables false
set_option linter.unusedSimpArgs false

/-! ### spec_RemoveAt: function 49 -/
def spec_RemoveAt.j0:Nat→Int→Bool→List (S97)→Int→Int→Int→Int→List (S97)→Int→Int→Int→Int→Option ((List (S97)) × Int × Int × Int × Int × Int)
 | 0,_,_,_,_,_,_,_,_,_,_,_,_=>none
 | k + 1,x1,x26,x141000,x141001,x141002,x141003,x141004,x150000,x150001,x150002,x150003,x150004=>if x26=true then (some (x150000,x150001,x150002,x150003,x150004,0)) else (if 0≤x1 then (if x1 < (x141000.length:Int) then (if ((rd_T97 x141000 x1).f1)=(-1) then (if ((rd_T97 x141000 x1).f2)=(-1) then (if x1 < (x150000.length:Int) then (some ((x150000.set (x1:Int).toNat (⟨0,(-1),x141003,false⟩:S97)),(rd_T97 x141000 x1).f2,(rd_T97 x141000 x1).f1,x1,wrap64 (x141004 - 1),(rd_T97 x141000 x1).f0)) else (none)) else (if 0≤((rd_T97 x141000 x1).f2) then (if ((rd_T97 x141000 x1).f2) < (x150000.length:Int) then (if x1 < (x150000.length:Int) then (some (((x150000.set (((rd_T97 x141000 x1).f2):Int).toNat (⟨(rd_T97 x150000 ((rd_T97 x141000 x1).f2)).f0,(rd_T97 x141000 x1).f1,(rd_T97 x150000 ((rd_T97 x141000 x1).f2)).f2,(rd_T97 x150000 ((rd_T97 x141000 x1).f2)).f3⟩:S97)).set (x1:Int).toNat (⟨0,(-1),x141003,false⟩:S97)),(rd_T97 x141000 x1).f2,x150002,x1,wrap64 (x141004 - 1),(rd_T97 x141000 x1).f0)) else (none)) else (none)) else (none))) else (if 0≤((rd_T97 x141000 x1).f1) then (if ((rd_T97 x141000 x1).f1) < (x150000.length:Int) then ((some (x150000.set (((rd_T97 x141000 x1).f1):Int).toNat (⟨(rd_T97 x150000 ((rd_T97 x141000 x1).f1)).f0,(rd_T97 x150000 ((rd_T97 x141000 x1).f1)).f1,(rd_T97 x141000 x1).f2,(rd_T97 x150000 ((rd_T97 x141000 x1).f1)).f3⟩:S97):List (S97))).bind fun y158=>(if ((rd_T97 x141000 x1).f2)=(-1) then (if x1 < (x150000.length:Int) then (some ((y158.set (x1:Int).toNat (⟨0,(-1),x141003,false⟩:S97)),x150001,(rd_T97 x141000 x1).f1,x1,wrap64 (x141004 - 1),(rd_T97 x141000 x1).f0)) else (none)) else (if 0≤((rd_T97 x141000 x1).f2) then (if ((rd_T97 x141000 x1).f2) < (x150000.length:Int) then (if x1 < (x150000.length:Int) then (some (((y158.set (((rd_T97 x141000 x1).f2):Int).toNat (⟨(rd_T97 y158 ((rd_T97 x141000 x1).f2)).f0,(rd_T97 x141000 x1).f1,(rd_T97 y158 ((rd_T97 x141000 x1).f2)).f2,(rd_T97 y158 ((rd_T97 x141000 x1).f2)).f3⟩:S97)).set (x1:Int).toNat (⟨0,(-1),x141003,false⟩:S97)),x150001,x150002,x1,wrap64 (x141004 - 1),(rd_T97 x141000 x1).f0)) else (none)) else (none)) else (none)))) else (none)) else (none))) else (none)) else (none))
def spec_RemoveAt.f (k:Nat) (l0_0:List (S97)) (a0_1:Int) (a0_2:Int) (a0_3:Int) (a0_4:Int) (a1:Int):Option ((List (S97)) × Int × Int × Int × Int × Int):=(spec_l02Copy.f k l0_0 a0_1 a0_2 a0_3 a0_4).bind fun bt142=>((spec_QueueOk.f k l0_0 a0_1 a0_2 a0_3 a0_4).bind fun t150=>(if t150=true then ((spec_l01In.f a1 0 59).bind fun t151=>(if t151=true then (if 0≤a1 then (if a1 < (l0_0.length:Int) then (spec_RemoveAt.j0 k a1 (!((rd_T97 l0_0 a1).f3)) l0_0 a0_1 a0_2 a0_3 a0_4 bt142.1 bt142.2.1 bt142.2.2.1 bt142.2.2.2.1 bt142.2.2.2.2) else (none)) else (none)) else (spec_RemoveAt.j0 k a1 true l0_0 a0_1 a0_2 a0_3 a0_4 bt142.1 bt142.2.1 bt142.2.2.1 bt142.2.2.2.1 bt142.2.2.2.2))) else (spec_RemoveAt.j0 k a1 true l0_0 a0_1 a0_2 a0_3 a0_4 bt142.1 bt142.2.1 bt142.2.2.1 bt142.2.2.2.1 bt142.2.2.2.2)))
theorem spec_RemoveAt.mono_l:∀ k,(∀ y0 y1 y2 y3 y4 y5 y6 y7 y8 y9 y10 y11,LeO (spec_RemoveAt.j0 k y0 y1 y2 y3 y4 y5 y6 y7 y8 y9 y10 y11) (spec_RemoveAt.j0 (k + 1) y0 y1 y2 y3 y4 y5 y6 y7 y8 y9 y10 y11))
 | 0=>fun _ _ _ _ _ _ _ _ _ _ _ _ r h=>by simp [spec_RemoveAt.j0] at h
 | k + 1=>by
  have ih0:=spec_RemoveAt.mono_l k
  ·intro y0 y1 y2 y3 y4 y5 y6 y7 y8 y9 y10 y11
   unfold spec_RemoveAt.j0
   repeat' first
   | (with_reducible exact ih0 _ _ _ _ _ _ _ _ _ _ _ _)
   | (with_reducible exact spec_QueueOk.mono _ _ _ _ _ _)
   | (with_reducible exact spec_l02Copy.mono _ _ _ _ _ _)
   | (with_reducible exact LeO.refl _)
   | (with_reducible exact LeO.none _)
   | (with_reducible refine LeO.ite ?_ ?_)
   | (with_reducible refine LeO.bind ?_ (fun _=>?_))
   | exact ih0 _ _ _ _ _ _ _ _ _ _ _ _
   | exact spec_QueueOk.mono _ _ _ _ _ _
   | exact spec_l02Copy.mono _ _ _ _ _ _
   | exact LeO.none _
   | refine LeO.ite ?_ ?_
   | refine LeO.bind ?_ (fun _=>?_)
theorem spec_RemoveAt.mono:∀ a0 a1 a2 a3 a4 a5 k,LeO (spec_RemoveAt.f k a0 a1 a2 a3 a4 a5) (spec_RemoveAt.f (k + 1) a0 a1 a2 a3 a4 a5):=by
 intro a0 a1 a2 a3 a4 a5 k
 have ih0:=spec_RemoveAt.mono_l k
 unfold spec_RemoveAt.f
 repeat' first
   | (with_reducible exact ih0 _ _ _ _ _ _ _ _ _ _ _ _)
   | (with_reducible exact spec_QueueOk.mono _ _ _ _ _ _)
   | (with_reducible exact spec_l02Copy.mono _ _ _ _ _ _)
   | (with_reducible exact LeO.refl _)
   | (with_reducible exact LeO.none _)
   | (with_reducible refine LeO.ite ?_ ?_)
   | (with_reducible refine LeO.bind ?_ (fun _=>?_))
   | exact ih0 _ _ _ _ _ _ _ _ _ _ _ _
   | exact spec_QueueOk.mono _ _ _ _ _ _
   | exact spec_l02Copy.mono _ _ _ _ _ _
   | exact LeO.none _
   | refine LeO.ite ?_ ?_
   | refine LeO.bind ?_ (fun _=>?_)
set_option maxHeartbeats 8000000 in
set_option maxRecDepth 100000 in
theorem spec_RemoveAt.calls (k:Nat) (A0_0:Option Addr) (c0_0:Nat) (l0_0:List (S97)) (a0_1:Int) (a0_2:Int) (a0_3:Int) (a0_4:Int) (a1:Int) (r1:List (S97)) (r2:Int) (r3:Int) (r4:Int) (r5:Int) (r6:Int) (w:World) (hr0_0:Kd.C k97 w A0_0 l0_0.length l0_0) (hc0_0:l0_0.length≤c0_0) (h:spec_RemoveAt.f k l0_0 a0_1 a0_2 a0_3 a0_4 a1=some (r1,r2,r3,r4,r5,r6)) :
  Calls Try.prog 49 #[.agg #[.slice A0_0 l0_0.length c0_0,.int .i64 a0_1,.int .i64 a0_2,.int .i64 a0_3,.int .i64 a0_4],.int .i64 a1] w fun e w'=>∃ v0_:Value,e = .returned (.tuple #[.agg #[v0_,.int .i64 r2,.int .i64 r3,.int .i64 r4,.int .i64 r5],.int .i64 r6])∧Kd.R k97 97 w' w.heap.size (fun _=>True) v0_ r1∧Below w.heap.size w w':=by
 have hu28:=Try.underlying28
 have hu97:=Try.underlying97
 have HR0_0:=Aside0.mk hr0_0
 have HC0_0:=Aside0.mk hc0_0
 clear hr0_0 hc0_0
 have HB:=Aside0.mk (Below.refl w.heap.size w)
 have H:((spec_l02Copy.f k l0_0 a0_1 a0_2 a0_3 a0_4).bind fun bt142=>((spec_QueueOk.f k l0_0 a0_1 a0_2 a0_3 a0_4).bind fun t150=>(if t150=true then ((spec_l01In.f a1 0 59).bind fun t151=>(if t151=true then (if 0≤a1 then (if a1 < (l0_0.length:Int) then (spec_RemoveAt.j0 k a1 (!((rd_T97 l0_0 a1).f3)) l0_0 a0_1 a0_2 a0_3 a0_4 bt142.1 bt142.2.1 bt142.2.2.1 bt142.2.2.2.1 bt142.2.2.2.2) else (none)) else (none)) else (spec_RemoveAt.j0 k a1 true l0_0 a0_1 a0_2 a0_3 a0_4 bt142.1 bt142.2.1 bt142.2.2.1 bt142.2.2.2.1 bt142.2.2.2.2))) else (spec_RemoveAt.j0 k a1 true l0_0 a0_1 a0_2 a0_3 a0_4 bt142.1 bt142.2.1 bt142.2.2.1 bt142.2.2.2.1 bt142.2.2.2.2))))=some (r1,r2,r3,r4,r5,r6):=h
 clear h
 replace H:=Option.bind_eq_some_iff.mp H
 obtain ⟨⟨t142,t145,t146,t147,t148⟩,A30,H⟩:=H
 replace H:((spec_QueueOk.f k l0_0 a0_1 a0_2 a0_3 a0_4).bind fun t150=>(if t150=true then ((spec_l01In.f a1 0 59).bind fun t151=>(if t151=true then (if 0≤a1 then (if a1 < (l0_0.length:Int) then (spec_RemoveAt.j0 k a1 (!((rd_T97 l0_0 a1).f3)) l0_0 a0_1 a0_2 a0_3 a0_4 t142 t145 t146 t147 t148) else (none)) else (none)) else (spec_RemoveAt.j0 k a1 true l0_0 a0_1 a0_2 a0_3 a0_4 t142 t145 t146 t147 t148))) else (spec_RemoveAt.j0 k a1 true l0_0 a0_1 a0_2 a0_3 a0_4 t142 t145 t146 t147 t148)))=some (r1,r2,r3,r4,r5,r6):=H
 have A3:=Aside0.mk A30
 clear A30
 have HC4:=Aside0.mk H
 clear H
 go_enter Try.func49,Try.ntmps49
 go_upto_region 2 with (first|((with_reducible refine gate_dst (N:=2) rfl ?_);refine bx 2 #[.slice A0_0 l0_0.length c0_0,.int .i64 a0_1,.int .i64 a0_2,.int .i64 a0_3,.int .i64 a0_4] 28 ?_;intro gb140 hg w5 hbox hb;have BK140:=Aside0.mk (hbox);have GW140:=Aside0.mk (bz hg:w.heap.size≤gb140);have GE140:=GW140;replace HB:=Aside0.mk (below_step bl hb);clear hb hbox hg)|((with_reducible refine gate_dst (N:=4) rfl ?_);refine bx 4 #[.slice none 0 0,.int .i64 0,.int .i64 0,.int .i64 0,.int .i64 0] 28 ?_;intro gb141 hg w6 hbox hb;have BK141:=Aside0.mk (hbox);have GW141:=Aside0.mk (bz hg:w.heap.size≤gb141);have GE141:=GW141;replace HB:=Aside0.mk (below_step bl hb);have NB140_141:=Aside0.mk (nl hg BK140:gb140≠gb141);have NB141_140:=Aside0.mk (nr hg BK140:gb141≠gb140);replace BK140:=Aside0.mk (blk_below (bk BK140) hb);clear hb hbox hg;have hnb7:=NB140_141.out;have hnc7:=NB141_140.out;obtain ⟨hcz8_0,hcz8_1,hcz8_2,hcz8_3,hcz8_4,hfz8_0,hfz8_1,hfz8_2,hfz8_3,hfz8_4⟩:=ck5 BK140.out)|((with_reducible refine gate_callee (f:=48) rfl ?_);refine gl Try.func48 #[.agg #[.slice A0_0 l0_0.length c0_0,.int .i64 a0_1,.int .i64 a0_2,.int .i64 a0_3,.int .i64 a0_4]] ?_;(with_reducible refine (spec_l02Copy.calls k _ _ l0_0 a0_1 a0_2 a0_3 a0_4 t142 t145 t146 t147 t148 _ ?side1 ?side2 A3.out).mono ?_);(case side1=>exact kc HR0_0);(case side2=>exact HC0_0.out);rintro e w9 ⟨v143,rfl,ho0,hb⟩;refine ⟨_,rfl,?_⟩;have HO144:=Aside0.mk (Kd.R_lower ho0 (below_size bl));replace BK140:=Aside0.mk (blk_below (bk BK140) hb);replace BK141:=Aside0.mk (blk_below (bk BK141) hb);replace HB:=Aside0.mk (below_step bl hb);(try clear hb);(try clear hb2);(try clear hk);(try clear hi);(try clear ho0))|((with_reducible refine gate_dst (N:=6) rfl ?_);refine bx 6 #[.slice none 0 0,.int .i64 0,.int .i64 0,.int .i64 0,.int .i64 0] 28 ?_;intro gb149 hg w10 hbox hb;replace HO144:=Aside0.mk (Kd.R_below (kr HO144) hb);have BK149:=Aside0.mk (hbox);have GW149:=Aside0.mk (bz hg:w.heap.size≤gb149);have GE149:=GW149;replace HB:=Aside0.mk (below_step bl hb);have NB140_149:=Aside0.mk (nl hg BK140:gb140≠gb149);have NB149_140:=Aside0.mk (nr hg BK140:gb149≠gb140);replace BK140:=Aside0.mk (blk_below (bk BK140) hb);have NB141_149:=Aside0.mk (nl hg BK141:gb141≠gb149);have NB149_141:=Aside0.mk (nr hg BK141:gb149≠gb141);replace BK141:=Aside0.mk (blk_below (bk BK141) hb);clear hb hbox hg;obtain ⟨Ao11,co11,eo11⟩:=Kd.R_slice HO144.out;subst eo11;have hnb12:=NB149_140.out;have hnc12:=NB140_149.out;have hnb13:=NB149_141.out;have hnc13:=NB141_149.out;obtain ⟨hcz14_0,hcz14_1,hcz14_2,hcz14_3,hcz14_4,hfz14_0,hfz14_1,hfz14_2,hfz14_3,hfz14_4⟩:=ck5 BK149.out))
 (try simp only [Act.put,List.setIfInBounds_toArray,List.set_cons_zero,List.set_cons_succ])
 go_cut [26] (fun v26 wc=>∃ (kq:Nat) (x26_3:Bool),v26 = .bool x26_3∧Aside0 (spec_RemoveAt.j0 kq a1 x26_3 l0_0 a0_1 a0_2 a0_3 a0_4 t142 t145 t146 t147 t148=some (r1,r2,r3,r4,r5,r6))∧Aside0 (kq≤k)∧Aside0 (Kd.R k97 97 wc w.heap.size (fun _=>True) (.slice Ao11 t142.length co11) t142)∧Aside0 (wc.heap[gb140]? = some (.cells #[(.slice A0_0 l0_0.length c0_0),.int .i64 a0_1,.int .i64 a0_2,.int .i64 a0_3,.int .i64 a0_4] 28 (0,0)))∧Aside0 (wc.heap[gb141]? = some (.cells #[(.slice none 0 0),.int .i64 0,.int .i64 0,.int .i64 0,.int .i64 0] 28 (0,0)))∧Aside0 (wc.heap[gb149]? = some (.cells #[(.slice Ao11 t142.length co11),.int .i64 t145,.int .i64 t146,.int .i64 t147,.int .i64 t148] 28 (0,0)))∧Aside0 (Below w.heap.size w wc))
 case first =>
  have H:=HC4.out
  clear HC4
  replace H:=Option.bind_eq_some_iff.mp H
  obtain ⟨t150,A150,H⟩:=H
  have A15:=Aside0.mk A150
  clear A150
  by_cases c16:t150=true
  ·subst c16
   rw [if_pos rfl] at H
   replace H:=Option.bind_eq_some_iff.mp H
   obtain ⟨t151,A170,H⟩:=H
   have A17:=Aside0.mk A170
   clear A170
   by_cases c18:t151=true
   ·subst c18
    rw [if_pos rfl] at H
    by_cases c19:0≤a1
    ·rw [if_pos c19] at H
     have c19b0:decide (0≤a1)=true:=decide_eq_true c19
     clear c19
     (first|rw [c19b0]|(simp only [i64_w,i32_w];rw [c19b0])|skip)
     by_cases c20:a1 < (l0_0.length:Int)
     ·rw [if_pos c20] at H
      have c20b0:decide (a1 < (l0_0.length:Int))=true:=decide_eq_true c20
      clear c20
      have H':=Aside0.mk H
      clear H
      have hnb21:=NB140_141.out
      have hnc21:=NB141_140.out
      have hnb22:=NB140_149.out
      have hnc22:=NB149_140.out
      obtain ⟨hcz23_0,hcz23_1,hcz23_2,hcz23_3,hcz23_4,hfz23_0,hfz23_1,hfz23_2,hfz23_3,hfz23_4⟩:=ck5 BK140.out
      go_wp2_with (first|((with_reducible refine gate_callee (f:=60) rfl ?_);refine gl Try.func60 #[.agg #[.slice A0_0 l0_0.length c0_0,.int .i64 a0_1,.int .i64 a0_2,.int .i64 a0_3,.int .i64 a0_4]] ?_;(with_reducible refine (spec_QueueOk.calls k _ _ l0_0 a0_1 a0_2 a0_3 a0_4 true _ ?side1 ?side2 A15.out).mono ?_);(case side1=>exact Kd.C_below HR0_0.out bl);(case side2=>exact HC0_0.out);rintro e w24 ⟨rfl,hb⟩;refine ⟨_,rfl,?_⟩;replace HO144:=Aside0.mk (Kd.R_below (by (with_reducible repeat (first|apply Kd.R_alloc|apply Kd.R_drewN|apply Kd.R_drew));exact (Kd.R_mono (Kd.R_far (p:=⟨gb149,4,none⟩) (Kd.R_far (p:=⟨gb149,3,none⟩) (Kd.R_far (p:=⟨gb149,2,none⟩) (Kd.R_far (p:=⟨gb149,1,none⟩) (Kd.R_far (p:=⟨gb149,0,none⟩) (Kd.R_types HO144.out BK149.out (by decide)) (fun _ hk=>hk.2) (.slice Ao11 t142.length co11)) (fun _ hk=>hk.2) (.int .i64 t145)) (fun _ hk=>hk.2) (.int .i64 t146)) (fun _ hk=>hk.2) (.int .i64 t147)) (fun _ hk=>hk.2) (.int .i64 t148)) (fun _ h_=>h_.1))) hb);replace BK140:=Aside0.mk (blk_below (g:=gb140) (o:=.cells #[.slice A0_0 l0_0.length c0_0,.int .i64 a0_1,.int .i64 a0_2,.int .i64 a0_3,.int .i64 a0_4] 28 (0,0)) (bf BK140) hb);replace BK141:=Aside0.mk (blk_below (g:=gb141) (o:=.cells #[.slice none 0 0,.int .i64 0,.int .i64 0,.int .i64 0,.int .i64 0] 28 (0,0)) (bf BK141) hb);replace BK149:=Aside0.mk (blk_below (g:=gb149) (o:=.cells #[.slice Ao11 t142.length co11,.int .i64 t145,.int .i64 t146,.int .i64 t147,.int .i64 t148] 28 (0,0)) (by (with_reducible repeat (first|refine blk_drewN ?_ _|refine blk_drew ?_|refine blk_alloc ?_ _));refine blk_put (cs:=#[.slice Ao11 t142.length co11,.int .i64 t145,.int .i64 t146,.int .i64 t147,.int .i64 0]) ?_ 4 _ rfl;(with_reducible repeat (first|refine blk_drewN ?_ _|refine blk_drew ?_|refine blk_alloc ?_ _));refine blk_put (cs:=#[.slice Ao11 t142.length co11,.int .i64 t145,.int .i64 t146,.int .i64 0,.int .i64 0]) ?_ 3 _ rfl;(with_reducible repeat (first|refine blk_drewN ?_ _|refine blk_drew ?_|refine blk_alloc ?_ _));refine blk_put (cs:=#[.slice Ao11 t142.length co11,.int .i64 t145,.int .i64 0,.int .i64 0,.int .i64 0]) ?_ 2 _ rfl;(with_reducible repeat (first|refine blk_drewN ?_ _|refine blk_drew ?_|refine blk_alloc ?_ _));refine blk_put (cs:=#[.slice Ao11 t142.length co11,.int .i64 0,.int .i64 0,.int .i64 0,.int .i64 0]) ?_ 1 _ rfl;(with_reducible repeat (first|refine blk_drewN ?_ _|refine blk_drew ?_|refine blk_alloc ?_ _));refine blk_put (cs:=#[.slice none 0 0,.int .i64 0,.int .i64 0,.int .i64 0,.int .i64 0]) ?_ 0 _ rfl;(with_reducible repeat (first|refine blk_drewN ?_ _|refine blk_drew ?_|refine blk_alloc ?_ _));exact BK149.out) hb);replace HB:=Aside0.mk (below_step bl hb);(try clear hb);(try clear hb2);(try clear hk);(try clear hi))|(go_at_call 83;(with_reducible refine (spec_l01In.calls a1 0 59 true _ A17.out).mono ?_);rintro e w' ⟨rfl,⟨nd,rfl⟩⟩;obtain ⟨hcz25_0,hcz25_1,hcz25_2,hcz25_3,hcz25_4,hfz25_0,hfz25_1,hfz25_2,hfz25_3,hfz25_4⟩:=ck5 BK140.out;have p152:0≤(a1:Int):=of_decide_eq_true (by first|(with_reducible assumption)|assumption);have q152:a1 < (l0_0.length:Int):=of_decide_eq_true (by first|(with_reducible assumption)|assumption);obtain ⟨ad152,e152,hx152_0,hx152_1,hx152_2,hx152_3⟩:=at_T97 HR0_0.out a1 p152 q152;cases e152;replace hx152_0:=cl HB hx152_0;replace hx152_1:=cl HB hx152_1;replace hx152_2:=cl HB hx152_2;replace hx152_3:=cl HB hx152_3;replace p152:=eq_true p152;replace q152:=eq_true q152))
      go_meet
      case rel=>exact ⟨_,(!((rd_T97 l0_0 a1).f3)),(by first|rfl|(simp;done)|(simp [*];done)),H',⟨by first|omega|exact Nat.le_refl _⟩,⟨kr HO144⟩,⟨bk BK140⟩,⟨bk BK141⟩,⟨bk BK149⟩,⟨bl⟩⟩
     ·rw [if_neg c20] at H
      exact absurd H (by simp)
    ·rw [if_neg c19] at H
     exact absurd H (by simp)
   ·replace c18:=Bool.eq_false_iff.mpr c18
    subst c18
    rw [if_neg nft] at H
    have H':=Aside0.mk H
    clear H
    have hnb26:=NB140_141.out
    have hnc26:=NB141_140.out
    have hnb27:=NB140_149.out
    have hnc27:=NB149_140.out
    obtain ⟨hcz28_0,hcz28_1,hcz28_2,hcz28_3,hcz28_4,hfz28_0,hfz28_1,hfz28_2,hfz28_3,hfz28_4⟩:=ck5 BK140.out
    go_wp2_with (first|((with_reducible refine gate_callee (f:=60) rfl ?_);refine gl Try.func60 #[.agg #[.slice A0_0 l0_0.length c0_0,.int .i64 a0_1,.int .i64 a0_2,.int .i64 a0_3,.int .i64 a0_4]] ?_;(with_reducible refine (spec_QueueOk.calls k _ _ l0_0 a0_1 a0_2 a0_3 a0_4 true _ ?side1 ?side2 A15.out).mono ?_);(case side1=>exact Kd.C_below HR0_0.out bl);(case side2=>exact HC0_0.out);rintro e w29 ⟨rfl,hb⟩;refine ⟨_,rfl,?_⟩;replace HO144:=Aside0.mk (Kd.R_below (by (with_reducible repeat (first|apply Kd.R_alloc|apply Kd.R_drewN|apply Kd.R_drew));exact (Kd.R_mono (Kd.R_far (p:=⟨gb149,4,none⟩) (Kd.R_far (p:=⟨gb149,3,none⟩) (Kd.R_far (p:=⟨gb149,2,none⟩) (Kd.R_far (p:=⟨gb149,1,none⟩) (Kd.R_far (p:=⟨gb149,0,none⟩) (Kd.R_types HO144.out BK149.out (by decide)) (fun _ hk=>hk.2) (.slice Ao11 t142.length co11)) (fun _ hk=>hk.2) (.int .i64 t145)) (fun _ hk=>hk.2) (.int .i64 t146)) (fun _ hk=>hk.2) (.int .i64 t147)) (fun _ hk=>hk.2) (.int .i64 t148)) (fun _ h_=>h_.1))) hb);replace BK140:=Aside0.mk (blk_below (g:=gb140) (o:=.cells #[.slice A0_0 l0_0.length c0_0,.int .i64 a0_1,.int .i64 a0_2,.int .i64 a0_3,.int .i64 a0_4] 28 (0,0)) (bf BK140) hb);replace BK141:=Aside0.mk (blk_below (g:=gb141) (o:=.cells #[.slice none 0 0,.int .i64 0,.int .i64 0,.int .i64 0,.int .i64 0] 28 (0,0)) (bf BK141) hb);replace BK149:=Aside0.mk (blk_below (g:=gb149) (o:=.cells #[.slice Ao11 t142.length co11,.int .i64 t145,.int .i64 t146,.int .i64 t147,.int .i64 t148] 28 (0,0)) (by (with_reducible repeat (first|refine blk_drewN ?_ _|refine blk_drew ?_|refine blk_alloc ?_ _));refine blk_put (cs:=#[.slice Ao11 t142.length co11,.int .i64 t145,.int .i64 t146,.int .i64 t147,.int .i64 0]) ?_ 4 _ rfl;(with_reducible repeat (first|refine blk_drewN ?_ _|refine blk_drew ?_|refine blk_alloc ?_ _));refine blk_put (cs:=#[.slice Ao11 t142.length co11,.int .i64 t145,.int .i64 t146,.int .i64 0,.int .i64 0]) ?_ 3 _ rfl;(with_reducible repeat (first|refine blk_drewN ?_ _|refine blk_drew ?_|refine blk_alloc ?_ _));refine blk_put (cs:=#[.slice Ao11 t142.length co11,.int .i64 t145,.int .i64 0,.int .i64 0,.int .i64 0]) ?_ 2 _ rfl;(with_reducible repeat (first|refine blk_drewN ?_ _|refine blk_drew ?_|refine blk_alloc ?_ _));refine blk_put (cs:=#[.slice Ao11 t142.length co11,.int .i64 0,.int .i64 0,.int .i64 0,.int .i64 0]) ?_ 1 _ rfl;(with_reducible repeat (first|refine blk_drewN ?_ _|refine blk_drew ?_|refine blk_alloc ?_ _));refine blk_put (cs:=#[.slice none 0 0,.int .i64 0,.int .i64 0,.int .i64 0,.int .i64 0]) ?_ 0 _ rfl;(with_reducible repeat (first|refine blk_drewN ?_ _|refine blk_drew ?_|refine blk_alloc ?_ _));exact BK149.out) hb);replace HB:=Aside0.mk (below_step bl hb);(try clear hb);(try clear hb2);(try clear hk);(try clear hi))|(go_at_call 83;(with_reducible refine (spec_l01In.calls a1 0 59 false _ A17.out).mono ?_);rintro e w' ⟨rfl,⟨nd,rfl⟩⟩))
    go_meet
    case rel=>exact ⟨_,(true),(by first|rfl|(simp;done)|(simp [*];done)),H',⟨by first|omega|exact Nat.le_refl _⟩,⟨kr HO144⟩,⟨bk BK140⟩,⟨bk BK141⟩,⟨bk BK149⟩,⟨bl⟩⟩
  ·replace c16:=Bool.eq_false_iff.mpr c16
   subst c16
   rw [if_neg nft] at H
   have H':=Aside0.mk H
   clear H
   have hnb30:=NB140_141.out
   have hnc30:=NB141_140.out
   have hnb31:=NB140_149.out
   have hnc31:=NB149_140.out
   obtain ⟨hcz32_0,hcz32_1,hcz32_2,hcz32_3,hcz32_4,hfz32_0,hfz32_1,hfz32_2,hfz32_3,hfz32_4⟩:=ck5 BK140.out
   go_wp2_with (first|((with_reducible refine gate_callee (f:=60) rfl ?_);refine gl Try.func60 #[.agg #[.slice A0_0 l0_0.length c0_0,.int .i64 a0_1,.int .i64 a0_2,.int .i64 a0_3,.int .i64 a0_4]] ?_;(with_reducible refine (spec_QueueOk.calls k _ _ l0_0 a0_1 a0_2 a0_3 a0_4 false _ ?side1 ?side2 A15.out).mono ?_);(case side1=>exact Kd.C_below HR0_0.out bl);(case side2=>exact HC0_0.out);rintro e w33 ⟨rfl,hb⟩;refine ⟨_,rfl,?_⟩;replace HO144:=Aside0.mk (Kd.R_below (by (with_reducible repeat (first|apply Kd.R_alloc|apply Kd.R_drewN|apply Kd.R_drew));exact (Kd.R_mono (Kd.R_far (p:=⟨gb149,4,none⟩) (Kd.R_far (p:=⟨gb149,3,none⟩) (Kd.R_far (p:=⟨gb149,2,none⟩) (Kd.R_far (p:=⟨gb149,1,none⟩) (Kd.R_far (p:=⟨gb149,0,none⟩) (Kd.R_types HO144.out BK149.out (by decide)) (fun _ hk=>hk.2) (.slice Ao11 t142.length co11)) (fun _ hk=>hk.2) (.int .i64 t145)) (fun _ hk=>hk.2) (.int .i64 t146)) (fun _ hk=>hk.2) (.int .i64 t147)) (fun _ hk=>hk.2) (.int .i64 t148)) (fun _ h_=>h_.1))) hb);replace BK140:=Aside0.mk (blk_below (g:=gb140) (o:=.cells #[.slice A0_0 l0_0.length c0_0,.int .i64 a0_1,.int .i64 a0_2,.int .i64 a0_3,.int .i64 a0_4] 28 (0,0)) (bf BK140) hb);replace BK141:=Aside0.mk (blk_below (g:=gb141) (o:=.cells #[.slice none 0 0,.int .i64 0,.int .i64 0,.int .i64 0,.int .i64 0] 28 (0,0)) (bf BK141) hb);replace BK149:=Aside0.mk (blk_below (g:=gb149) (o:=.cells #[.slice Ao11 t142.length co11,.int .i64 t145,.int .i64 t146,.int .i64 t147,.int .i64 t148] 28 (0,0)) (by (with_reducible repeat (first|refine blk_drewN ?_ _|refine blk_drew ?_|refine blk_alloc ?_ _));refine blk_put (cs:=#[.slice Ao11 t142.length co11,.int .i64 t145,.int .i64 t146,.int .i64 t147,.int .i64 0]) ?_ 4 _ rfl;(with_reducible repeat (first|refine blk_drewN ?_ _|refine blk_drew ?_|refine blk_alloc ?_ _));refine blk_put (cs:=#[.slice Ao11 t142.length co11,.int .i64 t145,.int .i64 t146,.int .i64 0,.int .i64 0]) ?_ 3 _ rfl;(with_reducible repeat (first|refine blk_drewN ?_ _|refine blk_drew ?_|refine blk_alloc ?_ _));refine blk_put (cs:=#[.slice Ao11 t142.length co11,.int .i64 t145,.int .i64 0,.int .i64 0,.int .i64 0]) ?_ 2 _ rfl;(with_reducible repeat (first|refine blk_drewN ?_ _|refine blk_drew ?_|refine blk_alloc ?_ _));refine blk_put (cs:=#[.slice Ao11 t142.length co11,.int .i64 0,.int .i64 0,.int .i64 0,.int .i64 0]) ?_ 1 _ rfl;(with_reducible repeat (first|refine blk_drewN ?_ _|refine blk_drew ?_|refine blk_alloc ?_ _));refine blk_put (cs:=#[.slice none 0 0,.int .i64 0,.int .i64 0,.int .i64 0,.int .i64 0]) ?_ 0 _ rfl;(with_reducible repeat (first|refine blk_drewN ?_ _|refine blk_drew ?_|refine blk_alloc ?_ _));exact BK149.out) hb);replace HB:=Aside0.mk (below_step bl hb);(try clear hb);(try clear hb2);(try clear hk);(try clear hi)))
   go_meet
   case rel=>exact ⟨_,(true),(by first|rfl|(simp;done)|(simp [*];done)),H',⟨by first|omega|exact Nat.le_refl _⟩,⟨kr HO144⟩,⟨bk BK140⟩,⟨bk BK141⟩,⟨bk BK149⟩,⟨bl⟩⟩
 case rest =>
  clear HC4
  try clear c1
  try clear p1
  try clear q1
  try clear hx1
  try clear c2
  try clear p2
  try clear c3
  try clear c4
  try clear c6
  try clear c7
  try clear c12
  try clear c13
  try clear p15
  try clear q15
  try clear hx15
  try clear c16
  try clear c18
  try clear c19
  try clear c19b0
  try clear c20
  try clear c20b0
  try clear c21
  try clear c22
  try clear c26
  try clear c27
  try clear c30
  try clear c31
  try clear hcz14_0
  try clear hcz14_1
  try clear hcz14_2
  try clear hcz14_3
  try clear hcz14_4
  try clear hcz23_0
  try clear hcz23_1
  try clear hcz23_2
  try clear hcz23_3
  try clear hcz23_4
  try clear hcz25_0
  try clear hcz25_1
  try clear hcz25_2
  try clear hcz25_3
  try clear hcz25_4
  try clear hcz28_0
  try clear hcz28_1
  try clear hcz28_2
  try clear hcz28_3
  try clear hcz28_4
  try clear hcz32_0
  try clear hcz32_1
  try clear hcz32_2
  try clear hcz32_3
  try clear hcz32_4
  try clear hcz8_0
  try clear hcz8_1
  try clear hcz8_2
  try clear hcz8_3
  try clear hcz8_4
  try clear hfz14_0
  try clear hfz14_1
  try clear hfz14_2
  try clear hfz14_3
  try clear hfz14_4
  try clear hfz23_0
  try clear hfz23_1
  try clear hfz23_2
  try clear hfz23_3
  try clear hfz23_4
  try clear hfz25_0
  try clear hfz25_1
  try clear hfz25_2
  try clear hfz25_3
  try clear hfz25_4
  try clear hfz28_0
  try clear hfz28_1
  try clear hfz28_2
  try clear hfz28_3
  try clear hfz28_4
  try clear hfz32_0
  try clear hfz32_1
  try clear hfz32_2
  try clear hfz32_3
  try clear hfz32_4
  try clear hfz8_0
  try clear hfz8_1
  try clear hfz8_2
  try clear hfz8_3
  try clear hfz8_4
  try clear hx152_0
  try clear hx152_1
  try clear hx152_2
  try clear hx152_3
  try clear p152
  try clear q152
  obtain ⟨kq,x26_3,rfl,HA,HJ3,HO_150000,BK140,BK141,BK149,HB⟩:=hcut
  cases kq with
  | zero=>exact absurd HA.out (by simp [spec_RemoveAt.j0])
  | succ kj3 =>
   have H:=HA.out
   clear HA
   simp only [spec_RemoveAt.j0] at H
   by_cases c34:x26_3=true
   ·subst c34
    rw [if_pos rfl] at H
    simp only [Option.some.injEq,Prod.mk.injEq] at H
    obtain ⟨rfl,rfl,rfl,rfl,rfl,rfl⟩:=H
    have hnb35:=NB149_140.out
    have hnc35:=NB140_149.out
    have hnb36:=NB149_141.out
    have hnc36:=NB141_149.out
    obtain ⟨hcz37_0,hcz37_1,hcz37_2,hcz37_3,hcz37_4,hfz37_0,hfz37_1,hfz37_2,hfz37_3,hfz37_4⟩:=ck5 BK149.out
    have hnb38:=NB141_140.out
    have hnc38:=NB140_141.out
    obtain ⟨hcz39_0,hcz39_1,hcz39_2,hcz39_3,hcz39_4,hfz39_0,hfz39_1,hfz39_2,hfz39_3,hfz39_4⟩:=ck5 BK141.out
    go_wp2
    refine bodyPost_ret (results_ct rfl _ _ gb141 28 #[.slice Ao11 t142.length co11,.int .i64 t145,.int .i64 t146,.int .i64 t147,.int .i64 t148] (0,0) _ rfl (by (with_reducible repeat (first|refine blk_drewN ?_ _|refine blk_drew ?_|refine blk_alloc ?_ _));refine blk_put (cs:=#[.slice Ao11 t142.length co11,.int .i64 t145,.int .i64 t146,.int .i64 t147,.int .i64 0]) ?_ 4 _ rfl;(with_reducible repeat (first|refine blk_drewN ?_ _|refine blk_drew ?_|refine blk_alloc ?_ _));refine blk_put (cs:=#[.slice Ao11 t142.length co11,.int .i64 t145,.int .i64 t146,.int .i64 0,.int .i64 0]) ?_ 3 _ rfl;(with_reducible repeat (first|refine blk_drewN ?_ _|refine blk_drew ?_|refine blk_alloc ?_ _));refine blk_put (cs:=#[.slice Ao11 t142.length co11,.int .i64 t145,.int .i64 0,.int .i64 0,.int .i64 0]) ?_ 2 _ rfl;(with_reducible repeat (first|refine blk_drewN ?_ _|refine blk_drew ?_|refine blk_alloc ?_ _));refine blk_put (cs:=#[.slice Ao11 t142.length co11,.int .i64 0,.int .i64 0,.int .i64 0,.int .i64 0]) ?_ 1 _ rfl;(with_reducible repeat (first|refine blk_drewN ?_ _|refine blk_drew ?_|refine blk_alloc ?_ _));refine blk_put (cs:=#[.slice none 0 0,.int .i64 0,.int .i64 0,.int .i64 0,.int .i64 0]) ?_ 0 _ rfl;(with_reducible repeat (first|refine blk_drewN ?_ _|refine blk_drew ?_|refine blk_alloc ?_ _));exact BK141.out) Try.underlying28 rfl (by kernel_rfl)) rfl ?_
    exact ⟨_,by first|rfl|(simp [errW_none,errW_some] <;> rfl)|(simp [*,errW_none,errW_some] <;> rfl),by (with_reducible repeat (first|apply Kd.R_alloc|apply Kd.R_drewN|apply Kd.R_drew));exact Kd.R_mono (Kd.R_far (p:=⟨gb141,4,none⟩) (Kd.R_far (p:=⟨gb141,3,none⟩) (Kd.R_far (p:=⟨gb141,2,none⟩) (Kd.R_far (p:=⟨gb141,1,none⟩) (Kd.R_far (p:=⟨gb141,0,none⟩) (Kd.R_types HO_150000.out BK141.out (by decide)) (fun _ hk=>hk.2) (.slice Ao11 t142.length co11)) (fun _ hk=>hk.2) (.int .i64 t145)) (fun _ hk=>hk.2) (.int .i64 t146)) (fun _ hk=>hk.2) (.int .i64 t147)) (fun _ hk=>hk.2) (.int .i64 t148)) (fun _ hk=>trivial),bl⟩
   ·replace c34:=Bool.eq_false_iff.mpr c34
    subst c34
    rw [if_neg nft] at H
    by_cases c40:0≤a1
    ·rw [if_pos c40] at H
     have c40b0:decide (0≤a1)=true:=decide_eq_true c40
     clear c40
     by_cases c41:a1 < (l0_0.length:Int)
     ·rw [if_pos c41] at H
      have c41b0:decide (a1 < (l0_0.length:Int))=true:=decide_eq_true c41
      clear c41
      by_cases c42:((rd_T97 l0_0 a1).f1)=(-1)
      ·rw [if_pos c42] at H
       have c42b0:(((rd_T97 l0_0 a1).f1) == (-1))=true:=beq_iff_eq.mpr c42
       have c42b1:(((rd_T97 l0_0 a1).f1) != (-1))=false:=bne_eq_false_iff_eq.mpr c42
       clear c42
       by_cases c43:((rd_T97 l0_0 a1).f2)=(-1)
       ·rw [if_pos c43] at H
        have c43b0:(((rd_T97 l0_0 a1).f2) == (-1))=true:=beq_iff_eq.mpr c43
        have c43b1:(((rd_T97 l0_0 a1).f2) != (-1))=false:=bne_eq_false_iff_eq.mpr c43
        clear c43
        by_cases c44:a1 < (t142.length:Int)
        ·rw [if_pos c44] at H
         have c44b0:decide (a1 < (t142.length:Int))=true:=decide_eq_true c44
         clear c44
         obtain ⟨y155,hy155⟩:∃ y_:List (S97),y_=(t142.set (a1:Int).toNat (⟨0,(-1),a0_3,false⟩:S97)):=⟨_,rfl⟩
         replace H:(some (y155,(rd_T97 l0_0 a1).f2,(rd_T97 l0_0 a1).f1,a1,wrap64 (a0_4 - 1),(rd_T97 l0_0 a1).f0))=some (r1,r2,r3,r4,r5,r6):=by first|(rw [hy155];with_reducible exact H)|(have H2_:=(Option.bind_some _ _).symm.trans H;rw [hy155];with_reducible exact H2_)|(have H2_:=(Option.bind_some _ _).symm.trans H;with_reducible exact H2_)|with_reducible exact H|(rw [hy155];exact H)|exact H
         have Ny155:=Aside0.mk hy155
         clear hy155
         simp only [Option.some.injEq,Prod.mk.injEq] at H
         obtain ⟨rfl,rfl,rfl,rfl,rfl,rfl⟩:=H
         have hnb46:=NB140_141.out
         have hnc46:=NB141_140.out
         have hnb47:=NB140_149.out
         have hnc47:=NB149_140.out
         obtain ⟨hcz48_0,hcz48_1,hcz48_2,hcz48_3,hcz48_4,hfz48_0,hfz48_1,hfz48_2,hfz48_3,hfz48_4⟩:=ck5 BK140.out
         have p153:0≤(a1:Int):=of_decide_eq_true (by first|(with_reducible assumption)|assumption)
         have q153:a1 < (l0_0.length:Int):=of_decide_eq_true (by first|(with_reducible assumption)|assumption)
         obtain ⟨ad153,e153,hx153_0,hx153_1,hx153_2,hx153_3⟩:=at_T97 HR0_0.out a1 p153 q153
         cases e153
         replace hx153_0:=cl HB hx153_0
         replace hx153_1:=cl HB hx153_1
         replace hx153_2:=cl HB hx153_2
         replace hx153_3:=cl HB hx153_3
         replace p153:=eq_true p153
         replace q153:=eq_true q153
         try go_wp2_with (first|((with_reducible refine gate_dst (N:=7) rfl ?_);refine bx 7 #[.int .i64 0,.int .i64 0,.int .i64 0,.bool false] 97 ?_;intro gb154 hg w49 hbox hb;replace HO_150000:=Aside0.mk (Kd.R_below (Kd.R_elderB (kr HO_150000) gb154 (Nat.le_of_eq hg.symm)) hb);have BK154:=Aside0.mk (hbox);have GW154:=Aside0.mk (bz hg:w.heap.size≤gb154);have GE154:=GW154;replace HB:=Aside0.mk (below_step bl hb);have NB140_154:=Aside0.mk (nl hg BK140:gb140≠gb154);have NB154_140:=Aside0.mk (nr hg BK140:gb154≠gb140);replace BK140:=Aside0.mk (blk_below (bk BK140) hb);have NB141_154:=Aside0.mk (nl hg BK141:gb141≠gb154);have NB154_141:=Aside0.mk (nr hg BK141:gb154≠gb141);replace BK141:=Aside0.mk (blk_below (bk BK141) hb);have NB149_154:=Aside0.mk (nl hg BK149:gb149≠gb154);have NB154_149:=Aside0.mk (nr hg BK149:gb154≠gb149);replace BK149:=Aside0.mk (blk_below (bk BK149) hb);clear hb hbox hg;have hnb50:=NB154_140.out;have hnc50:=NB140_154.out;have hnb51:=NB154_141.out;have hnc51:=NB141_154.out;have hnb52:=NB154_149.out;have hnc52:=NB149_154.out;obtain ⟨hcz53_0,hcz53_1,hcz53_2,hcz53_3,hfz53_0,hfz53_1,hfz53_2,hfz53_3⟩:=ck4 BK154.out)|((with_reducible refine gate_store (t:=97) (p:=7) rfl ?_);refine sx 97 7 ((((w49.setCell ⟨gb154,0,none⟩ (.int .i64 ((rd_T97 l0_0 a1).f0))).setCell ⟨gb154,1,none⟩ (.int .i64 ((rd_T97 l0_0 a1).f1))).setCell ⟨gb154,2,none⟩ (.int .i64 ((rd_T97 l0_0 a1).f2))).setCell ⟨gb154,3,none⟩ (.bool ((rd_T97 l0_0 a1).f3))) ?_;intro w54 hw;have n0_:Aside0 (Kd.R k97 97 w54 w.heap.size (fun k_=>k_≠gb154) (.slice Ao11 t142.length co11) t142):=⟨(by rw [hw];exact (by (with_reducible repeat (first|apply Kd.R_alloc|apply Kd.R_drewN|apply Kd.R_drew));exact Kd.R_mono (Kd.R_far (p:=⟨gb154,3,none⟩) (Kd.R_far (p:=⟨gb154,2,none⟩) (Kd.R_far (p:=⟨gb154,1,none⟩) (Kd.R_far (p:=⟨gb154,0,none⟩) (Kd.R_mono HO_150000.out (fun k_ hk=>(⟨hk,hk.2⟩:_∧k_≠gb154))) (fun _ hk=>hk.2) (.int .i64 ((rd_T97 l0_0 a1).f0))) (fun _ hk=>hk.2) (.int .i64 ((rd_T97 l0_0 a1).f1))) (fun _ hk=>hk.2) (.int .i64 ((rd_T97 l0_0 a1).f2))) (fun _ hk=>hk.2) (.bool ((rd_T97 l0_0 a1).f3))) (fun _ hk=>hk.1.2)))⟩;have n1_:Aside0 (w54.heap[gb140]? = some (.cells #[.slice (some ad153) l0_0.length c0_0,.int .i64 a0_1,.int .i64 a0_2,.int .i64 a0_3,.int .i64 a0_4] 28 (0,0))):=⟨(by rw [hw];exact (bf BK140))⟩;have n2_:Aside0 (w54.heap[gb141]? = some (.cells #[.slice none 0 0,.int .i64 0,.int .i64 0,.int .i64 0,.int .i64 0] 28 (0,0))):=⟨(by rw [hw];exact (bf BK141))⟩;have n3_:Aside0 (w54.heap[gb149]? = some (.cells #[.slice Ao11 t142.length co11,.int .i64 t145,.int .i64 t146,.int .i64 t147,.int .i64 t148] 28 (0,0))):=⟨(by rw [hw];exact (bf BK149))⟩;have n4_:Aside0 (w54.heap[gb154]? = some (.cells #[.int .i64 ((rd_T97 l0_0 a1).f0),.int .i64 ((rd_T97 l0_0 a1).f1),.int .i64 ((rd_T97 l0_0 a1).f2),.bool ((rd_T97 l0_0 a1).f3)] 97 (0,0))):=⟨(by rw [hw];exact (by (with_reducible repeat (first|refine blk_drewN ?_ _|refine blk_drew ?_|refine blk_alloc ?_ _));refine blk_put (cs:=#[.int .i64 ((rd_T97 l0_0 a1).f0),.int .i64 ((rd_T97 l0_0 a1).f1),.int .i64 ((rd_T97 l0_0 a1).f2),.bool false]) ?_ 3 _ rfl;(with_reducible repeat (first|refine blk_drewN ?_ _|refine blk_drew ?_|refine blk_alloc ?_ _));refine blk_put (cs:=#[.int .i64 ((rd_T97 l0_0 a1).f0),.int .i64 ((rd_T97 l0_0 a1).f1),.int .i64 0,.bool false]) ?_ 2 _ rfl;(with_reducible repeat (first|refine blk_drewN ?_ _|refine blk_drew ?_|refine blk_alloc ?_ _));refine blk_put (cs:=#[.int .i64 ((rd_T97 l0_0 a1).f0),.int .i64 0,.int .i64 0,.bool false]) ?_ 1 _ rfl;(with_reducible repeat (first|refine blk_drewN ?_ _|refine blk_drew ?_|refine blk_alloc ?_ _));refine blk_put (cs:=#[.int .i64 0,.int .i64 0,.int .i64 0,.bool false]) ?_ 0 _ rfl;(with_reducible repeat (first|refine blk_drewN ?_ _|refine blk_drew ?_|refine blk_alloc ?_ _));exact BK154.out))⟩;have n5_:Aside0 (Below w.heap.size w w54):=⟨(by rw [hw];exact bl)⟩;clear hw;clear HO_150000;clear BK140;clear BK141;clear BK149;clear BK154;clear HB;have HO_150000:=n0_;have BK140:=n1_;have BK141:=n2_;have BK149:=n3_;have BK154:=n4_;have HB:=n5_;clear n0_ n1_ n2_ n3_ n4_ n5_;obtain ⟨hcz55_0,hcz55_1,hcz55_2,hcz55_3,hfz55_0,hfz55_1,hfz55_2,hfz55_3⟩:=ck4 BK154.out;have hnb56:=NB149_141.out;have hnc56:=NB141_149.out;obtain ⟨hcz57_0,hcz57_1,hcz57_2,hcz57_3,hcz57_4,hfz57_0,hfz57_1,hfz57_2,hfz57_3,hfz57_4⟩:=ck5 BK149.out)|((with_reducible refine gate_store (t:=3) (p:=38) rfl ?_);refine sx 3 38 (w54.setCell ⟨gb149,1,none⟩ (.int .i64 ((rd_T97 l0_0 a1).f2))) ?_;intro w58 hw;have n0_:Aside0 (Kd.R k97 97 w58 w.heap.size (fun k_=>k_≠gb154) (.slice Ao11 t142.length co11) t142):=⟨(by rw [hw];exact (by (with_reducible repeat (first|apply Kd.R_alloc|apply Kd.R_drewN|apply Kd.R_drew));exact Kd.R_mono (Kd.R_far (p:=⟨gb149,1,none⟩) (Kd.R_types HO_150000.out BK149.out (by decide)) (fun _ hk=>hk.2) (.int .i64 ((rd_T97 l0_0 a1).f2))) (fun _ hk=>hk.1)))⟩;have n1_:Aside0 (w58.heap[gb140]? = some (.cells #[.slice (some ad153) l0_0.length c0_0,.int .i64 a0_1,.int .i64 a0_2,.int .i64 a0_3,.int .i64 a0_4] 28 (0,0))):=⟨(by rw [hw];exact (bf BK140))⟩;have n2_:Aside0 (w58.heap[gb141]? = some (.cells #[.slice none 0 0,.int .i64 0,.int .i64 0,.int .i64 0,.int .i64 0] 28 (0,0))):=⟨(by rw [hw];exact (bf BK141))⟩;have n3_:Aside0 (w58.heap[gb149]? = some (.cells #[.slice Ao11 t142.length co11,.int .i64 ((rd_T97 l0_0 a1).f2),.int .i64 t146,.int .i64 t147,.int .i64 t148] 28 (0,0))):=⟨(by rw [hw];exact (by (with_reducible repeat (first|refine blk_drewN ?_ _|refine blk_drew ?_|refine blk_alloc ?_ _));refine blk_put (cs:=#[.slice Ao11 t142.length co11,.int .i64 t145,.int .i64 t146,.int .i64 t147,.int .i64 t148]) ?_ 1 _ rfl;(with_reducible repeat (first|refine blk_drewN ?_ _|refine blk_drew ?_|refine blk_alloc ?_ _));exact BK149.out))⟩;have n4_:Aside0 (w58.heap[gb154]? = some (.cells #[.int .i64 ((rd_T97 l0_0 a1).f0),.int .i64 ((rd_T97 l0_0 a1).f1),.int .i64 ((rd_T97 l0_0 a1).f2),.bool ((rd_T97 l0_0 a1).f3)] 97 (0,0))):=⟨(by rw [hw];exact (bf BK154))⟩;have n5_:Aside0 (Below w.heap.size w w58):=⟨(by rw [hw];exact bl)⟩;clear hw;clear HO_150000;clear BK140;clear BK141;clear BK149;clear BK154;clear HB;have HO_150000:=n0_;have BK140:=n1_;have BK141:=n2_;have BK149:=n3_;have BK154:=n4_;have HB:=n5_;clear n0_ n1_ n2_ n3_ n4_ n5_;obtain ⟨hcz59_0,hcz59_1,hcz59_2,hcz59_3,hfz59_0,hfz59_1,hfz59_2,hfz59_3⟩:=ck4 BK154.out;obtain ⟨hcz60_0,hcz60_1,hcz60_2,hcz60_3,hcz60_4,hfz60_0,hfz60_1,hfz60_2,hfz60_3,hfz60_4⟩:=ck5 BK149.out)|((with_reducible refine gate_store (t:=3) (p:=52) rfl ?_);refine sx 3 52 (w58.setCell ⟨gb149,2,none⟩ (.int .i64 ((rd_T97 l0_0 a1).f1))) ?_;intro w61 hw;have n0_:Aside0 (Kd.R k97 97 w61 w.heap.size (fun k_=>k_≠gb154) (.slice Ao11 t142.length co11) t142):=⟨(by rw [hw];exact (by (with_reducible repeat (first|apply Kd.R_alloc|apply Kd.R_drewN|apply Kd.R_drew));exact Kd.R_mono (Kd.R_far (p:=⟨gb149,2,none⟩) (Kd.R_types HO_150000.out BK149.out (by decide)) (fun _ hk=>hk.2) (.int .i64 ((rd_T97 l0_0 a1).f1))) (fun _ hk=>hk.1)))⟩;have n1_:Aside0 (w61.heap[gb140]? = some (.cells #[.slice (some ad153) l0_0.length c0_0,.int .i64 a0_1,.int .i64 a0_2,.int .i64 a0_3,.int .i64 a0_4] 28 (0,0))):=⟨(by rw [hw];exact (bf BK140))⟩;have n2_:Aside0 (w61.heap[gb141]? = some (.cells #[.slice none 0 0,.int .i64 0,.int .i64 0,.int .i64 0,.int .i64 0] 28 (0,0))):=⟨(by rw [hw];exact (bf BK141))⟩;have n3_:Aside0 (w61.heap[gb149]? = some (.cells #[.slice Ao11 t142.length co11,.int .i64 ((rd_T97 l0_0 a1).f2),.int .i64 ((rd_T97 l0_0 a1).f1),.int .i64 t147,.int .i64 t148] 28 (0,0))):=⟨(by rw [hw];exact (by (with_reducible repeat (first|refine blk_drewN ?_ _|refine blk_drew ?_|refine blk_alloc ?_ _));refine blk_put (cs:=#[.slice Ao11 t142.length co11,.int .i64 ((rd_T97 l0_0 a1).f2),.int .i64 t146,.int .i64 t147,.int .i64 t148]) ?_ 2 _ rfl;(with_reducible repeat (first|refine blk_drewN ?_ _|refine blk_drew ?_|refine blk_alloc ?_ _));exact BK149.out))⟩;have n4_:Aside0 (w61.heap[gb154]? = some (.cells #[.int .i64 ((rd_T97 l0_0 a1).f0),.int .i64 ((rd_T97 l0_0 a1).f1),.int .i64 ((rd_T97 l0_0 a1).f2),.bool ((rd_T97 l0_0 a1).f3)] 97 (0,0))):=⟨(by rw [hw];exact (bf BK154))⟩;have n5_:Aside0 (Below w.heap.size w w61):=⟨(by rw [hw];exact bl)⟩;clear hw;clear HO_150000;clear BK140;clear BK141;clear BK149;clear BK154;clear HB;have HO_150000:=n0_;have BK140:=n1_;have BK141:=n2_;have BK149:=n3_;have BK154:=n4_;have HB:=n5_;clear n0_ n1_ n2_ n3_ n4_ n5_;obtain ⟨hcz62_0,hcz62_1,hcz62_2,hcz62_3,hcz62_4,hfz62_0,hfz62_1,hfz62_2,hfz62_3,hfz62_4⟩:=ck5 BK149.out;obtain ⟨hcz63_0,hcz63_1,hcz63_2,hcz63_3,hcz63_4,hfz63_0,hfz63_1,hfz63_2,hfz63_3,hfz63_4⟩:=ck5 BK140.out;have p45:0≤(a1:Int):=of_decide_eq_true (by first|(with_reducible assumption)|assumption);have q45:(a1:Int) < ((t142.length:Int):Int):=of_decide_eq_true (by first|(with_reducible assumption)|assumption);obtain ⟨go45,co45,eo45,gb45,gl45,cl45,HG45⟩:=Kd.R_form HO_150000.out (by omega);(first|cases eo45|(injection eo45 with ea_ en_ ec_;(first|subst ea_|(injection ea_ with ea_;subst ea_));subst ec_;clear en_));have GB45:=Aside0.mk gb45;have GG45:=Aside0.mk HG45;clear gb45 gl45 HG45;obtain ⟨ce45,hcl45,hM45,hcc45,hfr45⟩:=Kd.R_elem HO_150000.out z97 (a1:Int) p45 q45;obtain rfl:=k97_openM hM45;have hx45_0:w61.cell? ⟨go45,(a1:Int).toNat * 4,none⟩=some (.int .i64 ((rd_T97 t142 a1).f0)):=hcc45 0 _ rfl;have hx45_1:w61.cell? ⟨go45,(a1:Int).toNat * 4 + 1,none⟩=some (.int .i64 ((rd_T97 t142 a1).f1)):=hcc45 1 _ rfl;have hx45_2:w61.cell? ⟨go45,(a1:Int).toNat * 4 + 2,none⟩=some (.int .i64 ((rd_T97 t142 a1).f2)):=hcc45 2 _ rfl;have hx45_3:w61.cell? ⟨go45,(a1:Int).toNat * 4 + 3,none⟩=some (.bool ((rd_T97 t142 a1).f3)):=hcc45 3 _ rfl;have hf45_0:w61.frozen? ⟨go45,(a1:Int).toNat * 4,none⟩=false:=hfr45 0;have hf45_1:w61.frozen? ⟨go45,(a1:Int).toNat * 4 + 1,none⟩=false:=hfr45 1;have hf45_2:w61.frozen? ⟨go45,(a1:Int).toNat * 4 + 2,none⟩=false:=hfr45 2;have hf45_3:w61.frozen? ⟨go45,(a1:Int).toNat * 4 + 3,none⟩=false:=hfr45 3;clear hcl45 hcc45 hfr45 hM45;replace p45:=eq_true p45;replace q45:=eq_true q45;have HX64:=Aside0.mk (show Kd.R k97 97 w61 w.heap.size (fun k_=>k_≠gb154) (.slice (some ⟨go45,0,none⟩) t142.length co11) t142 from (kr HO_150000));obtain ⟨ce64,hcl64,hM64,hcc64,hfr64⟩:=Kd.R_elem HX64.out z97 (a1:Int) (of_decide_eq_true (by first|(with_reducible assumption)|assumption)) (by have h_:(a1:Int) < ((t142.length:Int):Int):=of_decide_eq_true (by first|(with_reducible assumption)|assumption);first|exact h_|(have e_:=(Kd.R_reads' HO_150000.out).1;omega)|simpa using h_);obtain rfl:=k97_openM hM64;have HP64:=Kd.R_seg HX64.out (a1:Int) (of_decide_eq_true (by first|(with_reducible assumption)|assumption)) (by have h_:(a1:Int) < ((t142.length:Int):Int):=of_decide_eq_true (by first|(with_reducible assumption)|assumption);first|exact h_|(have e_:=(Kd.R_reads' HO_150000.out).1;omega)|simpa using h_) (seg:=[.int .i64 0,.int .i64 (-1),.int .i64 a0_3,.bool false]) (j:=0) hcl64 hcc64 (show 4≤4 from by decide) (x':=(⟨0,(-1),a0_3,false⟩:S97)) (k97_mkM _ _ _ (⟨0,(-1),a0_3,false⟩:S97) ) (fun _ hk=>hk);have hx64_0:=hcc64 0 _ rfl;(try simp only [show (k97).sz=4 from rfl,Nat.mul_one,Nat.add_zero] at hx64_0);have hf64_0:=hfr64 0;(try simp only [show (k97).sz=4 from rfl,Nat.mul_one,Nat.add_zero] at hf64_0);have hx64_1:=hcc64 1 _ rfl;(try simp only [show (k97).sz=4 from rfl,Nat.mul_one,Nat.add_zero] at hx64_1);have hf64_1:=hfr64 1;(try simp only [show (k97).sz=4 from rfl,Nat.mul_one,Nat.add_zero] at hf64_1);have hx64_2:=hcc64 2 _ rfl;(try simp only [show (k97).sz=4 from rfl,Nat.mul_one,Nat.add_zero] at hx64_2);have hf64_2:=hfr64 2;(try simp only [show (k97).sz=4 from rfl,Nat.mul_one,Nat.add_zero] at hf64_2);have hx64_3:=hcc64 3 _ rfl;(try simp only [show (k97).sz=4 from rfl,Nat.mul_one,Nat.add_zero] at hx64_3);have hf64_3:=hfr64 3;(try simp only [show (k97).sz=4 from rfl,Nat.mul_one,Nat.add_zero] at hf64_3);clear hcl64 hcc64 hfr64 hM64)|((with_reducible refine gate_store (t:=97) (p:=67) rfl ?_);refine sx 97 67 ((((w61.setCell ⟨go45,(a1:Int).toNat * 4,none⟩ (.int .i64 0)).setCell ⟨go45,(a1:Int).toNat * 4 + 1,none⟩ (.int .i64 (-1))).setCell ⟨go45,(a1:Int).toNat * 4 + 2,none⟩ (.int .i64 a0_3)).setCell ⟨go45,(a1:Int).toNat * 4 + 3,none⟩ (.bool false)) ?_;intro w65 hw;have hg:w61.grownBy w65 (some go45):=(by rw [hw];exact HP64.2);have hp_:Kd.R k97 97 w65 w.heap.size (fun k_=>k_≠gb154) (.slice (some ⟨go45,0,none⟩) t142.length co11) y155:=(by rw [hw,Ny155.out];exact HP64.1);clear HP64;replace BK140:=Aside0.mk (blk_grown (bk BK140) hg (Kd.R_ne HO_150000.out BK140.out (by decide)));replace BK141:=Aside0.mk (blk_grown (bk BK141) hg (Kd.R_ne HO_150000.out BK141.out (by decide)));replace BK149:=Aside0.mk (blk_grown (bk BK149) hg (Kd.R_ne HO_150000.out BK149.out (by decide)));replace BK154:=Aside0.mk (blk_grown (bk BK154) hg (Kd.R_away HO_150000.out (fun _ hk=>hk)));replace HO_150000:=Aside0.mk (hp_);replace HB:=Aside0.mk ((by rw [hw];exact below_set (below_set (below_set (below_set (HB.out) GB45.out) GB45.out) GB45.out) GB45.out:Below w.heap.size w w65));clear hg hw hp_;obtain ⟨hcz66_0,hcz66_1,hcz66_2,hcz66_3,hcz66_4,hfz66_0,hfz66_1,hfz66_2,hfz66_3,hfz66_4⟩:=ck5 BK149.out;obtain ⟨hcz67_0,hcz67_1,hcz67_2,hcz67_3,hcz67_4,hfz67_0,hfz67_1,hfz67_2,hfz67_3,hfz67_4⟩:=ck5 BK140.out))
         have n0_:Aside0 (Kd.R k97 97 ((w65.setCell ⟨gb149,3,none⟩ (.int .i64 a1)).setCell ⟨gb149,4,none⟩ (.int .i64 (wrap64 (a0_4 - 1)))) w.heap.size (fun k_=>k_≠gb154) (.slice (some ⟨go45,0,none⟩) t142.length co11) y155):=⟨by (with_reducible repeat (first|apply Kd.R_alloc|apply Kd.R_drewN|apply Kd.R_drew));exact Kd.R_mono (Kd.R_far (p:=⟨gb149,4,none⟩) (Kd.R_far (p:=⟨gb149,3,none⟩) (Kd.R_types HO_150000.out BK149.out (by decide)) (fun _ hk=>hk.2) (.int .i64 a1)) (fun _ hk=>hk.2) (.int .i64 (wrap64 (a0_4 - 1)))) (fun _ hk=>hk.1)⟩
         have n1_:Aside0 (((w65.setCell ⟨gb149,3,none⟩ (.int .i64 a1)).setCell ⟨gb149,4,none⟩ (.int .i64 (wrap64 (a0_4 - 1)))).heap[gb140]? = some (.cells #[.slice (some ad153) l0_0.length c0_0,.int .i64 a0_1,.int .i64 a0_2,.int .i64 a0_3,.int .i64 a0_4] 28 (0,0))):=⟨bf BK140⟩
         have n2_:Aside0 (((w65.setCell ⟨gb149,3,none⟩ (.int .i64 a1)).setCell ⟨gb149,4,none⟩ (.int .i64 (wrap64 (a0_4 - 1)))).heap[gb141]? = some (.cells #[.slice none 0 0,.int .i64 0,.int .i64 0,.int .i64 0,.int .i64 0] 28 (0,0))):=⟨bf BK141⟩
         have n3_:Aside0 (((w65.setCell ⟨gb149,3,none⟩ (.int .i64 a1)).setCell ⟨gb149,4,none⟩ (.int .i64 (wrap64 (a0_4 - 1)))).heap[gb149]? = some (.cells #[.slice (some ⟨go45,0,none⟩) t142.length co11,.int .i64 ((rd_T97 l0_0 a1).f2),.int .i64 ((rd_T97 l0_0 a1).f1),.int .i64 a1,.int .i64 (wrap64 (a0_4 - 1))] 28 (0,0))):=⟨by (with_reducible repeat (first|refine blk_drewN ?_ _|refine blk_drew ?_|refine blk_alloc ?_ _));refine blk_put (cs:=#[.slice (some ⟨go45,0,none⟩) t142.length co11,.int .i64 ((rd_T97 l0_0 a1).f2),.int .i64 ((rd_T97 l0_0 a1).f1),.int .i64 a1,.int .i64 t148]) ?_ 4 _ rfl;(with_reducible repeat (first|refine blk_drewN ?_ _|refine blk_drew ?_|refine blk_alloc ?_ _));refine blk_put (cs:=#[.slice (some ⟨go45,0,none⟩) t142.length co11,.int .i64 ((rd_T97 l0_0 a1).f2),.int .i64 ((rd_T97 l0_0 a1).f1),.int .i64 t147,.int .i64 t148]) ?_ 3 _ rfl;(with_reducible repeat (first|refine blk_drewN ?_ _|refine blk_drew ?_|refine blk_alloc ?_ _));exact BK149.out⟩
         have n4_:Aside0 (((w65.setCell ⟨gb149,3,none⟩ (.int .i64 a1)).setCell ⟨gb149,4,none⟩ (.int .i64 (wrap64 (a0_4 - 1)))).heap[gb154]? = some (.cells #[.int .i64 ((rd_T97 l0_0 a1).f0),.int .i64 ((rd_T97 l0_0 a1).f1),.int .i64 ((rd_T97 l0_0 a1).f2),.bool ((rd_T97 l0_0 a1).f3)] 97 (0,0))):=⟨bf BK154⟩
         have n5_:Aside0 (Below w.heap.size w ((w65.setCell ⟨gb149,3,none⟩ (.int .i64 a1)).setCell ⟨gb149,4,none⟩ (.int .i64 (wrap64 (a0_4 - 1))))):=⟨bl⟩
         (try clear HO_150000)
         (try clear BK140)
         (try clear BK141)
         (try clear BK149)
         (try clear BK154)
         (try clear HB)
         generalize ((w65.setCell ⟨gb149,3,none⟩ (.int .i64 a1)).setCell ⟨gb149,4,none⟩ (.int .i64 (wrap64 (a0_4 - 1))))=w68 at n0_ n1_ n2_ n3_ n4_ n5_ ⊢
         have HO_150000:=n0_
         have BK140:=n1_
         have BK141:=n2_
         have BK149:=n3_
         have BK154:=n4_
         have HB:=n5_
         clear n0_ n1_ n2_ n3_ n4_ n5_
         replace HO_150000:=Aside0.mk (Kd.R_drew HO_150000.out)
         replace BK140:=Aside0.mk (blk_drew BK140.out)
         replace BK141:=Aside0.mk (blk_drew BK141.out)
         replace BK149:=Aside0.mk (blk_drew BK149.out)
         replace BK154:=Aside0.mk (blk_drew BK154.out)
         replace HB:=Aside0.mk (below_drew1 HB.out)
         refine start_ (n:=5) (S:=fun w'=>w'.cell? ⟨gb149,0,none⟩=some (.slice (some ⟨go45,0,none⟩) t142.length co11)∧w'.cell? ⟨gb149,1,none⟩=some (.int .i64 ((rd_T97 l0_0 a1).f2))∧w'.cell? ⟨gb149,2,none⟩=some (.int .i64 ((rd_T97 l0_0 a1).f1))∧w'.cell? ⟨gb149,3,none⟩=some (.int .i64 a1)∧w'.cell? ⟨gb149,4,none⟩=some (.int .i64 (wrap64 (a0_4 - 1)))∧w'.cell? ⟨gb154,0,none⟩=some (.int .i64 ((rd_T97 l0_0 a1).f0))∧w'.cell? ⟨gb154,1,none⟩=some (.int .i64 ((rd_T97 l0_0 a1).f1))∧w'.cell? ⟨gb154,2,none⟩=some (.int .i64 ((rd_T97 l0_0 a1).f2))∧w'.cell? ⟨gb154,3,none⟩=some (.bool ((rd_T97 l0_0 a1).f3))) (ds:=[]) (bs 5 0) (by kernel_rfl) rfl rfl ⟨bc BK149 0,bc BK149 1,bc BK149 2,bc BK149 3,bc BK149 4,bc BK154 0,bc BK154 1,bc BK154 2,bc BK154 3⟩ (fun hHeld=>?_)
         generalize w68.drew=w69 at HO_150000 BK140 BK141 BK149 BK154 HB hHeld ⊢
         refine pk 1 75 (bs 5 2) ?_
         refine tk 0 74 (bs 5 3) hHeld ?_
         refine tk 2 76 (bs 5 7) hHeld ?_
         refine one_ (i:=3) (N:=none) (bs 5 15) rfl rfl (by kernel_rfl) (by decide) (fun K hK=>?_)
         have hs70:w69.cell? ⟨gb141,0,none⟩=some (.slice none 0 0):=(blk_cell BK141.out 0).trans rfl
         have hfs70:=blk_frozen BK141.out 0
         have hns70_0:=NB140_141.out
         have hns70_2:=NB149_141.out
         have hns70_3:=NB154_141.out
         have hms70_0:=NB141_140.out
         have hms70_2:=NB141_149.out
         have hms70_3:=NB141_154.out
         have hs71:w69.cell? ⟨gb141,1,none⟩=some (.int .i64 0):=(blk_cell BK141.out 1).trans rfl
         have hfs71:=blk_frozen BK141.out 1
         have hns71_0:=NB140_141.out
         have hns71_2:=NB149_141.out
         have hns71_3:=NB154_141.out
         have hms71_0:=NB141_140.out
         have hms71_2:=NB141_149.out
         have hms71_3:=NB141_154.out
         have hs72:w69.cell? ⟨gb141,2,none⟩=some (.int .i64 0):=(blk_cell BK141.out 2).trans rfl
         have hfs72:=blk_frozen BK141.out 2
         have hns72_0:=NB140_141.out
         have hns72_2:=NB149_141.out
         have hns72_3:=NB154_141.out
         have hms72_0:=NB141_140.out
         have hms72_2:=NB141_149.out
         have hms72_3:=NB141_154.out
         have hs73:w69.cell? ⟨gb141,3,none⟩=some (.int .i64 0):=(blk_cell BK141.out 3).trans rfl
         have hfs73:=blk_frozen BK141.out 3
         have hns73_0:=NB140_141.out
         have hns73_2:=NB149_141.out
         have hns73_3:=NB154_141.out
         have hms73_0:=NB141_140.out
         have hms73_2:=NB141_149.out
         have hms73_3:=NB141_154.out
         have hs74:w69.cell? ⟨gb141,4,none⟩=some (.int .i64 0):=(blk_cell BK141.out 4).trans rfl
         have hfs74:=blk_frozen BK141.out 4
         have hns74_0:=NB140_141.out
         have hns74_2:=NB149_141.out
         have hns74_3:=NB154_141.out
         have hms74_0:=NB141_140.out
         have hms74_2:=NB141_149.out
         have hms74_3:=NB141_154.out
         refine skip_ (w1:=?_) (by rfl) rfl ?_ ?_
         rotate_left
         ·go_simp
          rfl
         refine hK.out _ _ ⟨((cell_far (p:=⟨gb141,_,none⟩) NB149_141.out _).trans (((cell_far (p:=⟨gb141,_,none⟩) NB149_141.out _).trans (((cell_far (p:=⟨gb141,_,none⟩) NB149_141.out _).trans (((cell_far (p:=⟨gb141,_,none⟩) NB149_141.out _).trans (((cell_far (p:=⟨gb141,_,none⟩) NB149_141.out _).trans (hHeld.1)))))))))),((cell_far (p:=⟨gb141,_,none⟩) NB149_141.out _).trans (((cell_far (p:=⟨gb141,_,none⟩) NB149_141.out _).trans (((cell_far (p:=⟨gb141,_,none⟩) NB149_141.out _).trans (((cell_far (p:=⟨gb141,_,none⟩) NB149_141.out _).trans (((cell_far (p:=⟨gb141,_,none⟩) NB149_141.out _).trans (hHeld.2.1)))))))))),((cell_far (p:=⟨gb141,_,none⟩) NB149_141.out _).trans (((cell_far (p:=⟨gb141,_,none⟩) NB149_141.out _).trans (((cell_far (p:=⟨gb141,_,none⟩) NB149_141.out _).trans (((cell_far (p:=⟨gb141,_,none⟩) NB149_141.out _).trans (((cell_far (p:=⟨gb141,_,none⟩) NB149_141.out _).trans (hHeld.2.2.1)))))))))),((cell_far (p:=⟨gb141,_,none⟩) NB149_141.out _).trans (((cell_far (p:=⟨gb141,_,none⟩) NB149_141.out _).trans (((cell_far (p:=⟨gb141,_,none⟩) NB149_141.out _).trans (((cell_far (p:=⟨gb141,_,none⟩) NB149_141.out _).trans (((cell_far (p:=⟨gb141,_,none⟩) NB149_141.out _).trans (hHeld.2.2.2.1)))))))))),((cell_far (p:=⟨gb141,_,none⟩) NB149_141.out _).trans (((cell_far (p:=⟨gb141,_,none⟩) NB149_141.out _).trans (((cell_far (p:=⟨gb141,_,none⟩) NB149_141.out _).trans (((cell_far (p:=⟨gb141,_,none⟩) NB149_141.out _).trans (((cell_far (p:=⟨gb141,_,none⟩) NB149_141.out _).trans (hHeld.2.2.2.2.1)))))))))),((cell_far (p:=⟨gb141,_,none⟩) NB154_141.out _).trans (((cell_far (p:=⟨gb141,_,none⟩) NB154_141.out _).trans (((cell_far (p:=⟨gb141,_,none⟩) NB154_141.out _).trans (((cell_far (p:=⟨gb141,_,none⟩) NB154_141.out _).trans (((cell_far (p:=⟨gb141,_,none⟩) NB154_141.out _).trans (hHeld.2.2.2.2.2.1)))))))))),((cell_far (p:=⟨gb141,_,none⟩) NB154_141.out _).trans (((cell_far (p:=⟨gb141,_,none⟩) NB154_141.out _).trans (((cell_far (p:=⟨gb141,_,none⟩) NB154_141.out _).trans (((cell_far (p:=⟨gb141,_,none⟩) NB154_141.out _).trans (((cell_far (p:=⟨gb141,_,none⟩) NB154_141.out _).trans (hHeld.2.2.2.2.2.2.1)))))))))),((cell_far (p:=⟨gb141,_,none⟩) NB154_141.out _).trans (((cell_far (p:=⟨gb141,_,none⟩) NB154_141.out _).trans (((cell_far (p:=⟨gb141,_,none⟩) NB154_141.out _).trans (((cell_far (p:=⟨gb141,_,none⟩) NB154_141.out _).trans (((cell_far (p:=⟨gb141,_,none⟩) NB154_141.out _).trans (hHeld.2.2.2.2.2.2.2.1)))))))))),((cell_far (p:=⟨gb141,_,none⟩) NB154_141.out _).trans (((cell_far (p:=⟨gb141,_,none⟩) NB154_141.out _).trans (((cell_far (p:=⟨gb141,_,none⟩) NB154_141.out _).trans (((cell_far (p:=⟨gb141,_,none⟩) NB154_141.out _).trans (((cell_far (p:=⟨gb141,_,none⟩) NB154_141.out _).trans (hHeld.2.2.2.2.2.2.2.2))))))))))⟩ (fun hHeld=>?_)
         clear hK K
         refine pk 4 5 (bs 5 31) ?_
         refine done_ (by kernel_rfl) ?_
         try go_wp2
         refine bodyPost_ret (results_ct rfl _ _ gb141 28 #[.slice (some ⟨go45,0,none⟩) t142.length co11,.int .i64 ((rd_T97 l0_0 a1).f2),.int .i64 ((rd_T97 l0_0 a1).f1),.int .i64 a1,.int .i64 (wrap64 (a0_4 - 1))] (0,0) _ rfl (by (with_reducible repeat (first|refine blk_drewN ?_ _|refine blk_drew ?_|refine blk_alloc ?_ _));refine blk_put (cs:=#[.slice (some ⟨go45,0,none⟩) t142.length co11,.int .i64 ((rd_T97 l0_0 a1).f2),.int .i64 ((rd_T97 l0_0 a1).f1),.int .i64 a1,.int .i64 0]) ?_ 4 _ rfl;(with_reducible repeat (first|refine blk_drewN ?_ _|refine blk_drew ?_|refine blk_alloc ?_ _));refine blk_put (cs:=#[.slice (some ⟨go45,0,none⟩) t142.length co11,.int .i64 ((rd_T97 l0_0 a1).f2),.int .i64 ((rd_T97 l0_0 a1).f1),.int .i64 0,.int .i64 0]) ?_ 3 _ rfl;(with_reducible repeat (first|refine blk_drewN ?_ _|refine blk_drew ?_|refine blk_alloc ?_ _));refine blk_put (cs:=#[.slice (some ⟨go45,0,none⟩) t142.length co11,.int .i64 ((rd_T97 l0_0 a1).f2),.int .i64 0,.int .i64 0,.int .i64 0]) ?_ 2 _ rfl;(with_reducible repeat (first|refine blk_drewN ?_ _|refine blk_drew ?_|refine blk_alloc ?_ _));refine blk_put (cs:=#[.slice (some ⟨go45,0,none⟩) t142.length co11,.int .i64 0,.int .i64 0,.int .i64 0,.int .i64 0]) ?_ 1 _ rfl;(with_reducible repeat (first|refine blk_drewN ?_ _|refine blk_drew ?_|refine blk_alloc ?_ _));refine blk_put (cs:=#[.slice none 0 0,.int .i64 0,.int .i64 0,.int .i64 0,.int .i64 0]) ?_ 0 _ rfl;(with_reducible repeat (first|refine blk_drewN ?_ _|refine blk_drew ?_|refine blk_alloc ?_ _));exact BK141.out) Try.underlying28 rfl (by kernel_rfl)) rfl ?_
         exact ⟨_,by first|rfl|(simp [errW_none,errW_some] <;> rfl)|(simp [*,errW_none,errW_some] <;> rfl),by (with_reducible repeat (first|apply Kd.R_alloc|apply Kd.R_drewN|apply Kd.R_drew));exact Kd.R_mono (Kd.R_far (p:=⟨gb141,4,none⟩) (Kd.R_far (p:=⟨gb141,3,none⟩) (Kd.R_far (p:=⟨gb141,2,none⟩) (Kd.R_far (p:=⟨gb141,1,none⟩) (Kd.R_far (p:=⟨gb141,0,none⟩) (Kd.R_types HO_150000.out BK141.out (by decide)) (fun _ hk=>hk.2) (.slice (some ⟨go45,0,none⟩) t142.length co11)) (fun _ hk=>hk.2) (.int .i64 ((rd_T97 l0_0 a1).f2))) (fun _ hk=>hk.2) (.int .i64 ((rd_T97 l0_0 a1).f1))) (fun _ hk=>hk.2) (.int .i64 a1)) (fun _ hk=>hk.2) (.int .i64 (wrap64 (a0_4 - 1)))) (fun _ hk=>trivial),bl⟩
        ·rw [if_neg c44] at H
         exact absurd H (by simp)
       ·rw [if_neg c43] at H
        have c43b0:(((rd_T97 l0_0 a1).f2) == (-1))=false:=beq_eq_false_iff_ne.mpr c43
        have c43b1:(((rd_T97 l0_0 a1).f2) != (-1))=true:=bne_iff_ne.mpr c43
        by_cases c75:0≤((rd_T97 l0_0 a1).f2)
        ·rw [if_pos c75] at H
         have c75b0:decide (0≤((rd_T97 l0_0 a1).f2))=true:=decide_eq_true c75
         clear c75
         by_cases c76:((rd_T97 l0_0 a1).f2) < (t142.length:Int)
         ·rw [if_pos c76] at H
          have c76b0:decide (((rd_T97 l0_0 a1).f2) < (t142.length:Int))=true:=decide_eq_true c76
          clear c76
          obtain ⟨y156,hy156⟩:∃ y_:List (S97),y_=(t142.set (((rd_T97 l0_0 a1).f2):Int).toNat (⟨(rd_T97 t142 ((rd_T97 l0_0 a1).f2)).f0,(rd_T97 l0_0 a1).f1,(rd_T97 t142 ((rd_T97 l0_0 a1).f2)).f2,(rd_T97 t142 ((rd_T97 l0_0 a1).f2)).f3⟩:S97)):=⟨_,rfl⟩
          replace H:(if a1 < (t142.length:Int) then (some ((y156.set (a1:Int).toNat (⟨0,(-1),a0_3,false⟩:S97)),(rd_T97 l0_0 a1).f2,t146,a1,wrap64 (a0_4 - 1),(rd_T97 l0_0 a1).f0)) else (none))=some (r1,r2,r3,r4,r5,r6):=by first|(rw [hy156];with_reducible exact H)|(have H2_:=(Option.bind_some _ _).symm.trans H;rw [hy156];with_reducible exact H2_)|(have H2_:=(Option.bind_some _ _).symm.trans H;with_reducible exact H2_)|with_reducible exact H|(rw [hy156];exact H)|exact H
          have Ny156:=Aside0.mk hy156
          clear hy156
          by_cases c78:a1 < (t142.length:Int)
          ·rw [if_pos c78] at H
           have c78b0:decide (a1 < (t142.length:Int))=true:=decide_eq_true c78
           clear c78
           obtain ⟨y157,hy157⟩:∃ y_:List (S97),y_=(y156.set (a1:Int).toNat (⟨0,(-1),a0_3,false⟩:S97)):=⟨_,rfl⟩
           replace H:(some (y157,(rd_T97 l0_0 a1).f2,t146,a1,wrap64 (a0_4 - 1),(rd_T97 l0_0 a1).f0))=some (r1,r2,r3,r4,r5,r6):=by first|(rw [hy157];with_reducible exact H)|(have H2_:=(Option.bind_some _ _).symm.trans H;rw [hy157];with_reducible exact H2_)|(have H2_:=(Option.bind_some _ _).symm.trans H;with_reducible exact H2_)|with_reducible exact H|(rw [hy157];exact H)|exact H
           have Ny157:=Aside0.mk hy157
           clear hy157
           simp only [Option.some.injEq,Prod.mk.injEq] at H
           obtain ⟨rfl,rfl,rfl,rfl,rfl,rfl⟩:=H
           have hnb80:=NB140_141.out
           have hnc80:=NB141_140.out
           have hnb81:=NB140_149.out
           have hnc81:=NB149_140.out
           obtain ⟨hcz82_0,hcz82_1,hcz82_2,hcz82_3,hcz82_4,hfz82_0,hfz82_1,hfz82_2,hfz82_3,hfz82_4⟩:=ck5 BK140.out
           have p153:0≤(a1:Int):=of_decide_eq_true (by first|(with_reducible assumption)|assumption)
           have q153:a1 < (l0_0.length:Int):=of_decide_eq_true (by first|(with_reducible assumption)|assumption)
           obtain ⟨ad153,e153,hx153_0,hx153_1,hx153_2,hx153_3⟩:=at_T97 HR0_0.out a1 p153 q153
           cases e153
           replace hx153_0:=cl HB hx153_0
           replace hx153_1:=cl HB hx153_1
           replace hx153_2:=cl HB hx153_2
           replace hx153_3:=cl HB hx153_3
           replace p153:=eq_true p153
           replace q153:=eq_true q153
           try go_wp2_with (first|((with_reducible refine gate_dst (N:=7) rfl ?_);refine bx 7 #[.int .i64 0,.int .i64 0,.int .i64 0,.bool false] 97 ?_;intro gb154 hg w83 hbox hb;replace HO_150000:=Aside0.mk (Kd.R_below (Kd.R_elderB (kr HO_150000) gb154 (Nat.le_of_eq hg.symm)) hb);have BK154:=Aside0.mk (hbox);have GW154:=Aside0.mk (bz hg:w.heap.size≤gb154);have GE154:=GW154;replace HB:=Aside0.mk (below_step bl hb);have NB140_154:=Aside0.mk (nl hg BK140:gb140≠gb154);have NB154_140:=Aside0.mk (nr hg BK140:gb154≠gb140);replace BK140:=Aside0.mk (blk_below (bk BK140) hb);have NB141_154:=Aside0.mk (nl hg BK141:gb141≠gb154);have NB154_141:=Aside0.mk (nr hg BK141:gb154≠gb141);replace BK141:=Aside0.mk (blk_below (bk BK141) hb);have NB149_154:=Aside0.mk (nl hg BK149:gb149≠gb154);have NB154_149:=Aside0.mk (nr hg BK149:gb154≠gb149);replace BK149:=Aside0.mk (blk_below (bk BK149) hb);clear hb hbox hg;have hnb84:=NB154_140.out;have hnc84:=NB140_154.out;have hnb85:=NB154_141.out;have hnc85:=NB141_154.out;have hnb86:=NB154_149.out;have hnc86:=NB149_154.out;obtain ⟨hcz87_0,hcz87_1,hcz87_2,hcz87_3,hfz87_0,hfz87_1,hfz87_2,hfz87_3⟩:=ck4 BK154.out)|((with_reducible refine gate_store (t:=97) (p:=7) rfl ?_);refine sx 97 7 ((((w83.setCell ⟨gb154,0,none⟩ (.int .i64 ((rd_T97 l0_0 a1).f0))).setCell ⟨gb154,1,none⟩ (.int .i64 ((rd_T97 l0_0 a1).f1))).setCell ⟨gb154,2,none⟩ (.int .i64 ((rd_T97 l0_0 a1).f2))).setCell ⟨gb154,3,none⟩ (.bool ((rd_T97 l0_0 a1).f3))) ?_;intro w88 hw;have n0_:Aside0 (Kd.R k97 97 w88 w.heap.size (fun k_=>k_≠gb154) (.slice Ao11 t142.length co11) t142):=⟨(by rw [hw];exact (by (with_reducible repeat (first|apply Kd.R_alloc|apply Kd.R_drewN|apply Kd.R_drew));exact Kd.R_mono (Kd.R_far (p:=⟨gb154,3,none⟩) (Kd.R_far (p:=⟨gb154,2,none⟩) (Kd.R_far (p:=⟨gb154,1,none⟩) (Kd.R_far (p:=⟨gb154,0,none⟩) (Kd.R_mono HO_150000.out (fun k_ hk=>(⟨hk,hk.2⟩:_∧k_≠gb154))) (fun _ hk=>hk.2) (.int .i64 ((rd_T97 l0_0 a1).f0))) (fun _ hk=>hk.2) (.int .i64 ((rd_T97 l0_0 a1).f1))) (fun _ hk=>hk.2) (.int .i64 ((rd_T97 l0_0 a1).f2))) (fun _ hk=>hk.2) (.bool ((rd_T97 l0_0 a1).f3))) (fun _ hk=>hk.1.2)))⟩;have n1_:Aside0 (w88.heap[gb140]? = some (.cells #[.slice (some ad153) l0_0.length c0_0,.int .i64 a0_1,.int .i64 a0_2,.int .i64 a0_3,.int .i64 a0_4] 28 (0,0))):=⟨(by rw [hw];exact (bf BK140))⟩;have n2_:Aside0 (w88.heap[gb141]? = some (.cells #[.slice none 0 0,.int .i64 0,.int .i64 0,.int .i64 0,.int .i64 0] 28 (0,0))):=⟨(by rw [hw];exact (bf BK141))⟩;have n3_:Aside0 (w88.heap[gb149]? = some (.cells #[.slice Ao11 t142.length co11,.int .i64 t145,.int .i64 t146,.int .i64 t147,.int .i64 t148] 28 (0,0))):=⟨(by rw [hw];exact (bf BK149))⟩;have n4_:Aside0 (w88.heap[gb154]? = some (.cells #[.int .i64 ((rd_T97 l0_0 a1).f0),.int .i64 ((rd_T97 l0_0 a1).f1),.int .i64 ((rd_T97 l0_0 a1).f2),.bool ((rd_T97 l0_0 a1).f3)] 97 (0,0))):=⟨(by rw [hw];exact (by (with_reducible repeat (first|refine blk_drewN ?_ _|refine blk_drew ?_|refine blk_alloc ?_ _));refine blk_put (cs:=#[.int .i64 ((rd_T97 l0_0 a1).f0),.int .i64 ((rd_T97 l0_0 a1).f1),.int .i64 ((rd_T97 l0_0 a1).f2),.bool false]) ?_ 3 _ rfl;(with_reducible repeat (first|refine blk_drewN ?_ _|refine blk_drew ?_|refine blk_alloc ?_ _));refine blk_put (cs:=#[.int .i64 ((rd_T97 l0_0 a1).f0),.int .i64 ((rd_T97 l0_0 a1).f1),.int .i64 0,.bool false]) ?_ 2 _ rfl;(with_reducible repeat (first|refine blk_drewN ?_ _|refine blk_drew ?_|refine blk_alloc ?_ _));refine blk_put (cs:=#[.int .i64 ((rd_T97 l0_0 a1).f0),.int .i64 0,.int .i64 0,.bool false]) ?_ 1 _ rfl;(with_reducible repeat (first|refine blk_drewN ?_ _|refine blk_drew ?_|refine blk_alloc ?_ _));refine blk_put (cs:=#[.int .i64 0,.int .i64 0,.int .i64 0,.bool false]) ?_ 0 _ rfl;(with_reducible repeat (first|refine blk_drewN ?_ _|refine blk_drew ?_|refine blk_alloc ?_ _));exact BK154.out))⟩;have n5_:Aside0 (Below w.heap.size w w88):=⟨(by rw [hw];exact bl)⟩;clear hw;clear HO_150000;clear BK140;clear BK141;clear BK149;clear BK154;clear HB;have HO_150000:=n0_;have BK140:=n1_;have BK141:=n2_;have BK149:=n3_;have BK154:=n4_;have HB:=n5_;clear n0_ n1_ n2_ n3_ n4_ n5_;obtain ⟨hcz89_0,hcz89_1,hcz89_2,hcz89_3,hfz89_0,hfz89_1,hfz89_2,hfz89_3⟩:=ck4 BK154.out;have hnb90:=NB149_141.out;have hnc90:=NB141_149.out;obtain ⟨hcz91_0,hcz91_1,hcz91_2,hcz91_3,hcz91_4,hfz91_0,hfz91_1,hfz91_2,hfz91_3,hfz91_4⟩:=ck5 BK149.out)|((with_reducible refine gate_store (t:=3) (p:=38) rfl ?_);refine sx 3 38 (w88.setCell ⟨gb149,1,none⟩ (.int .i64 ((rd_T97 l0_0 a1).f2))) ?_;intro w92 hw;have n0_:Aside0 (Kd.R k97 97 w92 w.heap.size (fun k_=>k_≠gb154) (.slice Ao11 t142.length co11) t142):=⟨(by rw [hw];exact (by (with_reducible repeat (first|apply Kd.R_alloc|apply Kd.R_drewN|apply Kd.R_drew));exact Kd.R_mono (Kd.R_far (p:=⟨gb149,1,none⟩) (Kd.R_types HO_150000.out BK149.out (by decide)) (fun _ hk=>hk.2) (.int .i64 ((rd_T97 l0_0 a1).f2))) (fun _ hk=>hk.1)))⟩;have n1_:Aside0 (w92.heap[gb140]? = some (.cells #[.slice (some ad153) l0_0.length c0_0,.int .i64 a0_1,.int .i64 a0_2,.int .i64 a0_3,.int .i64 a0_4] 28 (0,0))):=⟨(by rw [hw];exact (bf BK140))⟩;have n2_:Aside0 (w92.heap[gb141]? = some (.cells #[.slice none 0 0,.int .i64 0,.int .i64 0,.int .i64 0,.int .i64 0] 28 (0,0))):=⟨(by rw [hw];exact (bf BK141))⟩;have n3_:Aside0 (w92.heap[gb149]? = some (.cells #[.slice Ao11 t142.length co11,.int .i64 ((rd_T97 l0_0 a1).f2),.int .i64 t146,.int .i64 t147,.int .i64 t148] 28 (0,0))):=⟨(by rw [hw];exact (by (with_reducible repeat (first|refine blk_drewN ?_ _|refine blk_drew ?_|refine blk_alloc ?_ _));refine blk_put (cs:=#[.slice Ao11 t142.length co11,.int .i64 t145,.int .i64 t146,.int .i64 t147,.int .i64 t148]) ?_ 1 _ rfl;(with_reducible repeat (first|refine blk_drewN ?_ _|refine blk_drew ?_|refine blk_alloc ?_ _));exact BK149.out))⟩;have n4_:Aside0 (w92.heap[gb154]? = some (.cells #[.int .i64 ((rd_T97 l0_0 a1).f0),.int .i64 ((rd_T97 l0_0 a1).f1),.int .i64 ((rd_T97 l0_0 a1).f2),.bool ((rd_T97 l0_0 a1).f3)] 97 (0,0))):=⟨(by rw [hw];exact (bf BK154))⟩;have n5_:Aside0 (Below w.heap.size w w92):=⟨(by rw [hw];exact bl)⟩;clear hw;clear HO_150000;clear BK140;clear BK141;clear BK149;clear BK154;clear HB;have HO_150000:=n0_;have BK140:=n1_;have BK141:=n2_;have BK149:=n3_;have BK154:=n4_;have HB:=n5_;clear n0_ n1_ n2_ n3_ n4_ n5_;obtain ⟨hcz93_0,hcz93_1,hcz93_2,hcz93_3,hfz93_0,hfz93_1,hfz93_2,hfz93_3⟩:=ck4 BK154.out;obtain ⟨hcz94_0,hcz94_1,hcz94_2,hcz94_3,hcz94_4,hfz94_0,hfz94_1,hfz94_2,hfz94_3,hfz94_4⟩:=ck5 BK149.out;have p77:0≤(((rd_T97 l0_0 a1).f2):Int):=of_decide_eq_true (by first|(with_reducible assumption)|assumption);have q77:(((rd_T97 l0_0 a1).f2):Int) < ((t142.length:Int):Int):=of_decide_eq_true (by first|(with_reducible assumption)|assumption);obtain ⟨go77,co77,eo77,gb77,gl77,cl77,HG77⟩:=Kd.R_form HO_150000.out (by omega);(first|cases eo77|(injection eo77 with ea_ en_ ec_;(first|subst ea_|(injection ea_ with ea_;subst ea_));subst ec_;clear en_));have GB77:=Aside0.mk gb77;have GG77:=Aside0.mk HG77;clear gb77 gl77 HG77;obtain ⟨ce77,hcl77,hM77,hcc77,hfr77⟩:=Kd.R_elem HO_150000.out z97 (((rd_T97 l0_0 a1).f2):Int) p77 q77;obtain rfl:=k97_openM hM77;have hx77_0:w92.cell? ⟨go77,(((rd_T97 l0_0 a1).f2):Int).toNat * 4,none⟩=some (.int .i64 ((rd_T97 t142 ((rd_T97 l0_0 a1).f2)).f0)):=hcc77 0 _ rfl;have hx77_1:w92.cell? ⟨go77,(((rd_T97 l0_0 a1).f2):Int).toNat * 4 + 1,none⟩=some (.int .i64 ((rd_T97 t142 ((rd_T97 l0_0 a1).f2)).f1)):=hcc77 1 _ rfl;have hx77_2:w92.cell? ⟨go77,(((rd_T97 l0_0 a1).f2):Int).toNat * 4 + 2,none⟩=some (.int .i64 ((rd_T97 t142 ((rd_T97 l0_0 a1).f2)).f2)):=hcc77 2 _ rfl;have hx77_3:w92.cell? ⟨go77,(((rd_T97 l0_0 a1).f2):Int).toNat * 4 + 3,none⟩=some (.bool ((rd_T97 t142 ((rd_T97 l0_0 a1).f2)).f3)):=hcc77 3 _ rfl;have hf77_0:w92.frozen? ⟨go77,(((rd_T97 l0_0 a1).f2):Int).toNat * 4,none⟩=false:=hfr77 0;have hf77_1:w92.frozen? ⟨go77,(((rd_T97 l0_0 a1).f2):Int).toNat * 4 + 1,none⟩=false:=hfr77 1;have hf77_2:w92.frozen? ⟨go77,(((rd_T97 l0_0 a1).f2):Int).toNat * 4 + 2,none⟩=false:=hfr77 2;have hf77_3:w92.frozen? ⟨go77,(((rd_T97 l0_0 a1).f2):Int).toNat * 4 + 3,none⟩=false:=hfr77 3;clear hcl77 hcc77 hfr77 hM77;replace p77:=eq_true p77;replace q77:=eq_true q77;have HX95:=Aside0.mk (show Kd.R k97 97 w92 w.heap.size (fun k_=>k_≠gb154) (.slice (some ⟨go77,0,none⟩) t142.length co11) t142 from (kr HO_150000));obtain ⟨ce95,hcl95,hM95,hcc95,hfr95⟩:=Kd.R_elem HX95.out z97 (((rd_T97 l0_0 a1).f2):Int) (of_decide_eq_true (by first|(with_reducible assumption)|assumption)) (by have h_:(((rd_T97 l0_0 a1).f2):Int) < ((t142.length:Int):Int):=of_decide_eq_true (by first|(with_reducible assumption)|assumption);first|exact h_|(have e_:=(Kd.R_reads' HO_150000.out).1;omega)|simpa using h_);obtain rfl:=k97_openM hM95;have HP95:=Kd.R_seg HX95.out (((rd_T97 l0_0 a1).f2):Int) (of_decide_eq_true (by first|(with_reducible assumption)|assumption)) (by have h_:(((rd_T97 l0_0 a1).f2):Int) < ((t142.length:Int):Int):=of_decide_eq_true (by first|(with_reducible assumption)|assumption);first|exact h_|(have e_:=(Kd.R_reads' HO_150000.out).1;omega)|simpa using h_) (seg:=[.int .i64 ((rd_T97 l0_0 a1).f1)]) (j:=1) hcl95 hcc95 (show 2≤4 from by decide) (x':=(⟨(rd_T97 t142 ((rd_T97 l0_0 a1).f2)).f0,(rd_T97 l0_0 a1).f1,(rd_T97 t142 ((rd_T97 l0_0 a1).f2)).f2,(rd_T97 t142 ((rd_T97 l0_0 a1).f2)).f3⟩:S97)) (k97_mkM _ _ _ (⟨(rd_T97 t142 ((rd_T97 l0_0 a1).f2)).f0,(rd_T97 l0_0 a1).f1,(rd_T97 t142 ((rd_T97 l0_0 a1).f2)).f2,(rd_T97 t142 ((rd_T97 l0_0 a1).f2)).f3⟩:S97) ) (fun _ hk=>hk);have hx95_1:=hcc95 1 _ rfl;(try simp only [show (k97).sz=4 from rfl,Nat.mul_one,Nat.add_zero] at hx95_1);have hf95_1:=hfr95 1;(try simp only [show (k97).sz=4 from rfl,Nat.mul_one,Nat.add_zero] at hf95_1);clear hcl95 hcc95 hfr95 hM95)|((with_reducible refine gate_store (t:=3) (p:=60) rfl ?_);refine sx 3 60 (w92.setCell ⟨go77,(((rd_T97 l0_0 a1).f2):Int).toNat * 4 + 1,none⟩ (.int .i64 ((rd_T97 l0_0 a1).f1))) ?_;intro w96 hw;have hg:w92.grownBy w96 (some go77):=(by rw [hw];exact HP95.2);have hp_:Kd.R k97 97 w96 w.heap.size (fun k_=>k_≠gb154) (.slice (some ⟨go77,0,none⟩) t142.length co11) y156:=(by rw [hw,Ny156.out];exact HP95.1);clear HP95;replace BK140:=Aside0.mk (blk_grown (bk BK140) hg (Kd.R_ne HO_150000.out BK140.out (by decide)));replace BK141:=Aside0.mk (blk_grown (bk BK141) hg (Kd.R_ne HO_150000.out BK141.out (by decide)));replace BK149:=Aside0.mk (blk_grown (bk BK149) hg (Kd.R_ne HO_150000.out BK149.out (by decide)));replace BK154:=Aside0.mk (blk_grown (bk BK154) hg (Kd.R_away HO_150000.out (fun _ hk=>hk)));replace HO_150000:=Aside0.mk (hp_);replace HB:=Aside0.mk ((by rw [hw];exact below_set (HB.out) GB77.out:Below w.heap.size w w96));clear hg hw hp_;obtain ⟨hcz97_0,hcz97_1,hcz97_2,hcz97_3,hcz97_4,hfz97_0,hfz97_1,hfz97_2,hfz97_3,hfz97_4⟩:=ck5 BK149.out;obtain ⟨hcz98_0,hcz98_1,hcz98_2,hcz98_3,hcz98_4,hfz98_0,hfz98_1,hfz98_2,hfz98_3,hfz98_4⟩:=ck5 BK140.out;have p79:0≤(a1:Int):=of_decide_eq_true (by first|(with_reducible assumption)|assumption);have q79:(a1:Int) < ((t142.length:Int):Int):=of_decide_eq_true (by first|(with_reducible assumption)|assumption);obtain ⟨ce79,hcl79,hM79,hcc79,hfr79⟩:=Kd.R_elem HO_150000.out z97 (a1:Int) p79 q79;obtain rfl:=k97_openM hM79;have hx79_0:w96.cell? ⟨go77,(a1:Int).toNat * 4,none⟩=some (.int .i64 ((rd_T97 y156 a1).f0)):=hcc79 0 _ rfl;have hx79_1:w96.cell? ⟨go77,(a1:Int).toNat * 4 + 1,none⟩=some (.int .i64 ((rd_T97 y156 a1).f1)):=hcc79 1 _ rfl;have hx79_2:w96.cell? ⟨go77,(a1:Int).toNat * 4 + 2,none⟩=some (.int .i64 ((rd_T97 y156 a1).f2)):=hcc79 2 _ rfl;have hx79_3:w96.cell? ⟨go77,(a1:Int).toNat * 4 + 3,none⟩=some (.bool ((rd_T97 y156 a1).f3)):=hcc79 3 _ rfl;have hf79_0:w96.frozen? ⟨go77,(a1:Int).toNat * 4,none⟩=false:=hfr79 0;have hf79_1:w96.frozen? ⟨go77,(a1:Int).toNat * 4 + 1,none⟩=false:=hfr79 1;have hf79_2:w96.frozen? ⟨go77,(a1:Int).toNat * 4 + 2,none⟩=false:=hfr79 2;have hf79_3:w96.frozen? ⟨go77,(a1:Int).toNat * 4 + 3,none⟩=false:=hfr79 3;clear hcl79 hcc79 hfr79 hM79;replace p79:=eq_true p79;replace q79:=eq_true q79;have HX99:=Aside0.mk (show Kd.R k97 97 w96 w.heap.size (fun k_=>k_≠gb154) (.slice (some ⟨go77,0,none⟩) t142.length co11) y156 from (kr HO_150000));obtain ⟨ce99,hcl99,hM99,hcc99,hfr99⟩:=Kd.R_elem HX99.out z97 (a1:Int) (of_decide_eq_true (by first|(with_reducible assumption)|assumption)) (by have h_:(a1:Int) < ((t142.length:Int):Int):=of_decide_eq_true (by first|(with_reducible assumption)|assumption);first|exact h_|(have e_:=(Kd.R_reads' HO_150000.out).1;omega)|simpa using h_);obtain rfl:=k97_openM hM99;have HP99:=Kd.R_seg HX99.out (a1:Int) (of_decide_eq_true (by first|(with_reducible assumption)|assumption)) (by have h_:(a1:Int) < ((t142.length:Int):Int):=of_decide_eq_true (by first|(with_reducible assumption)|assumption);first|exact h_|(have e_:=(Kd.R_reads' HO_150000.out).1;omega)|simpa using h_) (seg:=[.int .i64 0,.int .i64 (-1),.int .i64 a0_3,.bool false]) (j:=0) hcl99 hcc99 (show 4≤4 from by decide) (x':=(⟨0,(-1),a0_3,false⟩:S97)) (k97_mkM _ _ _ (⟨0,(-1),a0_3,false⟩:S97) ) (fun _ hk=>hk);have hx99_0:=hcc99 0 _ rfl;(try simp only [show (k97).sz=4 from rfl,Nat.mul_one,Nat.add_zero] at hx99_0);have hf99_0:=hfr99 0;(try simp only [show (k97).sz=4 from rfl,Nat.mul_one,Nat.add_zero] at hf99_0);have hx99_1:=hcc99 1 _ rfl;(try simp only [show (k97).sz=4 from rfl,Nat.mul_one,Nat.add_zero] at hx99_1);have hf99_1:=hfr99 1;(try simp only [show (k97).sz=4 from rfl,Nat.mul_one,Nat.add_zero] at hf99_1);have hx99_2:=hcc99 2 _ rfl;(try simp only [show (k97).sz=4 from rfl,Nat.mul_one,Nat.add_zero] at hx99_2);have hf99_2:=hfr99 2;(try simp only [show (k97).sz=4 from rfl,Nat.mul_one,Nat.add_zero] at hf99_2);have hx99_3:=hcc99 3 _ rfl;(try simp only [show (k97).sz=4 from rfl,Nat.mul_one,Nat.add_zero] at hx99_3);have hf99_3:=hfr99 3;(try simp only [show (k97).sz=4 from rfl,Nat.mul_one,Nat.add_zero] at hf99_3);clear hcl99 hcc99 hfr99 hM99)|((with_reducible refine gate_store (t:=97) (p:=67) rfl ?_);refine sx 97 67 ((((w96.setCell ⟨go77,(a1:Int).toNat * 4,none⟩ (.int .i64 0)).setCell ⟨go77,(a1:Int).toNat * 4 + 1,none⟩ (.int .i64 (-1))).setCell ⟨go77,(a1:Int).toNat * 4 + 2,none⟩ (.int .i64 a0_3)).setCell ⟨go77,(a1:Int).toNat * 4 + 3,none⟩ (.bool false)) ?_;intro w100 hw;have hg:w96.grownBy w100 (some go77):=(by rw [hw];exact HP99.2);have hp_:Kd.R k97 97 w100 w.heap.size (fun k_=>k_≠gb154) (.slice (some ⟨go77,0,none⟩) t142.length co11) y157:=(by rw [hw,Ny157.out];exact HP99.1);clear HP99;replace BK140:=Aside0.mk (blk_grown (bk BK140) hg (Kd.R_ne HO_150000.out BK140.out (by decide)));replace BK141:=Aside0.mk (blk_grown (bk BK141) hg (Kd.R_ne HO_150000.out BK141.out (by decide)));replace BK149:=Aside0.mk (blk_grown (bk BK149) hg (Kd.R_ne HO_150000.out BK149.out (by decide)));replace BK154:=Aside0.mk (blk_grown (bk BK154) hg (Kd.R_away HO_150000.out (fun _ hk=>hk)));replace HO_150000:=Aside0.mk (hp_);replace HB:=Aside0.mk ((by rw [hw];exact below_set (below_set (below_set (below_set (HB.out) GB77.out) GB77.out) GB77.out) GB77.out:Below w.heap.size w w100));clear hg hw hp_;obtain ⟨hcz101_0,hcz101_1,hcz101_2,hcz101_3,hcz101_4,hfz101_0,hfz101_1,hfz101_2,hfz101_3,hfz101_4⟩:=ck5 BK149.out;obtain ⟨hcz102_0,hcz102_1,hcz102_2,hcz102_3,hcz102_4,hfz102_0,hfz102_1,hfz102_2,hfz102_3,hfz102_4⟩:=ck5 BK140.out))
           have n0_:Aside0 (Kd.R k97 97 ((w100.setCell ⟨gb149,3,none⟩ (.int .i64 a1)).setCell ⟨gb149,4,none⟩ (.int .i64 (wrap64 (a0_4 - 1)))) w.heap.size (fun k_=>k_≠gb154) (.slice (some ⟨go77,0,none⟩) t142.length co11) y157):=⟨by (with_reducible repeat (first|apply Kd.R_alloc|apply Kd.R_drewN|apply Kd.R_drew));exact Kd.R_mono (Kd.R_far (p:=⟨gb149,4,none⟩) (Kd.R_far (p:=⟨gb149,3,none⟩) (Kd.R_types HO_150000.out BK149.out (by decide)) (fun _ hk=>hk.2) (.int .i64 a1)) (fun _ hk=>hk.2) (.int .i64 (wrap64 (a0_4 - 1)))) (fun _ hk=>hk.1)⟩
           have n1_:Aside0 (((w100.setCell ⟨gb149,3,none⟩ (.int .i64 a1)).setCell ⟨gb149,4,none⟩ (.int .i64 (wrap64 (a0_4 - 1)))).heap[gb140]? = some (.cells #[.slice (some ad153) l0_0.length c0_0,.int .i64 a0_1,.int .i64 a0_2,.int .i64 a0_3,.int .i64 a0_4] 28 (0,0))):=⟨bf BK140⟩
           have n2_:Aside0 (((w100.setCell ⟨gb149,3,none⟩ (.int .i64 a1)).setCell ⟨gb149,4,none⟩ (.int .i64 (wrap64 (a0_4 - 1)))).heap[gb141]? = some (.cells #[.slice none 0 0,.int .i64 0,.int .i64 0,.int .i64 0,.int .i64 0] 28 (0,0))):=⟨bf BK141⟩
           have n3_:Aside0 (((w100.setCell ⟨gb149,3,none⟩ (.int .i64 a1)).setCell ⟨gb149,4,none⟩ (.int .i64 (wrap64 (a0_4 - 1)))).heap[gb149]? = some (.cells #[.slice (some ⟨go77,0,none⟩) t142.length co11,.int .i64 ((rd_T97 l0_0 a1).f2),.int .i64 t146,.int .i64 a1,.int .i64 (wrap64 (a0_4 - 1))] 28 (0,0))):=⟨by (with_reducible repeat (first|refine blk_drewN ?_ _|refine blk_drew ?_|refine blk_alloc ?_ _));refine blk_put (cs:=#[.slice (some ⟨go77,0,none⟩) t142.length co11,.int .i64 ((rd_T97 l0_0 a1).f2),.int .i64 t146,.int .i64 a1,.int .i64 t148]) ?_ 4 _ rfl;(with_reducible repeat (first|refine blk_drewN ?_ _|refine blk_drew ?_|refine blk_alloc ?_ _));refine blk_put (cs:=#[.slice (some ⟨go77,0,none⟩) t142.length co11,.int .i64 ((rd_T97 l0_0 a1).f2),.int .i64 t146,.int .i64 t147,.int .i64 t148]) ?_ 3 _ rfl;(with_reducible repeat (first|refine blk_drewN ?_ _|refine blk_drew ?_|refine blk_alloc ?_ _));exact BK149.out⟩
           have n4_:Aside0 (((w100.setCell ⟨gb149,3,none⟩ (.int .i64 a1)).setCell ⟨gb149,4,none⟩ (.int .i64 (wrap64 (a0_4 - 1)))).heap[gb154]? = some (.cells #[.int .i64 ((rd_T97 l0_0 a1).f0),.int .i64 ((rd_T97 l0_0 a1).f1),.int .i64 ((rd_T97 l0_0 a1).f2),.bool ((rd_T97 l0_0 a1).f3)] 97 (0,0))):=⟨bf BK154⟩
           have n5_:Aside0 (Below w.heap.size w ((w100.setCell ⟨gb149,3,none⟩ (.int .i64 a1)).setCell ⟨gb149,4,none⟩ (.int .i64 (wrap64 (a0_4 - 1))))):=⟨bl⟩
           (try clear HO_150000)
           (try clear BK140)
           (try clear BK141)
           (try clear BK149)
           (try clear BK154)
           (try clear HB)
           generalize ((w100.setCell ⟨gb149,3,none⟩ (.int .i64 a1)).setCell ⟨gb149,4,none⟩ (.int .i64 (wrap64 (a0_4 - 1))))=w103 at n0_ n1_ n2_ n3_ n4_ n5_ ⊢
           have HO_150000:=n0_
           have BK140:=n1_
           have BK141:=n2_
           have BK149:=n3_
           have BK154:=n4_
           have HB:=n5_
           clear n0_ n1_ n2_ n3_ n4_ n5_
           replace HO_150000:=Aside0.mk (Kd.R_drew HO_150000.out)
           replace BK140:=Aside0.mk (blk_drew BK140.out)
           replace BK141:=Aside0.mk (blk_drew BK141.out)
           replace BK149:=Aside0.mk (blk_drew BK149.out)
           replace BK154:=Aside0.mk (blk_drew BK154.out)
           replace HB:=Aside0.mk (below_drew1 HB.out)
           refine start_ (n:=5) (S:=fun w'=>w'.cell? ⟨gb149,0,none⟩=some (.slice (some ⟨go77,0,none⟩) t142.length co11)∧w'.cell? ⟨gb149,1,none⟩=some (.int .i64 ((rd_T97 l0_0 a1).f2))∧w'.cell? ⟨gb149,2,none⟩=some (.int .i64 t146)∧w'.cell? ⟨gb149,3,none⟩=some (.int .i64 a1)∧w'.cell? ⟨gb149,4,none⟩=some (.int .i64 (wrap64 (a0_4 - 1)))∧w'.cell? ⟨gb154,0,none⟩=some (.int .i64 ((rd_T97 l0_0 a1).f0))∧w'.cell? ⟨gb154,1,none⟩=some (.int .i64 ((rd_T97 l0_0 a1).f1))∧w'.cell? ⟨gb154,2,none⟩=some (.int .i64 ((rd_T97 l0_0 a1).f2))∧w'.cell? ⟨gb154,3,none⟩=some (.bool ((rd_T97 l0_0 a1).f3))) (ds:=[]) (bs 5 0) (by kernel_rfl) rfl rfl ⟨bc BK149 0,bc BK149 1,bc BK149 2,bc BK149 3,bc BK149 4,bc BK154 0,bc BK154 1,bc BK154 2,bc BK154 3⟩ (fun hHeld=>?_)
           generalize w103.drew=w104 at HO_150000 BK140 BK141 BK149 BK154 HB hHeld ⊢
           refine pk 1 75 (bs 5 2) ?_
           refine tk 0 74 (bs 5 3) hHeld ?_
           refine tk 2 76 (bs 5 7) hHeld ?_
           refine one_ (i:=3) (N:=none) (bs 5 15) rfl rfl (by kernel_rfl) (by decide) (fun K hK=>?_)
           have hs105:w104.cell? ⟨gb141,0,none⟩=some (.slice none 0 0):=(blk_cell BK141.out 0).trans rfl
           have hfs105:=blk_frozen BK141.out 0
           have hns105_0:=NB140_141.out
           have hns105_2:=NB149_141.out
           have hns105_3:=NB154_141.out
           have hms105_0:=NB141_140.out
           have hms105_2:=NB141_149.out
           have hms105_3:=NB141_154.out
           have hs106:w104.cell? ⟨gb141,1,none⟩=some (.int .i64 0):=(blk_cell BK141.out 1).trans rfl
           have hfs106:=blk_frozen BK141.out 1
           have hns106_0:=NB140_141.out
           have hns106_2:=NB149_141.out
           have hns106_3:=NB154_141.out
           have hms106_0:=NB141_140.out
           have hms106_2:=NB141_149.out
           have hms106_3:=NB141_154.out
           have hs107:w104.cell? ⟨gb141,2,none⟩=some (.int .i64 0):=(blk_cell BK141.out 2).trans rfl
           have hfs107:=blk_frozen BK141.out 2
           have hns107_0:=NB140_141.out
           have hns107_2:=NB149_141.out
           have hns107_3:=NB154_141.out
           have hms107_0:=NB141_140.out
           have hms107_2:=NB141_149.out
           have hms107_3:=NB141_154.out
           have hs108:w104.cell? ⟨gb141,3,none⟩=some (.int .i64 0):=(blk_cell BK141.out 3).trans rfl
           have hfs108:=blk_frozen BK141.out 3
           have hns108_0:=NB140_141.out
           have hns108_2:=NB149_141.out
           have hns108_3:=NB154_141.out
           have hms108_0:=NB141_140.out
           have hms108_2:=NB141_149.out
           have hms108_3:=NB141_154.out
           have hs109:w104.cell? ⟨gb141,4,none⟩=some (.int .i64 0):=(blk_cell BK141.out 4).trans rfl
           have hfs109:=blk_frozen BK141.out 4
           have hns109_0:=NB140_141.out
           have hns109_2:=NB149_141.out
           have hns109_3:=NB154_141.out
           have hms109_0:=NB141_140.out
           have hms109_2:=NB141_149.out
           have hms109_3:=NB141_154.out
           refine skip_ (w1:=?_) (by rfl) rfl ?_ ?_
           rotate_left
           ·go_simp
            rfl
           refine hK.out _ _ ⟨((cell_far (p:=⟨gb141,_,none⟩) NB149_141.out _).trans (((cell_far (p:=⟨gb141,_,none⟩) NB149_141.out _).trans (((cell_far (p:=⟨gb141,_,none⟩) NB149_141.out _).trans (((cell_far (p:=⟨gb141,_,none⟩) NB149_141.out _).trans (((cell_far (p:=⟨gb141,_,none⟩) NB149_141.out _).trans (hHeld.1)))))))))),((cell_far (p:=⟨gb141,_,none⟩) NB149_141.out _).trans (((cell_far (p:=⟨gb141,_,none⟩) NB149_141.out _).trans (((cell_far (p:=⟨gb141,_,none⟩) NB149_141.out _).trans (((cell_far (p:=⟨gb141,_,none⟩) NB149_141.out _).trans (((cell_far (p:=⟨gb141,_,none⟩) NB149_141.out _).trans (hHeld.2.1)))))))))),((cell_far (p:=⟨gb141,_,none⟩) NB149_141.out _).trans (((cell_far (p:=⟨gb141,_,none⟩) NB149_141.out _).trans (((cell_far (p:=⟨gb141,_,none⟩) NB149_141.out _).trans (((cell_far (p:=⟨gb141,_,none⟩) NB149_141.out _).trans (((cell_far (p:=⟨gb141,_,none⟩) NB149_141.out _).trans (hHeld.2.2.1)))))))))),((cell_far (p:=⟨gb141,_,none⟩) NB149_141.out _).trans (((cell_far (p:=⟨gb141,_,none⟩) NB149_141.out _).trans (((cell_far (p:=⟨gb141,_,none⟩) NB149_141.out _).trans (((cell_far (p:=⟨gb141,_,none⟩) NB149_141.out _).trans (((cell_far (p:=⟨gb141,_,none⟩) NB149_141.out _).trans (hHeld.2.2.2.1)))))))))),((cell_far (p:=⟨gb141,_,none⟩) NB149_141.out _).trans (((cell_far (p:=⟨gb141,_,none⟩) NB149_141.out _).trans (((cell_far (p:=⟨gb141,_,none⟩) NB149_141.out _).trans (((cell_far (p:=⟨gb141,_,none⟩) NB149_141.out _).trans (((cell_far (p:=⟨gb141,_,none⟩) NB149_141.out _).trans (hHeld.2.2.2.2.1)))))))))),((cell_far (p:=⟨gb141,_,none⟩) NB154_141.out _).trans (((cell_far (p:=⟨gb141,_,none⟩) NB154_141.out _).trans (((cell_far (p:=⟨gb141,_,none⟩) NB154_141.out _).trans (((cell_far (p:=⟨gb141,_,none⟩) NB154_141.out _).trans (((cell_far (p:=⟨gb141,_,none⟩) NB154_141.out _).trans (hHeld.2.2.2.2.2.1)))))))))),((cell_far (p:=⟨gb141,_,none⟩) NB154_141.out _).trans (((cell_far (p:=⟨gb141,_,none⟩) NB154_141.out _).trans (((cell_far (p:=⟨gb141,_,none⟩) NB154_141.out _).trans (((cell_far (p:=⟨gb141,_,none⟩) NB154_141.out _).trans (((cell_far (p:=⟨gb141,_,none⟩) NB154_141.out _).trans (hHeld.2.2.2.2.2.2.1)))))))))),((cell_far (p:=⟨gb141,_,none⟩) NB154_141.out _).trans (((cell_far (p:=⟨gb141,_,none⟩) NB154_141.out _).trans (((cell_far (p:=⟨gb141,_,none⟩) NB154_141.out _).trans (((cell_far (p:=⟨gb141,_,none⟩) NB154_141.out _).trans (((cell_far (p:=⟨gb141,_,none⟩) NB154_141.out _).trans (hHeld.2.2.2.2.2.2.2.1)))))))))),((cell_far (p:=⟨gb141,_,none⟩) NB154_141.out _).trans (((cell_far (p:=⟨gb141,_,none⟩) NB154_141.out _).trans (((cell_far (p:=⟨gb141,_,none⟩) NB154_141.out _).trans (((cell_far (p:=⟨gb141,_,none⟩) NB154_141.out _).trans (((cell_far (p:=⟨gb141,_,none⟩) NB154_141.out _).trans (hHeld.2.2.2.2.2.2.2.2))))))))))⟩ (fun hHeld=>?_)
           clear hK K
           refine pk 4 5 (bs 5 31) ?_
           refine done_ (by kernel_rfl) ?_
           try go_wp2
           refine bodyPost_ret (results_ct rfl _ _ gb141 28 #[.slice (some ⟨go77,0,none⟩) t142.length co11,.int .i64 ((rd_T97 l0_0 a1).f2),.int .i64 t146,.int .i64 a1,.int .i64 (wrap64 (a0_4 - 1))] (0,0) _ rfl (by (with_reducible repeat (first|refine blk_drewN ?_ _|refine blk_drew ?_|refine blk_alloc ?_ _));refine blk_put (cs:=#[.slice (some ⟨go77,0,none⟩) t142.length co11,.int .i64 ((rd_T97 l0_0 a1).f2),.int .i64 t146,.int .i64 a1,.int .i64 0]) ?_ 4 _ rfl;(with_reducible repeat (first|refine blk_drewN ?_ _|refine blk_drew ?_|refine blk_alloc ?_ _));refine blk_put (cs:=#[.slice (some ⟨go77,0,none⟩) t142.length co11,.int .i64 ((rd_T97 l0_0 a1).f2),.int .i64 t146,.int .i64 0,.int .i64 0]) ?_ 3 _ rfl;(with_reducible repeat (first|refine blk_drewN ?_ _|refine blk_drew ?_|refine blk_alloc ?_ _));refine blk_put (cs:=#[.slice (some ⟨go77,0,none⟩) t142.length co11,.int .i64 ((rd_T97 l0_0 a1).f2),.int .i64 0,.int .i64 0,.int .i64 0]) ?_ 2 _ rfl;(with_reducible repeat (first|refine blk_drewN ?_ _|refine blk_drew ?_|refine blk_alloc ?_ _));refine blk_put (cs:=#[.slice (some ⟨go77,0,none⟩) t142.length co11,.int .i64 0,.int .i64 0,.int .i64 0,.int .i64 0]) ?_ 1 _ rfl;(with_reducible repeat (first|refine blk_drewN ?_ _|refine blk_drew ?_|refine blk_alloc ?_ _));refine blk_put (cs:=#[.slice none 0 0,.int .i64 0,.int .i64 0,.int .i64 0,.int .i64 0]) ?_ 0 _ rfl;(with_reducible repeat (first|refine blk_drewN ?_ _|refine blk_drew ?_|refine blk_alloc ?_ _));exact BK141.out) Try.underlying28 rfl (by kernel_rfl)) rfl ?_
           exact ⟨_,by first|rfl|(simp [errW_none,errW_some] <;> rfl)|(simp [*,errW_none,errW_some] <;> rfl),by (with_reducible repeat (first|apply Kd.R_alloc|apply Kd.R_drewN|apply Kd.R_drew));exact Kd.R_mono (Kd.R_far (p:=⟨gb141,4,none⟩) (Kd.R_far (p:=⟨gb141,3,none⟩) (Kd.R_far (p:=⟨gb141,2,none⟩) (Kd.R_far (p:=⟨gb141,1,none⟩) (Kd.R_far (p:=⟨gb141,0,none⟩) (Kd.R_types HO_150000.out BK141.out (by decide)) (fun _ hk=>hk.2) (.slice (some ⟨go77,0,none⟩) t142.length co11)) (fun _ hk=>hk.2) (.int .i64 ((rd_T97 l0_0 a1).f2))) (fun _ hk=>hk.2) (.int .i64 t146)) (fun _ hk=>hk.2) (.int .i64 a1)) (fun _ hk=>hk.2) (.int .i64 (wrap64 (a0_4 - 1)))) (fun _ hk=>trivial),bl⟩
          ·rw [if_neg c78] at H
           exact absurd H (by simp)
         ·rw [if_neg c76] at H
          exact absurd H (by simp)
        ·rw [if_neg c75] at H
         exact absurd H (by simp)
      ·rw [if_neg c42] at H
       have c42b0:(((rd_T97 l0_0 a1).f1) == (-1))=false:=beq_eq_false_iff_ne.mpr c42
       have c42b1:(((rd_T97 l0_0 a1).f1) != (-1))=true:=bne_iff_ne.mpr c42
       by_cases c110:0≤((rd_T97 l0_0 a1).f1)
       ·rw [if_pos c110] at H
        have c110b0:decide (0≤((rd_T97 l0_0 a1).f1))=true:=decide_eq_true c110
        clear c110
        by_cases c111:((rd_T97 l0_0 a1).f1) < (t142.length:Int)
        ·rw [if_pos c111] at H
         have c111b0:decide (((rd_T97 l0_0 a1).f1) < (t142.length:Int))=true:=decide_eq_true c111
         clear c111
         obtain ⟨y158,hy158⟩:∃ y_:List (S97),y_=(t142.set (((rd_T97 l0_0 a1).f1):Int).toNat (⟨(rd_T97 t142 ((rd_T97 l0_0 a1).f1)).f0,(rd_T97 t142 ((rd_T97 l0_0 a1).f1)).f1,(rd_T97 l0_0 a1).f2,(rd_T97 t142 ((rd_T97 l0_0 a1).f1)).f3⟩:S97)):=⟨_,rfl⟩
         replace H:(if ((rd_T97 l0_0 a1).f2)=(-1) then (if a1 < (t142.length:Int) then (some ((y158.set (a1:Int).toNat (⟨0,(-1),a0_3,false⟩:S97)),t145,(rd_T97 l0_0 a1).f1,a1,wrap64 (a0_4 - 1),(rd_T97 l0_0 a1).f0)) else (none)) else (if 0≤((rd_T97 l0_0 a1).f2) then (if ((rd_T97 l0_0 a1).f2) < (t142.length:Int) then (if a1 < (t142.length:Int) then (some (((y158.set (((rd_T97 l0_0 a1).f2):Int).toNat (⟨(rd_T97 y158 ((rd_T97 l0_0 a1).f2)).f0,(rd_T97 l0_0 a1).f1,(rd_T97 y158 ((rd_T97 l0_0 a1).f2)).f2,(rd_T97 y158 ((rd_T97 l0_0 a1).f2)).f3⟩:S97)).set (a1:Int).toNat (⟨0,(-1),a0_3,false⟩:S97)),t145,t146,a1,wrap64 (a0_4 - 1),(rd_T97 l0_0 a1).f0)) else (none)) else (none)) else (none)))=some (r1,r2,r3,r4,r5,r6):=by first|(rw [hy158];with_reducible exact H)|(have H2_:=(Option.bind_some _ _).symm.trans H;rw [hy158];with_reducible exact H2_)|(have H2_:=(Option.bind_some _ _).symm.trans H;with_reducible exact H2_)|with_reducible exact H|(rw [hy158];exact H)|exact H
         have Ny158:=Aside0.mk hy158
         clear hy158
         by_cases c113:((rd_T97 l0_0 a1).f2)=(-1)
         ·rw [if_pos c113] at H
          have c113b0:(((rd_T97 l0_0 a1).f2) == (-1))=true:=beq_iff_eq.mpr c113
          have c113b1:(((rd_T97 l0_0 a1).f2) != (-1))=false:=bne_eq_false_iff_eq.mpr c113
          clear c113
          by_cases c114:a1 < (t142.length:Int)
          ·rw [if_pos c114] at H
           have c114b0:decide (a1 < (t142.length:Int))=true:=decide_eq_true c114
           clear c114
           obtain ⟨y159,hy159⟩:∃ y_:List (S97),y_=(y158.set (a1:Int).toNat (⟨0,(-1),a0_3,false⟩:S97)):=⟨_,rfl⟩
           replace H:(some (y159,t145,(rd_T97 l0_0 a1).f1,a1,wrap64 (a0_4 - 1),(rd_T97 l0_0 a1).f0))=some (r1,r2,r3,r4,r5,r6):=by first|(rw [hy159];with_reducible exact H)|(have H2_:=(Option.bind_some _ _).symm.trans H;rw [hy159];with_reducible exact H2_)|(have H2_:=(Option.bind_some _ _).symm.trans H;with_reducible exact H2_)|with_reducible exact H|(rw [hy159];exact H)|exact H
           have Ny159:=Aside0.mk hy159
           clear hy159
           simp only [Option.some.injEq,Prod.mk.injEq] at H
           obtain ⟨rfl,rfl,rfl,rfl,rfl,rfl⟩:=H
           have hnb116:=NB140_141.out
           have hnc116:=NB141_140.out
           have hnb117:=NB140_149.out
           have hnc117:=NB149_140.out
           obtain ⟨hcz118_0,hcz118_1,hcz118_2,hcz118_3,hcz118_4,hfz118_0,hfz118_1,hfz118_2,hfz118_3,hfz118_4⟩:=ck5 BK140.out
           have p153:0≤(a1:Int):=of_decide_eq_true (by first|(with_reducible assumption)|assumption)
           have q153:a1 < (l0_0.length:Int):=of_decide_eq_true (by first|(with_reducible assumption)|assumption)
           obtain ⟨ad153,e153,hx153_0,hx153_1,hx153_2,hx153_3⟩:=at_T97 HR0_0.out a1 p153 q153
           cases e153
           replace hx153_0:=cl HB hx153_0
           replace hx153_1:=cl HB hx153_1
           replace hx153_2:=cl HB hx153_2
           replace hx153_3:=cl HB hx153_3
           replace p153:=eq_true p153
           replace q153:=eq_true q153
           try go_wp2_with (first|((with_reducible refine gate_dst (N:=7) rfl ?_);refine bx 7 #[.int .i64 0,.int .i64 0,.int .i64 0,.bool false] 97 ?_;intro gb154 hg w119 hbox hb;replace HO_150000:=Aside0.mk (Kd.R_below (Kd.R_elderB (kr HO_150000) gb154 (Nat.le_of_eq hg.symm)) hb);have BK154:=Aside0.mk (hbox);have GW154:=Aside0.mk (bz hg:w.heap.size≤gb154);have GE154:=GW154;replace HB:=Aside0.mk (below_step bl hb);have NB140_154:=Aside0.mk (nl hg BK140:gb140≠gb154);have NB154_140:=Aside0.mk (nr hg BK140:gb154≠gb140);replace BK140:=Aside0.mk (blk_below (bk BK140) hb);have NB141_154:=Aside0.mk (nl hg BK141:gb141≠gb154);have NB154_141:=Aside0.mk (nr hg BK141:gb154≠gb141);replace BK141:=Aside0.mk (blk_below (bk BK141) hb);have NB149_154:=Aside0.mk (nl hg BK149:gb149≠gb154);have NB154_149:=Aside0.mk (nr hg BK149:gb154≠gb149);replace BK149:=Aside0.mk (blk_below (bk BK149) hb);clear hb hbox hg;have hnb120:=NB154_140.out;have hnc120:=NB140_154.out;have hnb121:=NB154_141.out;have hnc121:=NB141_154.out;have hnb122:=NB154_149.out;have hnc122:=NB149_154.out;obtain ⟨hcz123_0,hcz123_1,hcz123_2,hcz123_3,hfz123_0,hfz123_1,hfz123_2,hfz123_3⟩:=ck4 BK154.out)|((with_reducible refine gate_store (t:=97) (p:=7) rfl ?_);refine sx 97 7 ((((w119.setCell ⟨gb154,0,none⟩ (.int .i64 ((rd_T97 l0_0 a1).f0))).setCell ⟨gb154,1,none⟩ (.int .i64 ((rd_T97 l0_0 a1).f1))).setCell ⟨gb154,2,none⟩ (.int .i64 ((rd_T97 l0_0 a1).f2))).setCell ⟨gb154,3,none⟩ (.bool ((rd_T97 l0_0 a1).f3))) ?_;intro w124 hw;have n0_:Aside0 (Kd.R k97 97 w124 w.heap.size (fun k_=>k_≠gb154) (.slice Ao11 t142.length co11) t142):=⟨(by rw [hw];exact (by (with_reducible repeat (first|apply Kd.R_alloc|apply Kd.R_drewN|apply Kd.R_drew));exact Kd.R_mono (Kd.R_far (p:=⟨gb154,3,none⟩) (Kd.R_far (p:=⟨gb154,2,none⟩) (Kd.R_far (p:=⟨gb154,1,none⟩) (Kd.R_far (p:=⟨gb154,0,none⟩) (Kd.R_mono HO_150000.out (fun k_ hk=>(⟨hk,hk.2⟩:_∧k_≠gb154))) (fun _ hk=>hk.2) (.int .i64 ((rd_T97 l0_0 a1).f0))) (fun _ hk=>hk.2) (.int .i64 ((rd_T97 l0_0 a1).f1))) (fun _ hk=>hk.2) (.int .i64 ((rd_T97 l0_0 a1).f2))) (fun _ hk=>hk.2) (.bool ((rd_T97 l0_0 a1).f3))) (fun _ hk=>hk.1.2)))⟩;have n1_:Aside0 (w124.heap[gb140]? = some (.cells #[.slice (some ad153) l0_0.length c0_0,.int .i64 a0_1,.int .i64 a0_2,.int .i64 a0_3,.int .i64 a0_4] 28 (0,0))):=⟨(by rw [hw];exact (bf BK140))⟩;have n2_:Aside0 (w124.heap[gb141]? = some (.cells #[.slice none 0 0,.int .i64 0,.int .i64 0,.int .i64 0,.int .i64 0] 28 (0,0))):=⟨(by rw [hw];exact (bf BK141))⟩;have n3_:Aside0 (w124.heap[gb149]? = some (.cells #[.slice Ao11 t142.length co11,.int .i64 t145,.int .i64 t146,.int .i64 t147,.int .i64 t148] 28 (0,0))):=⟨(by rw [hw];exact (bf BK149))⟩;have n4_:Aside0 (w124.heap[gb154]? = some (.cells #[.int .i64 ((rd_T97 l0_0 a1).f0),.int .i64 ((rd_T97 l0_0 a1).f1),.int .i64 ((rd_T97 l0_0 a1).f2),.bool ((rd_T97 l0_0 a1).f3)] 97 (0,0))):=⟨(by rw [hw];exact (by (with_reducible repeat (first|refine blk_drewN ?_ _|refine blk_drew ?_|refine blk_alloc ?_ _));refine blk_put (cs:=#[.int .i64 ((rd_T97 l0_0 a1).f0),.int .i64 ((rd_T97 l0_0 a1).f1),.int .i64 ((rd_T97 l0_0 a1).f2),.bool false]) ?_ 3 _ rfl;(with_reducible repeat (first|refine blk_drewN ?_ _|refine blk_drew ?_|refine blk_alloc ?_ _));refine blk_put (cs:=#[.int .i64 ((rd_T97 l0_0 a1).f0),.int .i64 ((rd_T97 l0_0 a1).f1),.int .i64 0,.bool false]) ?_ 2 _ rfl;(with_reducible repeat (first|refine blk_drewN ?_ _|refine blk_drew ?_|refine blk_alloc ?_ _));refine blk_put (cs:=#[.int .i64 ((rd_T97 l0_0 a1).f0),.int .i64 0,.int .i64 0,.bool false]) ?_ 1 _ rfl;(with_reducible repeat (first|refine blk_drewN ?_ _|refine blk_drew ?_|refine blk_alloc ?_ _));refine blk_put (cs:=#[.int .i64 0,.int .i64 0,.int .i64 0,.bool false]) ?_ 0 _ rfl;(with_reducible repeat (first|refine blk_drewN ?_ _|refine blk_drew ?_|refine blk_alloc ?_ _));exact BK154.out))⟩;have n5_:Aside0 (Below w.heap.size w w124):=⟨(by rw [hw];exact bl)⟩;clear hw;clear HO_150000;clear BK140;clear BK141;clear BK149;clear BK154;clear HB;have HO_150000:=n0_;have BK140:=n1_;have BK141:=n2_;have BK149:=n3_;have BK154:=n4_;have HB:=n5_;clear n0_ n1_ n2_ n3_ n4_ n5_;obtain ⟨hcz125_0,hcz125_1,hcz125_2,hcz125_3,hfz125_0,hfz125_1,hfz125_2,hfz125_3⟩:=ck4 BK154.out;have hnb126:=NB149_141.out;have hnc126:=NB141_149.out;obtain ⟨hcz127_0,hcz127_1,hcz127_2,hcz127_3,hcz127_4,hfz127_0,hfz127_1,hfz127_2,hfz127_3,hfz127_4⟩:=ck5 BK149.out;have p112:0≤(((rd_T97 l0_0 a1).f1):Int):=of_decide_eq_true (by first|(with_reducible assumption)|assumption);have q112:(((rd_T97 l0_0 a1).f1):Int) < ((t142.length:Int):Int):=of_decide_eq_true (by first|(with_reducible assumption)|assumption);obtain ⟨go112,co112,eo112,gb112,gl112,cl112,HG112⟩:=Kd.R_form HO_150000.out (by omega);(first|cases eo112|(injection eo112 with ea_ en_ ec_;(first|subst ea_|(injection ea_ with ea_;subst ea_));subst ec_;clear en_));have GB112:=Aside0.mk gb112;have GG112:=Aside0.mk HG112;clear gb112 gl112 HG112;obtain ⟨ce112,hcl112,hM112,hcc112,hfr112⟩:=Kd.R_elem HO_150000.out z97 (((rd_T97 l0_0 a1).f1):Int) p112 q112;obtain rfl:=k97_openM hM112;have hx112_0:w124.cell? ⟨go112,(((rd_T97 l0_0 a1).f1):Int).toNat * 4,none⟩=some (.int .i64 ((rd_T97 t142 ((rd_T97 l0_0 a1).f1)).f0)):=hcc112 0 _ rfl;have hx112_1:w124.cell? ⟨go112,(((rd_T97 l0_0 a1).f1):Int).toNat * 4 + 1,none⟩=some (.int .i64 ((rd_T97 t142 ((rd_T97 l0_0 a1).f1)).f1)):=hcc112 1 _ rfl;have hx112_2:w124.cell? ⟨go112,(((rd_T97 l0_0 a1).f1):Int).toNat * 4 + 2,none⟩=some (.int .i64 ((rd_T97 t142 ((rd_T97 l0_0 a1).f1)).f2)):=hcc112 2 _ rfl;have hx112_3:w124.cell? ⟨go112,(((rd_T97 l0_0 a1).f1):Int).toNat * 4 + 3,none⟩=some (.bool ((rd_T97 t142 ((rd_T97 l0_0 a1).f1)).f3)):=hcc112 3 _ rfl;have hf112_0:w124.frozen? ⟨go112,(((rd_T97 l0_0 a1).f1):Int).toNat * 4,none⟩=false:=hfr112 0;have hf112_1:w124.frozen? ⟨go112,(((rd_T97 l0_0 a1).f1):Int).toNat * 4 + 1,none⟩=false:=hfr112 1;have hf112_2:w124.frozen? ⟨go112,(((rd_T97 l0_0 a1).f1):Int).toNat * 4 + 2,none⟩=false:=hfr112 2;have hf112_3:w124.frozen? ⟨go112,(((rd_T97 l0_0 a1).f1):Int).toNat * 4 + 3,none⟩=false:=hfr112 3;clear hcl112 hcc112 hfr112 hM112;replace p112:=eq_true p112;replace q112:=eq_true q112;have HX128:=Aside0.mk (show Kd.R k97 97 w124 w.heap.size (fun k_=>k_≠gb154) (.slice (some ⟨go112,0,none⟩) t142.length co11) t142 from (kr HO_150000));obtain ⟨ce128,hcl128,hM128,hcc128,hfr128⟩:=Kd.R_elem HX128.out z97 (((rd_T97 l0_0 a1).f1):Int) (of_decide_eq_true (by first|(with_reducible assumption)|assumption)) (by have h_:(((rd_T97 l0_0 a1).f1):Int) < ((t142.length:Int):Int):=of_decide_eq_true (by first|(with_reducible assumption)|assumption);first|exact h_|(have e_:=(Kd.R_reads' HO_150000.out).1;omega)|simpa using h_);obtain rfl:=k97_openM hM128;have HP128:=Kd.R_seg HX128.out (((rd_T97 l0_0 a1).f1):Int) (of_decide_eq_true (by first|(with_reducible assumption)|assumption)) (by have h_:(((rd_T97 l0_0 a1).f1):Int) < ((t142.length:Int):Int):=of_decide_eq_true (by first|(with_reducible assumption)|assumption);first|exact h_|(have e_:=(Kd.R_reads' HO_150000.out).1;omega)|simpa using h_) (seg:=[.int .i64 ((rd_T97 l0_0 a1).f2)]) (j:=2) hcl128 hcc128 (show 3≤4 from by decide) (x':=(⟨(rd_T97 t142 ((rd_T97 l0_0 a1).f1)).f0,(rd_T97 t142 ((rd_T97 l0_0 a1).f1)).f1,(rd_T97 l0_0 a1).f2,(rd_T97 t142 ((rd_T97 l0_0 a1).f1)).f3⟩:S97)) (k97_mkM _ _ _ (⟨(rd_T97 t142 ((rd_T97 l0_0 a1).f1)).f0,(rd_T97 t142 ((rd_T97 l0_0 a1).f1)).f1,(rd_T97 l0_0 a1).f2,(rd_T97 t142 ((rd_T97 l0_0 a1).f1)).f3⟩:S97) ) (fun _ hk=>hk);have hx128_2:=hcc128 2 _ rfl;(try simp only [show (k97).sz=4 from rfl,Nat.mul_one,Nat.add_zero] at hx128_2);have hf128_2:=hfr128 2;(try simp only [show (k97).sz=4 from rfl,Nat.mul_one,Nat.add_zero] at hf128_2);clear hcl128 hcc128 hfr128 hM128)|((with_reducible refine gate_store (t:=3) (p:=46) rfl ?_);refine sx 3 46 (w124.setCell ⟨go112,(((rd_T97 l0_0 a1).f1):Int).toNat * 4 + 2,none⟩ (.int .i64 ((rd_T97 l0_0 a1).f2))) ?_;intro w129 hw;have hg:w124.grownBy w129 (some go112):=(by rw [hw];exact HP128.2);have hp_:Kd.R k97 97 w129 w.heap.size (fun k_=>k_≠gb154) (.slice (some ⟨go112,0,none⟩) t142.length co11) y158:=(by rw [hw,Ny158.out];exact HP128.1);clear HP128;replace BK140:=Aside0.mk (blk_grown (bk BK140) hg (Kd.R_ne HO_150000.out BK140.out (by decide)));replace BK141:=Aside0.mk (blk_grown (bk BK141) hg (Kd.R_ne HO_150000.out BK141.out (by decide)));replace BK149:=Aside0.mk (blk_grown (bk BK149) hg (Kd.R_ne HO_150000.out BK149.out (by decide)));replace BK154:=Aside0.mk (blk_grown (bk BK154) hg (Kd.R_away HO_150000.out (fun _ hk=>hk)));replace HO_150000:=Aside0.mk (hp_);replace HB:=Aside0.mk ((by rw [hw];exact below_set (HB.out) GB112.out:Below w.heap.size w w129));clear hg hw hp_;obtain ⟨hcz130_0,hcz130_1,hcz130_2,hcz130_3,hfz130_0,hfz130_1,hfz130_2,hfz130_3⟩:=ck4 BK154.out;obtain ⟨hcz131_0,hcz131_1,hcz131_2,hcz131_3,hcz131_4,hfz131_0,hfz131_1,hfz131_2,hfz131_3,hfz131_4⟩:=ck5 BK149.out)|((with_reducible refine gate_store (t:=3) (p:=52) rfl ?_);refine sx 3 52 (w129.setCell ⟨gb149,2,none⟩ (.int .i64 ((rd_T97 l0_0 a1).f1))) ?_;intro w132 hw;have n0_:Aside0 (Kd.R k97 97 w132 w.heap.size (fun k_=>k_≠gb154) (.slice (some ⟨go112,0,none⟩) t142.length co11) y158):=⟨(by rw [hw];exact (by (with_reducible repeat (first|apply Kd.R_alloc|apply Kd.R_drewN|apply Kd.R_drew));exact Kd.R_mono (Kd.R_far (p:=⟨gb149,2,none⟩) (Kd.R_types HO_150000.out BK149.out (by decide)) (fun _ hk=>hk.2) (.int .i64 ((rd_T97 l0_0 a1).f1))) (fun _ hk=>hk.1)))⟩;have n1_:Aside0 (w132.heap[gb140]? = some (.cells #[.slice (some ad153) l0_0.length c0_0,.int .i64 a0_1,.int .i64 a0_2,.int .i64 a0_3,.int .i64 a0_4] 28 (0,0))):=⟨(by rw [hw];exact (bf BK140))⟩;have n2_:Aside0 (w132.heap[gb141]? = some (.cells #[.slice none 0 0,.int .i64 0,.int .i64 0,.int .i64 0,.int .i64 0] 28 (0,0))):=⟨(by rw [hw];exact (bf BK141))⟩;have n3_:Aside0 (w132.heap[gb149]? = some (.cells #[.slice (some ⟨go112,0,none⟩) t142.length co11,.int .i64 t145,.int .i64 ((rd_T97 l0_0 a1).f1),.int .i64 t147,.int .i64 t148] 28 (0,0))):=⟨(by rw [hw];exact (by (with_reducible repeat (first|refine blk_drewN ?_ _|refine blk_drew ?_|refine blk_alloc ?_ _));refine blk_put (cs:=#[.slice (some ⟨go112,0,none⟩) t142.length co11,.int .i64 t145,.int .i64 t146,.int .i64 t147,.int .i64 t148]) ?_ 2 _ rfl;(with_reducible repeat (first|refine blk_drewN ?_ _|refine blk_drew ?_|refine blk_alloc ?_ _));exact BK149.out))⟩;have n4_:Aside0 (w132.heap[gb154]? = some (.cells #[.int .i64 ((rd_T97 l0_0 a1).f0),.int .i64 ((rd_T97 l0_0 a1).f1),.int .i64 ((rd_T97 l0_0 a1).f2),.bool ((rd_T97 l0_0 a1).f3)] 97 (0,0))):=⟨(by rw [hw];exact (bf BK154))⟩;have n5_:Aside0 (Below w.heap.size w w132):=⟨(by rw [hw];exact bl)⟩;clear hw;clear HO_150000;clear BK140;clear BK141;clear BK149;clear BK154;clear HB;have HO_150000:=n0_;have BK140:=n1_;have BK141:=n2_;have BK149:=n3_;have BK154:=n4_;have HB:=n5_;clear n0_ n1_ n2_ n3_ n4_ n5_;obtain ⟨hcz133_0,hcz133_1,hcz133_2,hcz133_3,hcz133_4,hfz133_0,hfz133_1,hfz133_2,hfz133_3,hfz133_4⟩:=ck5 BK149.out;obtain ⟨hcz134_0,hcz134_1,hcz134_2,hcz134_3,hcz134_4,hfz134_0,hfz134_1,hfz134_2,hfz134_3,hfz134_4⟩:=ck5 BK140.out;have p115:0≤(a1:Int):=of_decide_eq_true (by first|(with_reducible assumption)|assumption);have q115:(a1:Int) < ((t142.length:Int):Int):=of_decide_eq_true (by first|(with_reducible assumption)|assumption);obtain ⟨ce115,hcl115,hM115,hcc115,hfr115⟩:=Kd.R_elem HO_150000.out z97 (a1:Int) p115 q115;obtain rfl:=k97_openM hM115;have hx115_0:w132.cell? ⟨go112,(a1:Int).toNat * 4,none⟩=some (.int .i64 ((rd_T97 y158 a1).f0)):=hcc115 0 _ rfl;have hx115_1:w132.cell? ⟨go112,(a1:Int).toNat * 4 + 1,none⟩=some (.int .i64 ((rd_T97 y158 a1).f1)):=hcc115 1 _ rfl;have hx115_2:w132.cell? ⟨go112,(a1:Int).toNat * 4 + 2,none⟩=some (.int .i64 ((rd_T97 y158 a1).f2)):=hcc115 2 _ rfl;have hx115_3:w132.cell? ⟨go112,(a1:Int).toNat * 4 + 3,none⟩=some (.bool ((rd_T97 y158 a1).f3)):=hcc115 3 _ rfl;have hf115_0:w132.frozen? ⟨go112,(a1:Int).toNat * 4,none⟩=false:=hfr115 0;have hf115_1:w132.frozen? ⟨go112,(a1:Int).toNat * 4 + 1,none⟩=false:=hfr115 1;have hf115_2:w132.frozen? ⟨go112,(a1:Int).toNat * 4 + 2,none⟩=false:=hfr115 2;have hf115_3:w132.frozen? ⟨go112,(a1:Int).toNat * 4 + 3,none⟩=false:=hfr115 3;clear hcl115 hcc115 hfr115 hM115;replace p115:=eq_true p115;replace q115:=eq_true q115;have HX135:=Aside0.mk (show Kd.R k97 97 w132 w.heap.size (fun k_=>k_≠gb154) (.slice (some ⟨go112,0,none⟩) t142.length co11) y158 from (kr HO_150000));obtain ⟨ce135,hcl135,hM135,hcc135,hfr135⟩:=Kd.R_elem HX135.out z97 (a1:Int) (of_decide_eq_true (by first|(with_reducible assumption)|assumption)) (by have h_:(a1:Int) < ((t142.length:Int):Int):=of_decide_eq_true (by first|(with_reducible assumption)|assumption);first|exact h_|(have e_:=(Kd.R_reads' HO_150000.out).1;omega)|simpa using h_);obtain rfl:=k97_openM hM135;have HP135:=Kd.R_seg HX135.out (a1:Int) (of_decide_eq_true (by first|(with_reducible assumption)|assumption)) (by have h_:(a1:Int) < ((t142.length:Int):Int):=of_decide_eq_true (by first|(with_reducible assumption)|assumption);first|exact h_|(have e_:=(Kd.R_reads' HO_150000.out).1;omega)|simpa using h_) (seg:=[.int .i64 0,.int .i64 (-1),.int .i64 a0_3,.bool false]) (j:=0) hcl135 hcc135 (show 4≤4 from by decide) (x':=(⟨0,(-1),a0_3,false⟩:S97)) (k97_mkM _ _ _ (⟨0,(-1),a0_3,false⟩:S97) ) (fun _ hk=>hk);have hx135_0:=hcc135 0 _ rfl;(try simp only [show (k97).sz=4 from rfl,Nat.mul_one,Nat.add_zero] at hx135_0);have hf135_0:=hfr135 0;(try simp only [show (k97).sz=4 from rfl,Nat.mul_one,Nat.add_zero] at hf135_0);have hx135_1:=hcc135 1 _ rfl;(try simp only [show (k97).sz=4 from rfl,Nat.mul_one,Nat.add_zero] at hx135_1);have hf135_1:=hfr135 1;(try simp only [show (k97).sz=4 from rfl,Nat.mul_one,Nat.add_zero] at hf135_1);have hx135_2:=hcc135 2 _ rfl;(try simp only [show (k97).sz=4 from rfl,Nat.mul_one,Nat.add_zero] at hx135_2);have hf135_2:=hfr135 2;(try simp only [show (k97).sz=4 from rfl,Nat.mul_one,Nat.add_zero] at hf135_2);have hx135_3:=hcc135 3 _ rfl;(try simp only [show (k97).sz=4 from rfl,Nat.mul_one,Nat.add_zero] at hx135_3);have hf135_3:=hfr135 3;(try simp only [show (k97).sz=4 from rfl,Nat.mul_one,Nat.add_zero] at hf135_3);clear hcl135 hcc135 hfr135 hM135)|((with_reducible refine gate_store (t:=97) (p:=67) rfl ?_);refine sx 97 67 ((((w132.setCell ⟨go112,(a1:Int).toNat * 4,none⟩ (.int .i64 0)).setCell ⟨go112,(a1:Int).toNat * 4 + 1,none⟩ (.int .i64 (-1))).setCell ⟨go112,(a1:Int).toNat * 4 + 2,none⟩ (.int .i64 a0_3)).setCell ⟨go112,(a1:Int).toNat * 4 + 3,none⟩ (.bool false)) ?_;intro w136 hw;have hg:w132.grownBy w136 (some go112):=(by rw [hw];exact HP135.2);have hp_:Kd.R k97 97 w136 w.heap.size (fun k_=>k_≠gb154) (.slice (some ⟨go112,0,none⟩) t142.length co11) y159:=(by rw [hw,Ny159.out];exact HP135.1);clear HP135;replace BK140:=Aside0.mk (blk_grown (bk BK140) hg (Kd.R_ne HO_150000.out BK140.out (by decide)));replace BK141:=Aside0.mk (blk_grown (bk BK141) hg (Kd.R_ne HO_150000.out BK141.out (by decide)));replace BK149:=Aside0.mk (blk_grown (bk BK149) hg (Kd.R_ne HO_150000.out BK149.out (by decide)));replace BK154:=Aside0.mk (blk_grown (bk BK154) hg (Kd.R_away HO_150000.out (fun _ hk=>hk)));replace HO_150000:=Aside0.mk (hp_);replace HB:=Aside0.mk ((by rw [hw];exact below_set (below_set (below_set (below_set (HB.out) GB112.out) GB112.out) GB112.out) GB112.out:Below w.heap.size w w136));clear hg hw hp_;obtain ⟨hcz137_0,hcz137_1,hcz137_2,hcz137_3,hcz137_4,hfz137_0,hfz137_1,hfz137_2,hfz137_3,hfz137_4⟩:=ck5 BK149.out;obtain ⟨hcz138_0,hcz138_1,hcz138_2,hcz138_3,hcz138_4,hfz138_0,hfz138_1,hfz138_2,hfz138_3,hfz138_4⟩:=ck5 BK140.out))
           have n0_:Aside0 (Kd.R k97 97 ((w136.setCell ⟨gb149,3,none⟩ (.int .i64 a1)).setCell ⟨gb149,4,none⟩ (.int .i64 (wrap64 (a0_4 - 1)))) w.heap.size (fun k_=>k_≠gb154) (.slice (some ⟨go112,0,none⟩) t142.length co11) y159):=⟨by (with_reducible repeat (first|apply Kd.R_alloc|apply Kd.R_drewN|apply Kd.R_drew));exact Kd.R_mono (Kd.R_far (p:=⟨gb149,4,none⟩) (Kd.R_far (p:=⟨gb149,3,none⟩) (Kd.R_types HO_150000.out BK149.out (by decide)) (fun _ hk=>hk.2) (.int .i64 a1)) (fun _ hk=>hk.2) (.int .i64 (wrap64 (a0_4 - 1)))) (fun _ hk=>hk.1)⟩
           have n1_:Aside0 (((w136.setCell ⟨gb149,3,none⟩ (.int .i64 a1)).setCell ⟨gb149,4,none⟩ (.int .i64 (wrap64 (a0_4 - 1)))).heap[gb140]? = some (.cells #[.slice (some ad153) l0_0.length c0_0,.int .i64 a0_1,.int .i64 a0_2,.int .i64 a0_3,.int .i64 a0_4] 28 (0,0))):=⟨bf BK140⟩
           have n2_:Aside0 (((w136.setCell ⟨gb149,3,none⟩ (.int .i64 a1)).setCell ⟨gb149,4,none⟩ (.int .i64 (wrap64 (a0_4 - 1)))).heap[gb141]? = some (.cells #[.slice none 0 0,.int .i64 0,.int .i64 0,.int .i64 0,.int .i64 0] 28 (0,0))):=⟨bf BK141⟩
           have n3_:Aside0 (((w136.setCell ⟨gb149,3,none⟩ (.int .i64 a1)).setCell ⟨gb149,4,none⟩ (.int .i64 (wrap64 (a0_4 - 1)))).heap[gb149]? = some (.cells #[.slice (some ⟨go112,0,none⟩) t142.length co11,.int .i64 t145,.int .i64 ((rd_T97 l0_0 a1).f1),.int .i64 a1,.int .i64 (wrap64 (a0_4 - 1))] 28 (0,0))):=⟨by (with_reducible repeat (first|refine blk_drewN ?_ _|refine blk_drew ?_|refine blk_alloc ?_ _));refine blk_put (cs:=#[.slice (some ⟨go112,0,none⟩) t142.length co11,.int .i64 t145,.int .i64 ((rd_T97 l0_0 a1).f1),.int .i64 a1,.int .i64 t148]) ?_ 4 _ rfl;(with_reducible repeat (first|refine blk_drewN ?_ _|refine blk_drew ?_|refine blk_alloc ?_ _));refine blk_put (cs:=#[.slice (some ⟨go112,0,none⟩) t142.length co11,.int .i64 t145,.int .i64 ((rd_T97 l0_0 a1).f1),.int .i64 t147,.int .i64 t148]) ?_ 3 _ rfl;(with_reducible repeat (first|refine blk_drewN ?_ _|refine blk_drew ?_|refine blk_alloc ?_ _));exact BK149.out⟩
           have n4_:Aside0 (((w136.setCell ⟨gb149,3,none⟩ (.int .i64 a1)).setCell ⟨gb149,4,none⟩ (.int .i64 (wrap64 (a0_4 - 1)))).heap[gb154]? = some (.cells #[.int .i64 ((rd_T97 l0_0 a1).f0),.int .i64 ((rd_T97 l0_0 a1).f1),.int .i64 ((rd_T97 l0_0 a1).f2),.bool ((rd_T97 l0_0 a1).f3)] 97 (0,0))):=⟨bf BK154⟩
           have n5_:Aside0 (Below w.heap.size w ((w136.setCell ⟨gb149,3,none⟩ (.int .i64 a1)).setCell ⟨gb149,4,none⟩ (.int .i64 (wrap64 (a0_4 - 1))))):=⟨bl⟩
           (try clear HO_150000)
           (try clear BK140)
           (try clear BK141)
           (try clear BK149)
           (try clear BK154)
           (try clear HB)
           generalize ((w136.setCell ⟨gb149,3,none⟩ (.int .i64 a1)).setCell ⟨gb149,4,none⟩ (.int .i64 (wrap64 (a0_4 - 1))))=w139 at n0_ n1_ n2_ n3_ n4_ n5_ ⊢
           have HO_150000:=n0_
           have BK140:=n1_
           have BK141:=n2_
           have BK149:=n3_
           have BK154:=n4_
           have HB:=n5_
           clear n0_ n1_ n2_ n3_ n4_ n5_
           replace HO_150000:=Aside0.mk (Kd.R_drew HO_150000.out)
           replace BK140:=Aside0.mk (blk_drew BK140.out)
           replace BK141:=Aside0.mk (blk_drew BK141.out)
           replace BK149:=Aside0.mk (blk_drew BK149.out)
           replace BK154:=Aside0.mk (blk_drew BK154.out)
           replace HB:=Aside0.mk (below_drew1 HB.out)
           refine start_ (n:=5) (S:=fun w'=>w'.cell? ⟨gb149,0,none⟩=some (.slice (some ⟨go112,0,none⟩) t142.length co11)∧w'.cell? ⟨gb149,1,none⟩=some (.int .i64 t145)∧w'.cell? ⟨gb149,2,none⟩=some (.int .i64 ((rd_T97 l0_0 a1).f1))∧w'.cell? ⟨gb149,3,none⟩=some (.int .i64 a1)∧w'.cell? ⟨gb149,4,none⟩=some (.int .i64 (wrap64 (a0_4 - 1)))∧w'.cell? ⟨gb154,0,none⟩=some (.int .i64 ((rd_T97 l0_0 a1).f0))∧w'.cell? ⟨gb154,1,none⟩=some (.int .i64 ((rd_T97 l0_0 a1).f1))∧w'.cell? ⟨gb154,2,none⟩=some (.int .i64 ((rd_T97 l0_0 a1).f2))∧w'.cell? ⟨gb154,3,none⟩=some (.bool ((rd_T97 l0_0 a1).f3))) (ds:=[]) (bs 5 0) (by kernel_rfl) rfl rfl ⟨bc BK149 0,bc BK149 1,bc BK149 2,bc BK149 3,bc BK149 4,bc BK154 0,bc BK154 1,bc BK154 2,bc BK154 3⟩ (fun hHeld=>?_)
           generalize w139.drew=w140 at HO_150000 BK140 BK141 BK149 BK154 HB hHeld ⊢
           refine pk 1 75 (bs 5 2) ?_
           refine tk 0 74 (bs 5 3) hHeld ?_
           refine tk 2 76 (bs 5 7) hHeld ?_
           refine one_ (i:=3) (N:=none) (bs 5 15) rfl rfl (by kernel_rfl) (by decide) (fun K hK=>?_)
           have hs141:w140.cell? ⟨gb141,0,none⟩=some (.slice none 0 0):=(blk_cell BK141.out 0).trans rfl
           have hfs141:=blk_frozen BK141.out 0
           have hns141_0:=NB140_141.out
           have hns141_2:=NB149_141.out
           have hns141_3:=NB154_141.out
           have hms141_0:=NB141_140.out
           have hms141_2:=NB141_149.out
           have hms141_3:=NB141_154.out
           have hs142:w140.cell? ⟨gb141,1,none⟩=some (.int .i64 0):=(blk_cell BK141.out 1).trans rfl
           have hfs142:=blk_frozen BK141.out 1
           have hns142_0:=NB140_141.out
           have hns142_2:=NB149_141.out
           have hns142_3:=NB154_141.out
           have hms142_0:=NB141_140.out
           have hms142_2:=NB141_149.out
           have hms142_3:=NB141_154.out
           have hs143:w140.cell? ⟨gb141,2,none⟩=some (.int .i64 0):=(blk_cell BK141.out 2).trans rfl
           have hfs143:=blk_frozen BK141.out 2
           have hns143_0:=NB140_141.out
           have hns143_2:=NB149_141.out
           have hns143_3:=NB154_141.out
           have hms143_0:=NB141_140.out
           have hms143_2:=NB141_149.out
           have hms143_3:=NB141_154.out
           have hs144:w140.cell? ⟨gb141,3,none⟩=some (.int .i64 0):=(blk_cell BK141.out 3).trans rfl
           have hfs144:=blk_frozen BK141.out 3
           have hns144_0:=NB140_141.out
           have hns144_2:=NB149_141.out
           have hns144_3:=NB154_141.out
           have hms144_0:=NB141_140.out
           have hms144_2:=NB141_149.out
           have hms144_3:=NB141_154.out
           have hs145:w140.cell? ⟨gb141,4,none⟩=some (.int .i64 0):=(blk_cell BK141.out 4).trans rfl
           have hfs145:=blk_frozen BK141.out 4
           have hns145_0:=NB140_141.out
           have hns145_2:=NB149_141.out
           have hns145_3:=NB154_141.out
           have hms145_0:=NB141_140.out
           have hms145_2:=NB141_149.out
           have hms145_3:=NB141_154.out
           refine skip_ (w1:=?_) (by rfl) rfl ?_ ?_
           rotate_left
           ·go_simp
            rfl
           refine hK.out _ _ ⟨((cell_far (p:=⟨gb141,_,none⟩) NB149_141.out _).trans (((cell_far (p:=⟨gb141,_,none⟩) NB149_141.out _).trans (((cell_far (p:=⟨gb141,_,none⟩) NB149_141.out _).trans (((cell_far (p:=⟨gb141,_,none⟩) NB149_141.out _).trans (((cell_far (p:=⟨gb141,_,none⟩) NB149_141.out _).trans (hHeld.1)))))))))),((cell_far (p:=⟨gb141,_,none⟩) NB149_141.out _).trans (((cell_far (p:=⟨gb141,_,none⟩) NB149_141.out _).trans (((cell_far (p:=⟨gb141,_,none⟩) NB149_141.out _).trans (((cell_far (p:=⟨gb141,_,none⟩) NB149_141.out _).trans (((cell_far (p:=⟨gb141,_,none⟩) NB149_141.out _).trans (hHeld.2.1)))))))))),((cell_far (p:=⟨gb141,_,none⟩) NB149_141.out _).trans (((cell_far (p:=⟨gb141,_,none⟩) NB149_141.out _).trans (((cell_far (p:=⟨gb141,_,none⟩) NB149_141.out _).trans (((cell_far (p:=⟨gb141,_,none⟩) NB149_141.out _).trans (((cell_far (p:=⟨gb141,_,none⟩) NB149_141.out _).trans (hHeld.2.2.1)))))))))),((cell_far (p:=⟨gb141,_,none⟩) NB149_141.out _).trans (((cell_far (p:=⟨gb141,_,none⟩) NB149_141.out _).trans (((cell_far (p:=⟨gb141,_,none⟩) NB149_141.out _).trans (((cell_far (p:=⟨gb141,_,none⟩) NB149_141.out _).trans (((cell_far (p:=⟨gb141,_,none⟩) NB149_141.out _).trans (hHeld.2.2.2.1)))))))))),((cell_far (p:=⟨gb141,_,none⟩) NB149_141.out _).trans (((cell_far (p:=⟨gb141,_,none⟩) NB149_141.out _).trans (((cell_far (p:=⟨gb141,_,none⟩) NB149_141.out _).trans (((cell_far (p:=⟨gb141,_,none⟩) NB149_141.out _).trans (((cell_far (p:=⟨gb141,_,none⟩) NB149_141.out _).trans (hHeld.2.2.2.2.1)))))))))),((cell_far (p:=⟨gb141,_,none⟩) NB154_141.out _).trans (((cell_far (p:=⟨gb141,_,none⟩) NB154_141.out _).trans (((cell_far (p:=⟨gb141,_,none⟩) NB154_141.out _).trans (((cell_far (p:=⟨gb141,_,none⟩) NB154_141.out _).trans (((cell_far (p:=⟨gb141,_,none⟩) NB154_141.out _).trans (hHeld.2.2.2.2.2.1)))))))))),((cell_far (p:=⟨gb141,_,none⟩) NB154_141.out _).trans (((cell_far (p:=⟨gb141,_,none⟩) NB154_141.out _).trans (((cell_far (p:=⟨gb141,_,none⟩) NB154_141.out _).trans (((cell_far (p:=⟨gb141,_,none⟩) NB154_141.out _).trans (((cell_far (p:=⟨gb141,_,none⟩) NB154_141.out _).trans (hHeld.2.2.2.2.2.2.1)))))))))),((cell_far (p:=⟨gb141,_,none⟩) NB154_141.out _).trans (((cell_far (p:=⟨gb141,_,none⟩) NB154_141.out _).trans (((cell_far (p:=⟨gb141,_,none⟩) NB154_141.out _).trans (((cell_far (p:=⟨gb141,_,none⟩) NB154_141.out _).trans (((cell_far (p:=⟨gb141,_,none⟩) NB154_141.out _).trans (hHeld.2.2.2.2.2.2.2.1)))))))))),((cell_far (p:=⟨gb141,_,none⟩) NB154_141.out _).trans (((cell_far (p:=⟨gb141,_,none⟩) NB154_141.out _).trans (((cell_far (p:=⟨gb141,_,none⟩) NB154_141.out _).trans (((cell_far (p:=⟨gb141,_,none⟩) NB154_141.out _).trans (((cell_far (p:=⟨gb141,_,none⟩) NB154_141.out _).trans (hHeld.2.2.2.2.2.2.2.2))))))))))⟩ (fun hHeld=>?_)
           clear hK K
           refine pk 4 5 (bs 5 31) ?_
           refine done_ (by kernel_rfl) ?_
           try go_wp2
           refine bodyPost_ret (results_ct rfl _ _ gb141 28 #[.slice (some ⟨go112,0,none⟩) t142.length co11,.int .i64 t145,.int .i64 ((rd_T97 l0_0 a1).f1),.int .i64 a1,.int .i64 (wrap64 (a0_4 - 1))] (0,0) _ rfl (by (with_reducible repeat (first|refine blk_drewN ?_ _|refine blk_drew ?_|refine blk_alloc ?_ _));refine blk_put (cs:=#[.slice (some ⟨go112,0,none⟩) t142.length co11,.int .i64 t145,.int .i64 ((rd_T97 l0_0 a1).f1),.int .i64 a1,.int .i64 0]) ?_ 4 _ rfl;(with_reducible repeat (first|refine blk_drewN ?_ _|refine blk_drew ?_|refine blk_alloc ?_ _));refine blk_put (cs:=#[.slice (some ⟨go112,0,none⟩) t142.length co11,.int .i64 t145,.int .i64 ((rd_T97 l0_0 a1).f1),.int .i64 0,.int .i64 0]) ?_ 3 _ rfl;(with_reducible repeat (first|refine blk_drewN ?_ _|refine blk_drew ?_|refine blk_alloc ?_ _));refine blk_put (cs:=#[.slice (some ⟨go112,0,none⟩) t142.length co11,.int .i64 t145,.int .i64 0,.int .i64 0,.int .i64 0]) ?_ 2 _ rfl;(with_reducible repeat (first|refine blk_drewN ?_ _|refine blk_drew ?_|refine blk_alloc ?_ _));refine blk_put (cs:=#[.slice (some ⟨go112,0,none⟩) t142.length co11,.int .i64 0,.int .i64 0,.int .i64 0,.int .i64 0]) ?_ 1 _ rfl;(with_reducible repeat (first|refine blk_drewN ?_ _|refine blk_drew ?_|refine blk_alloc ?_ _));refine blk_put (cs:=#[.slice none 0 0,.int .i64 0,.int .i64 0,.int .i64 0,.int .i64 0]) ?_ 0 _ rfl;(with_reducible repeat (first|refine blk_drewN ?_ _|refine blk_drew ?_|refine blk_alloc ?_ _));exact BK141.out) Try.underlying28 rfl (by kernel_rfl)) rfl ?_
           exact ⟨_,by first|rfl|(simp [errW_none,errW_some] <;> rfl)|(simp [*,errW_none,errW_some] <;> rfl),by (with_reducible repeat (first|apply Kd.R_alloc|apply Kd.R_drewN|apply Kd.R_drew));exact Kd.R_mono (Kd.R_far (p:=⟨gb141,4,none⟩) (Kd.R_far (p:=⟨gb141,3,none⟩) (Kd.R_far (p:=⟨gb141,2,none⟩) (Kd.R_far (p:=⟨gb141,1,none⟩) (Kd.R_far (p:=⟨gb141,0,none⟩) (Kd.R_types HO_150000.out BK141.out (by decide)) (fun _ hk=>hk.2) (.slice (some ⟨go112,0,none⟩) t142.length co11)) (fun _ hk=>hk.2) (.int .i64 t145)) (fun _ hk=>hk.2) (.int .i64 ((rd_T97 l0_0 a1).f1))) (fun _ hk=>hk.2) (.int .i64 a1)) (fun _ hk=>hk.2) (.int .i64 (wrap64 (a0_4 - 1)))) (fun _ hk=>trivial),bl⟩
          ·rw [if_neg c114] at H
           exact absurd H (by simp)
         ·rw [if_neg c113] at H
          have c113b0:(((rd_T97 l0_0 a1).f2) == (-1))=false:=beq_eq_false_iff_ne.mpr c113
          have c113b1:(((rd_T97 l0_0 a1).f2) != (-1))=true:=bne_iff_ne.mpr c113
          by_cases c146:0≤((rd_T97 l0_0 a1).f2)
          ·rw [if_pos c146] at H
           have c146b0:decide (0≤((rd_T97 l0_0 a1).f2))=true:=decide_eq_true c146
           clear c146
           by_cases c147:((rd_T97 l0_0 a1).f2) < (t142.length:Int)
           ·rw [if_pos c147] at H
            have c147b0:decide (((rd_T97 l0_0 a1).f2) < (t142.length:Int))=true:=decide_eq_true c147
            clear c147
            obtain ⟨y160,hy160⟩:∃ y_:List (S97),y_=(y158.set (((rd_T97 l0_0 a1).f2):Int).toNat (⟨(rd_T97 y158 ((rd_T97 l0_0 a1).f2)).f0,(rd_T97 l0_0 a1).f1,(rd_T97 y158 ((rd_T97 l0_0 a1).f2)).f2,(rd_T97 y158 ((rd_T97 l0_0 a1).f2)).f3⟩:S97)):=⟨_,rfl⟩
            replace H:(if a1 < (t142.length:Int) then (some ((y160.set (a1:Int).toNat (⟨0,(-1),a0_3,false⟩:S97)),t145,t146,a1,wrap64 (a0_4 - 1),(rd_T97 l0_0 a1).f0)) else (none))=some (r1,r2,r3,r4,r5,r6):=by first|(rw [hy160];with_reducible exact H)|(have H2_:=(Option.bind_some _ _).symm.trans H;rw [hy160];with_reducible exact H2_)|(have H2_:=(Option.bind_some _ _).symm.trans H;with_reducible exact H2_)|with_reducible exact H|(rw [hy160];exact H)|exact H
            have Ny160:=Aside0.mk hy160
            clear hy160
            by_cases c149:a1 < (t142.length:Int)
            ·rw [if_pos c149] at H
             have c149b0:decide (a1 < (t142.length:Int))=true:=decide_eq_true c149
             clear c149
             obtain ⟨y161,hy161⟩:∃ y_:List (S97),y_=(y160.set (a1:Int).toNat (⟨0,(-1),a0_3,false⟩:S97)):=⟨_,rfl⟩
             replace H:(some (y161,t145,t146,a1,wrap64 (a0_4 - 1),(rd_T97 l0_0 a1).f0))=some (r1,r2,r3,r4,r5,r6):=by first|(rw [hy161];with_reducible exact H)|(have H2_:=(Option.bind_some _ _).symm.trans H;rw [hy161];with_reducible exact H2_)|(have H2_:=(Option.bind_some _ _).symm.trans H;with_reducible exact H2_)|with_reducible exact H|(rw [hy161];exact H)|exact H
             have Ny161:=Aside0.mk hy161
             clear hy161
             simp only [Option.some.injEq,Prod.mk.injEq] at H
             obtain ⟨rfl,rfl,rfl,rfl,rfl,rfl⟩:=H
             have hnb151:=NB140_141.out
             have hnc151:=NB141_140.out
             have hnb152:=NB140_149.out
             have hnc152:=NB149_140.out
             obtain ⟨hcz153_0,hcz153_1,hcz153_2,hcz153_3,hcz153_4,hfz153_0,hfz153_1,hfz153_2,hfz153_3,hfz153_4⟩:=ck5 BK140.out
             have p153:0≤(a1:Int):=of_decide_eq_true (by first|(with_reducible assumption)|assumption)
             have q153:a1 < (l0_0.length:Int):=of_decide_eq_true (by first|(with_reducible assumption)|assumption)
             obtain ⟨ad153,e153,hx153_0,hx153_1,hx153_2,hx153_3⟩:=at_T97 HR0_0.out a1 p153 q153
             cases e153
             replace hx153_0:=cl HB hx153_0
             replace hx153_1:=cl HB hx153_1
             replace hx153_2:=cl HB hx153_2
             replace hx153_3:=cl HB hx153_3
             replace p153:=eq_true p153
             replace q153:=eq_true q153
             try go_wp2_with (first|((with_reducible refine gate_dst (N:=7) rfl ?_);refine bx 7 #[.int .i64 0,.int .i64 0,.int .i64 0,.bool false] 97 ?_;intro gb154 hg w154 hbox hb;replace HO_150000:=Aside0.mk (Kd.R_below (Kd.R_elderB (kr HO_150000) gb154 (Nat.le_of_eq hg.symm)) hb);have BK154:=Aside0.mk (hbox);have GW154:=Aside0.mk (bz hg:w.heap.size≤gb154);have GE154:=GW154;replace HB:=Aside0.mk (below_step bl hb);have NB140_154:=Aside0.mk (nl hg BK140:gb140≠gb154);have NB154_140:=Aside0.mk (nr hg BK140:gb154≠gb140);replace BK140:=Aside0.mk (blk_below (bk BK140) hb);have NB141_154:=Aside0.mk (nl hg BK141:gb141≠gb154);have NB154_141:=Aside0.mk (nr hg BK141:gb154≠gb141);replace BK141:=Aside0.mk (blk_below (bk BK141) hb);have NB149_154:=Aside0.mk (nl hg BK149:gb149≠gb154);have NB154_149:=Aside0.mk (nr hg BK149:gb154≠gb149);replace BK149:=Aside0.mk (blk_below (bk BK149) hb);clear hb hbox hg;have hnb155:=NB154_140.out;have hnc155:=NB140_154.out;have hnb156:=NB154_141.out;have hnc156:=NB141_154.out;have hnb157:=NB154_149.out;have hnc157:=NB149_154.out;obtain ⟨hcz158_0,hcz158_1,hcz158_2,hcz158_3,hfz158_0,hfz158_1,hfz158_2,hfz158_3⟩:=ck4 BK154.out)|((with_reducible refine gate_store (t:=97) (p:=7) rfl ?_);refine sx 97 7 ((((w154.setCell ⟨gb154,0,none⟩ (.int .i64 ((rd_T97 l0_0 a1).f0))).setCell ⟨gb154,1,none⟩ (.int .i64 ((rd_T97 l0_0 a1).f1))).setCell ⟨gb154,2,none⟩ (.int .i64 ((rd_T97 l0_0 a1).f2))).setCell ⟨gb154,3,none⟩ (.bool ((rd_T97 l0_0 a1).f3))) ?_;intro w159 hw;have n0_:Aside0 (Kd.R k97 97 w159 w.heap.size (fun k_=>k_≠gb154) (.slice Ao11 t142.length co11) t142):=⟨(by rw [hw];exact (by (with_reducible repeat (first|apply Kd.R_alloc|apply Kd.R_drewN|apply Kd.R_drew));exact Kd.R_mono (Kd.R_far (p:=⟨gb154,3,none⟩) (Kd.R_far (p:=⟨gb154,2,none⟩) (Kd.R_far (p:=⟨gb154,1,none⟩) (Kd.R_far (p:=⟨gb154,0,none⟩) (Kd.R_mono HO_150000.out (fun k_ hk=>(⟨hk,hk.2⟩:_∧k_≠gb154))) (fun _ hk=>hk.2) (.int .i64 ((rd_T97 l0_0 a1).f0))) (fun _ hk=>hk.2) (.int .i64 ((rd_T97 l0_0 a1).f1))) (fun _ hk=>hk.2) (.int .i64 ((rd_T97 l0_0 a1).f2))) (fun _ hk=>hk.2) (.bool ((rd_T97 l0_0 a1).f3))) (fun _ hk=>hk.1.2)))⟩;have n1_:Aside0 (w159.heap[gb140]? = some (.cells #[.slice (some ad153) l0_0.length c0_0,.int .i64 a0_1,.int .i64 a0_2,.int .i64 a0_3,.int .i64 a0_4] 28 (0,0))):=⟨(by rw [hw];exact (bf BK140))⟩;have n2_:Aside0 (w159.heap[gb141]? = some (.cells #[.slice none 0 0,.int .i64 0,.int .i64 0,.int .i64 0,.int .i64 0] 28 (0,0))):=⟨(by rw [hw];exact (bf BK141))⟩;have n3_:Aside0 (w159.heap[gb149]? = some (.cells #[.slice Ao11 t142.length co11,.int .i64 t145,.int .i64 t146,.int .i64 t147,.int .i64 t148] 28 (0,0))):=⟨(by rw [hw];exact (bf BK149))⟩;have n4_:Aside0 (w159.heap[gb154]? = some (.cells #[.int .i64 ((rd_T97 l0_0 a1).f0),.int .i64 ((rd_T97 l0_0 a1).f1),.int .i64 ((rd_T97 l0_0 a1).f2),.bool ((rd_T97 l0_0 a1).f3)] 97 (0,0))):=⟨(by rw [hw];exact (by (with_reducible repeat (first|refine blk_drewN ?_ _|refine blk_drew ?_|refine blk_alloc ?_ _));refine blk_put (cs:=#[.int .i64 ((rd_T97 l0_0 a1).f0),.int .i64 ((rd_T97 l0_0 a1).f1),.int .i64 ((rd_T97 l0_0 a1).f2),.bool false]) ?_ 3 _ rfl;(with_reducible repeat (first|refine blk_drewN ?_ _|refine blk_drew ?_|refine blk_alloc ?_ _));refine blk_put (cs:=#[.int .i64 ((rd_T97 l0_0 a1).f0),.int .i64 ((rd_T97 l0_0 a1).f1),.int .i64 0,.bool false]) ?_ 2 _ rfl;(with_reducible repeat (first|refine blk_drewN ?_ _|refine blk_drew ?_|refine blk_alloc ?_ _));refine blk_put (cs:=#[.int .i64 ((rd_T97 l0_0 a1).f0),.int .i64 0,.int .i64 0,.bool false]) ?_ 1 _ rfl;(with_reducible repeat (first|refine blk_drewN ?_ _|refine blk_drew ?_|refine blk_alloc ?_ _));refine blk_put (cs:=#[.int .i64 0,.int .i64 0,.int .i64 0,.bool false]) ?_ 0 _ rfl;(with_reducible repeat (first|refine blk_drewN ?_ _|refine blk_drew ?_|refine blk_alloc ?_ _));exact BK154.out))⟩;have n5_:Aside0 (Below w.heap.size w w159):=⟨(by rw [hw];exact bl)⟩;clear hw;clear HO_150000;clear BK140;clear BK141;clear BK149;clear BK154;clear HB;have HO_150000:=n0_;have BK140:=n1_;have BK141:=n2_;have BK149:=n3_;have BK154:=n4_;have HB:=n5_;clear n0_ n1_ n2_ n3_ n4_ n5_;obtain ⟨hcz160_0,hcz160_1,hcz160_2,hcz160_3,hfz160_0,hfz160_1,hfz160_2,hfz160_3⟩:=ck4 BK154.out;have hnb161:=NB149_141.out;have hnc161:=NB141_149.out;obtain ⟨hcz162_0,hcz162_1,hcz162_2,hcz162_3,hcz162_4,hfz162_0,hfz162_1,hfz162_2,hfz162_3,hfz162_4⟩:=ck5 BK149.out;have p112:0≤(((rd_T97 l0_0 a1).f1):Int):=of_decide_eq_true (by first|(with_reducible assumption)|assumption);have q112:(((rd_T97 l0_0 a1).f1):Int) < ((t142.length:Int):Int):=of_decide_eq_true (by first|(with_reducible assumption)|assumption);obtain ⟨go112,co112,eo112,gb112,gl112,cl112,HG112⟩:=Kd.R_form HO_150000.out (by omega);(first|cases eo112|(injection eo112 with ea_ en_ ec_;(first|subst ea_|(injection ea_ with ea_;subst ea_));subst ec_;clear en_));have GB112:=Aside0.mk gb112;have GG112:=Aside0.mk HG112;clear gb112 gl112 HG112;obtain ⟨ce112,hcl112,hM112,hcc112,hfr112⟩:=Kd.R_elem HO_150000.out z97 (((rd_T97 l0_0 a1).f1):Int) p112 q112;obtain rfl:=k97_openM hM112;have hx112_0:w159.cell? ⟨go112,(((rd_T97 l0_0 a1).f1):Int).toNat * 4,none⟩=some (.int .i64 ((rd_T97 t142 ((rd_T97 l0_0 a1).f1)).f0)):=hcc112 0 _ rfl;have hx112_1:w159.cell? ⟨go112,(((rd_T97 l0_0 a1).f1):Int).toNat * 4 + 1,none⟩=some (.int .i64 ((rd_T97 t142 ((rd_T97 l0_0 a1).f1)).f1)):=hcc112 1 _ rfl;have hx112_2:w159.cell? ⟨go112,(((rd_T97 l0_0 a1).f1):Int).toNat * 4 + 2,none⟩=some (.int .i64 ((rd_T97 t142 ((rd_T97 l0_0 a1).f1)).f2)):=hcc112 2 _ rfl;have hx112_3:w159.cell? ⟨go112,(((rd_T97 l0_0 a1).f1):Int).toNat * 4 + 3,none⟩=some (.bool ((rd_T97 t142 ((rd_T97 l0_0 a1).f1)).f3)):=hcc112 3 _ rfl;have hf112_0:w159.frozen? ⟨go112,(((rd_T97 l0_0 a1).f1):Int).toNat * 4,none⟩=false:=hfr112 0;have hf112_1:w159.frozen? ⟨go112,(((rd_T97 l0_0 a1).f1):Int).toNat * 4 + 1,none⟩=false:=hfr112 1;have hf112_2:w159.frozen? ⟨go112,(((rd_T97 l0_0 a1).f1):Int).toNat * 4 + 2,none⟩=false:=hfr112 2;have hf112_3:w159.frozen? ⟨go112,(((rd_T97 l0_0 a1).f1):Int).toNat * 4 + 3,none⟩=false:=hfr112 3;clear hcl112 hcc112 hfr112 hM112;replace p112:=eq_true p112;replace q112:=eq_true q112;have HX163:=Aside0.mk (show Kd.R k97 97 w159 w.heap.size (fun k_=>k_≠gb154) (.slice (some ⟨go112,0,none⟩) t142.length co11) t142 from (kr HO_150000));obtain ⟨ce163,hcl163,hM163,hcc163,hfr163⟩:=Kd.R_elem HX163.out z97 (((rd_T97 l0_0 a1).f1):Int) (of_decide_eq_true (by first|(with_reducible assumption)|assumption)) (by have h_:(((rd_T97 l0_0 a1).f1):Int) < ((t142.length:Int):Int):=of_decide_eq_true (by first|(with_reducible assumption)|assumption);first|exact h_|(have e_:=(Kd.R_reads' HO_150000.out).1;omega)|simpa using h_);obtain rfl:=k97_openM hM163;have HP163:=Kd.R_seg HX163.out (((rd_T97 l0_0 a1).f1):Int) (of_decide_eq_true (by first|(with_reducible assumption)|assumption)) (by have h_:(((rd_T97 l0_0 a1).f1):Int) < ((t142.length:Int):Int):=of_decide_eq_true (by first|(with_reducible assumption)|assumption);first|exact h_|(have e_:=(Kd.R_reads' HO_150000.out).1;omega)|simpa using h_) (seg:=[.int .i64 ((rd_T97 l0_0 a1).f2)]) (j:=2) hcl163 hcc163 (show 3≤4 from by decide) (x':=(⟨(rd_T97 t142 ((rd_T97 l0_0 a1).f1)).f0,(rd_T97 t142 ((rd_T97 l0_0 a1).f1)).f1,(rd_T97 l0_0 a1).f2,(rd_T97 t142 ((rd_T97 l0_0 a1).f1)).f3⟩:S97)) (k97_mkM _ _ _ (⟨(rd_T97 t142 ((rd_T97 l0_0 a1).f1)).f0,(rd_T97 t142 ((rd_T97 l0_0 a1).f1)).f1,(rd_T97 l0_0 a1).f2,(rd_T97 t142 ((rd_T97 l0_0 a1).f1)).f3⟩:S97) ) (fun _ hk=>hk);have hx163_2:=hcc163 2 _ rfl;(try simp only [show (k97).sz=4 from rfl,Nat.mul_one,Nat.add_zero] at hx163_2);have hf163_2:=hfr163 2;(try simp only [show (k97).sz=4 from rfl,Nat.mul_one,Nat.add_zero] at hf163_2);clear hcl163 hcc163 hfr163 hM163)|((with_reducible refine gate_store (t:=3) (p:=46) rfl ?_);refine sx 3 46 (w159.setCell ⟨go112,(((rd_T97 l0_0 a1).f1):Int).toNat * 4 + 2,none⟩ (.int .i64 ((rd_T97 l0_0 a1).f2))) ?_;intro w164 hw;have hg:w159.grownBy w164 (some go112):=(by rw [hw];exact HP163.2);have hp_:Kd.R k97 97 w164 w.heap.size (fun k_=>k_≠gb154) (.slice (some ⟨go112,0,none⟩) t142.length co11) y158:=(by rw [hw,Ny158.out];exact HP163.1);clear HP163;replace BK140:=Aside0.mk (blk_grown (bk BK140) hg (Kd.R_ne HO_150000.out BK140.out (by decide)));replace BK141:=Aside0.mk (blk_grown (bk BK141) hg (Kd.R_ne HO_150000.out BK141.out (by decide)));replace BK149:=Aside0.mk (blk_grown (bk BK149) hg (Kd.R_ne HO_150000.out BK149.out (by decide)));replace BK154:=Aside0.mk (blk_grown (bk BK154) hg (Kd.R_away HO_150000.out (fun _ hk=>hk)));replace HO_150000:=Aside0.mk (hp_);replace HB:=Aside0.mk ((by rw [hw];exact below_set (HB.out) GB112.out:Below w.heap.size w w164));clear hg hw hp_;obtain ⟨hcz165_0,hcz165_1,hcz165_2,hcz165_3,hfz165_0,hfz165_1,hfz165_2,hfz165_3⟩:=ck4 BK154.out;obtain ⟨hcz166_0,hcz166_1,hcz166_2,hcz166_3,hcz166_4,hfz166_0,hfz166_1,hfz166_2,hfz166_3,hfz166_4⟩:=ck5 BK149.out;have p148:0≤(((rd_T97 l0_0 a1).f2):Int):=of_decide_eq_true (by first|(with_reducible assumption)|assumption);have q148:(((rd_T97 l0_0 a1).f2):Int) < ((t142.length:Int):Int):=of_decide_eq_true (by first|(with_reducible assumption)|assumption);obtain ⟨ce148,hcl148,hM148,hcc148,hfr148⟩:=Kd.R_elem HO_150000.out z97 (((rd_T97 l0_0 a1).f2):Int) p148 q148;obtain rfl:=k97_openM hM148;have hx148_0:w164.cell? ⟨go112,(((rd_T97 l0_0 a1).f2):Int).toNat * 4,none⟩=some (.int .i64 ((rd_T97 y158 ((rd_T97 l0_0 a1).f2)).f0)):=hcc148 0 _ rfl;have hx148_1:w164.cell? ⟨go112,(((rd_T97 l0_0 a1).f2):Int).toNat * 4 + 1,none⟩=some (.int .i64 ((rd_T97 y158 ((rd_T97 l0_0 a1).f2)).f1)):=hcc148 1 _ rfl;have hx148_2:w164.cell? ⟨go112,(((rd_T97 l0_0 a1).f2):Int).toNat * 4 + 2,none⟩=some (.int .i64 ((rd_T97 y158 ((rd_T97 l0_0 a1).f2)).f2)):=hcc148 2 _ rfl;have hx148_3:w164.cell? ⟨go112,(((rd_T97 l0_0 a1).f2):Int).toNat * 4 + 3,none⟩=some (.bool ((rd_T97 y158 ((rd_T97 l0_0 a1).f2)).f3)):=hcc148 3 _ rfl;have hf148_0:w164.frozen? ⟨go112,(((rd_T97 l0_0 a1).f2):Int).toNat * 4,none⟩=false:=hfr148 0;have hf148_1:w164.frozen? ⟨go112,(((rd_T97 l0_0 a1).f2):Int).toNat * 4 + 1,none⟩=false:=hfr148 1;have hf148_2:w164.frozen? ⟨go112,(((rd_T97 l0_0 a1).f2):Int).toNat * 4 + 2,none⟩=false:=hfr148 2;have hf148_3:w164.frozen? ⟨go112,(((rd_T97 l0_0 a1).f2):Int).toNat * 4 + 3,none⟩=false:=hfr148 3;clear hcl148 hcc148 hfr148 hM148;replace p148:=eq_true p148;replace q148:=eq_true q148;have HX167:=Aside0.mk (show Kd.R k97 97 w164 w.heap.size (fun k_=>k_≠gb154) (.slice (some ⟨go112,0,none⟩) t142.length co11) y158 from (kr HO_150000));obtain ⟨ce167,hcl167,hM167,hcc167,hfr167⟩:=Kd.R_elem HX167.out z97 (((rd_T97 l0_0 a1).f2):Int) (of_decide_eq_true (by first|(with_reducible assumption)|assumption)) (by have h_:(((rd_T97 l0_0 a1).f2):Int) < ((t142.length:Int):Int):=of_decide_eq_true (by first|(with_reducible assumption)|assumption);first|exact h_|(have e_:=(Kd.R_reads' HO_150000.out).1;omega)|simpa using h_);obtain rfl:=k97_openM hM167;have HP167:=Kd.R_seg HX167.out (((rd_T97 l0_0 a1).f2):Int) (of_decide_eq_true (by first|(with_reducible assumption)|assumption)) (by have h_:(((rd_T97 l0_0 a1).f2):Int) < ((t142.length:Int):Int):=of_decide_eq_true (by first|(with_reducible assumption)|assumption);first|exact h_|(have e_:=(Kd.R_reads' HO_150000.out).1;omega)|simpa using h_) (seg:=[.int .i64 ((rd_T97 l0_0 a1).f1)]) (j:=1) hcl167 hcc167 (show 2≤4 from by decide) (x':=(⟨(rd_T97 y158 ((rd_T97 l0_0 a1).f2)).f0,(rd_T97 l0_0 a1).f1,(rd_T97 y158 ((rd_T97 l0_0 a1).f2)).f2,(rd_T97 y158 ((rd_T97 l0_0 a1).f2)).f3⟩:S97)) (k97_mkM _ _ _ (⟨(rd_T97 y158 ((rd_T97 l0_0 a1).f2)).f0,(rd_T97 l0_0 a1).f1,(rd_T97 y158 ((rd_T97 l0_0 a1).f2)).f2,(rd_T97 y158 ((rd_T97 l0_0 a1).f2)).f3⟩:S97) ) (fun _ hk=>hk);have hx167_1:=hcc167 1 _ rfl;(try simp only [show (k97).sz=4 from rfl,Nat.mul_one,Nat.add_zero] at hx167_1);have hf167_1:=hfr167 1;(try simp only [show (k97).sz=4 from rfl,Nat.mul_one,Nat.add_zero] at hf167_1);clear hcl167 hcc167 hfr167 hM167)|((with_reducible refine gate_store (t:=3) (p:=60) rfl ?_);refine sx 3 60 (w164.setCell ⟨go112,(((rd_T97 l0_0 a1).f2):Int).toNat * 4 + 1,none⟩ (.int .i64 ((rd_T97 l0_0 a1).f1))) ?_;intro w168 hw;have hg:w164.grownBy w168 (some go112):=(by rw [hw];exact HP167.2);have hp_:Kd.R k97 97 w168 w.heap.size (fun k_=>k_≠gb154) (.slice (some ⟨go112,0,none⟩) t142.length co11) y160:=(by rw [hw,Ny160.out];exact HP167.1);clear HP167;replace BK140:=Aside0.mk (blk_grown (bk BK140) hg (Kd.R_ne HO_150000.out BK140.out (by decide)));replace BK141:=Aside0.mk (blk_grown (bk BK141) hg (Kd.R_ne HO_150000.out BK141.out (by decide)));replace BK149:=Aside0.mk (blk_grown (bk BK149) hg (Kd.R_ne HO_150000.out BK149.out (by decide)));replace BK154:=Aside0.mk (blk_grown (bk BK154) hg (Kd.R_away HO_150000.out (fun _ hk=>hk)));replace HO_150000:=Aside0.mk (hp_);replace HB:=Aside0.mk ((by rw [hw];exact below_set (HB.out) GB112.out:Below w.heap.size w w168));clear hg hw hp_;obtain ⟨hcz169_0,hcz169_1,hcz169_2,hcz169_3,hcz169_4,hfz169_0,hfz169_1,hfz169_2,hfz169_3,hfz169_4⟩:=ck5 BK149.out;obtain ⟨hcz170_0,hcz170_1,hcz170_2,hcz170_3,hcz170_4,hfz170_0,hfz170_1,hfz170_2,hfz170_3,hfz170_4⟩:=ck5 BK140.out;have p150:0≤(a1:Int):=of_decide_eq_true (by first|(with_reducible assumption)|assumption);have q150:(a1:Int) < ((t142.length:Int):Int):=of_decide_eq_true (by first|(with_reducible assumption)|assumption);obtain ⟨ce150,hcl150,hM150,hcc150,hfr150⟩:=Kd.R_elem HO_150000.out z97 (a1:Int) p150 q150;obtain rfl:=k97_openM hM150;have hx150_0:w168.cell? ⟨go112,(a1:Int).toNat * 4,none⟩=some (.int .i64 ((rd_T97 y160 a1).f0)):=hcc150 0 _ rfl;have hx150_1:w168.cell? ⟨go112,(a1:Int).toNat * 4 + 1,none⟩=some (.int .i64 ((rd_T97 y160 a1).f1)):=hcc150 1 _ rfl;have hx150_2:w168.cell? ⟨go112,(a1:Int).toNat * 4 + 2,none⟩=some (.int .i64 ((rd_T97 y160 a1).f2)):=hcc150 2 _ rfl;have hx150_3:w168.cell? ⟨go112,(a1:Int).toNat * 4 + 3,none⟩=some (.bool ((rd_T97 y160 a1).f3)):=hcc150 3 _ rfl;have hf150_0:w168.frozen? ⟨go112,(a1:Int).toNat * 4,none⟩=false:=hfr150 0;have hf150_1:w168.frozen? ⟨go112,(a1:Int).toNat * 4 + 1,none⟩=false:=hfr150 1;have hf150_2:w168.frozen? ⟨go112,(a1:Int).toNat * 4 + 2,none⟩=false:=hfr150 2;have hf150_3:w168.frozen? ⟨go112,(a1:Int).toNat * 4 + 3,none⟩=false:=hfr150 3;clear hcl150 hcc150 hfr150 hM150;replace p150:=eq_true p150;replace q150:=eq_true q150;have HX171:=Aside0.mk (show Kd.R k97 97 w168 w.heap.size (fun k_=>k_≠gb154) (.slice (some ⟨go112,0,none⟩) t142.length co11) y160 from (kr HO_150000));obtain ⟨ce171,hcl171,hM171,hcc171,hfr171⟩:=Kd.R_elem HX171.out z97 (a1:Int) (of_decide_eq_true (by first|(with_reducible assumption)|assumption)) (by have h_:(a1:Int) < ((t142.length:Int):Int):=of_decide_eq_true (by first|(with_reducible assumption)|assumption);first|exact h_|(have e_:=(Kd.R_reads' HO_150000.out).1;omega)|simpa using h_);obtain rfl:=k97_openM hM171;have HP171:=Kd.R_seg HX171.out (a1:Int) (of_decide_eq_true (by first|(with_reducible assumption)|assumption)) (by have h_:(a1:Int) < ((t142.length:Int):Int):=of_decide_eq_true (by first|(with_reducible assumption)|assumption);first|exact h_|(have e_:=(Kd.R_reads' HO_150000.out).1;omega)|simpa using h_) (seg:=[.int .i64 0,.int .i64 (-1),.int .i64 a0_3,.bool false]) (j:=0) hcl171 hcc171 (show 4≤4 from by decide) (x':=(⟨0,(-1),a0_3,false⟩:S97)) (k97_mkM _ _ _ (⟨0,(-1),a0_3,false⟩:S97) ) (fun _ hk=>hk);have hx171_0:=hcc171 0 _ rfl;(try simp only [show (k97).sz=4 from rfl,Nat.mul_one,Nat.add_zero] at hx171_0);have hf171_0:=hfr171 0;(try simp only [show (k97).sz=4 from rfl,Nat.mul_one,Nat.add_zero] at hf171_0);have hx171_1:=hcc171 1 _ rfl;(try simp only [show (k97).sz=4 from rfl,Nat.mul_one,Nat.add_zero] at hx171_1);have hf171_1:=hfr171 1;(try simp only [show (k97).sz=4 from rfl,Nat.mul_one,Nat.add_zero] at hf171_1);have hx171_2:=hcc171 2 _ rfl;(try simp only [show (k97).sz=4 from rfl,Nat.mul_one,Nat.add_zero] at hx171_2);have hf171_2:=hfr171 2;(try simp only [show (k97).sz=4 from rfl,Nat.mul_one,Nat.add_zero] at hf171_2);have hx171_3:=hcc171 3 _ rfl;(try simp only [show (k97).sz=4 from rfl,Nat.mul_one,Nat.add_zero] at hx171_3);have hf171_3:=hfr171 3;(try simp only [show (k97).sz=4 from rfl,Nat.mul_one,Nat.add_zero] at hf171_3);clear hcl171 hcc171 hfr171 hM171)|((with_reducible refine gate_store (t:=97) (p:=67) rfl ?_);refine sx 97 67 ((((w168.setCell ⟨go112,(a1:Int).toNat * 4,none⟩ (.int .i64 0)).setCell ⟨go112,(a1:Int).toNat * 4 + 1,none⟩ (.int .i64 (-1))).setCell ⟨go112,(a1:Int).toNat * 4 + 2,none⟩ (.int .i64 a0_3)).setCell ⟨go112,(a1:Int).toNat * 4 + 3,none⟩ (.bool false)) ?_;intro w172 hw;have hg:w168.grownBy w172 (some go112):=(by rw [hw];exact HP171.2);have hp_:Kd.R k97 97 w172 w.heap.size (fun k_=>k_≠gb154) (.slice (some ⟨go112,0,none⟩) t142.length co11) y161:=(by rw [hw,Ny161.out];exact HP171.1);clear HP171;replace BK140:=Aside0.mk (blk_grown (bk BK140) hg (Kd.R_ne HO_150000.out BK140.out (by decide)));replace BK141:=Aside0.mk (blk_grown (bk BK141) hg (Kd.R_ne HO_150000.out BK141.out (by decide)));replace BK149:=Aside0.mk (blk_grown (bk BK149) hg (Kd.R_ne HO_150000.out BK149.out (by decide)));replace BK154:=Aside0.mk (blk_grown (bk BK154) hg (Kd.R_away HO_150000.out (fun _ hk=>hk)));replace HO_150000:=Aside0.mk (hp_);replace HB:=Aside0.mk ((by rw [hw];exact below_set (below_set (below_set (below_set (HB.out) GB112.out) GB112.out) GB112.out) GB112.out:Below w.heap.size w w172));clear hg hw hp_;obtain ⟨hcz173_0,hcz173_1,hcz173_2,hcz173_3,hcz173_4,hfz173_0,hfz173_1,hfz173_2,hfz173_3,hfz173_4⟩:=ck5 BK149.out;obtain ⟨hcz174_0,hcz174_1,hcz174_2,hcz174_3,hcz174_4,hfz174_0,hfz174_1,hfz174_2,hfz174_3,hfz174_4⟩:=ck5 BK140.out))
             have n0_:Aside0 (Kd.R k97 97 ((w172.setCell ⟨gb149,3,none⟩ (.int .i64 a1)).setCell ⟨gb149,4,none⟩ (.int .i64 (wrap64 (a0_4 - 1)))) w.heap.size (fun k_=>k_≠gb154) (.slice (some ⟨go112,0,none⟩) t142.length co11) y161):=⟨by (with_reducible repeat (first|apply Kd.R_alloc|apply Kd.R_drewN|apply Kd.R_drew));exact Kd.R_mono (Kd.R_far (p:=⟨gb149,4,none⟩) (Kd.R_far (p:=⟨gb149,3,none⟩) (Kd.R_types HO_150000.out BK149.out (by decide)) (fun _ hk=>hk.2) (.int .i64 a1)) (fun _ hk=>hk.2) (.int .i64 (wrap64 (a0_4 - 1)))) (fun _ hk=>hk.1)⟩
             have n1_:Aside0 (((w172.setCell ⟨gb149,3,none⟩ (.int .i64 a1)).setCell ⟨gb149,4,none⟩ (.int .i64 (wrap64 (a0_4 - 1)))).heap[gb140]? = some (.cells #[.slice (some ad153) l0_0.length c0_0,.int .i64 a0_1,.int .i64 a0_2,.int .i64 a0_3,.int .i64 a0_4] 28 (0,0))):=⟨bf BK140⟩
             have n2_:Aside0 (((w172.setCell ⟨gb149,3,none⟩ (.int .i64 a1)).setCell ⟨gb149,4,none⟩ (.int .i64 (wrap64 (a0_4 - 1)))).heap[gb141]? = some (.cells #[.slice none 0 0,.int .i64 0,.int .i64 0,.int .i64 0,.int .i64 0] 28 (0,0))):=⟨bf BK141⟩
             have n3_:Aside0 (((w172.setCell ⟨gb149,3,none⟩ (.int .i64 a1)).setCell ⟨gb149,4,none⟩ (.int .i64 (wrap64 (a0_4 - 1)))).heap[gb149]? = some (.cells #[.slice (some ⟨go112,0,none⟩) t142.length co11,.int .i64 t145,.int .i64 t146,.int .i64 a1,.int .i64 (wrap64 (a0_4 - 1))] 28 (0,0))):=⟨by (with_reducible repeat (first|refine blk_drewN ?_ _|refine blk_drew ?_|refine blk_alloc ?_ _));refine blk_put (cs:=#[.slice (some ⟨go112,0,none⟩) t142.length co11,.int .i64 t145,.int .i64 t146,.int .i64 a1,.int .i64 t148]) ?_ 4 _ rfl;(with_reducible repeat (first|refine blk_drewN ?_ _|refine blk_drew ?_|refine blk_alloc ?_ _));refine blk_put (cs:=#[.slice (some ⟨go112,0,none⟩) t142.length co11,.int .i64 t145,.int .i64 t146,.int .i64 t147,.int .i64 t148]) ?_ 3 _ rfl;(with_reducible repeat (first|refine blk_drewN ?_ _|refine blk_drew ?_|refine blk_alloc ?_ _));exact BK149.out⟩
             have n4_:Aside0 (((w172.setCell ⟨gb149,3,none⟩ (.int .i64 a1)).setCell ⟨gb149,4,none⟩ (.int .i64 (wrap64 (a0_4 - 1)))).heap[gb154]? = some (.cells #[.int .i64 ((rd_T97 l0_0 a1).f0),.int .i64 ((rd_T97 l0_0 a1).f1),.int .i64 ((rd_T97 l0_0 a1).f2),.bool ((rd_T97 l0_0 a1).f3)] 97 (0,0))):=⟨bf BK154⟩
             have n5_:Aside0 (Below w.heap.size w ((w172.setCell ⟨gb149,3,none⟩ (.int .i64 a1)).setCell ⟨gb149,4,none⟩ (.int .i64 (wrap64 (a0_4 - 1))))):=⟨bl⟩
             (try clear HO_150000)
             (try clear BK140)
             (try clear BK141)
             (try clear BK149)
             (try clear BK154)
             (try clear HB)
             generalize ((w172.setCell ⟨gb149,3,none⟩ (.int .i64 a1)).setCell ⟨gb149,4,none⟩ (.int .i64 (wrap64 (a0_4 - 1))))=w175 at n0_ n1_ n2_ n3_ n4_ n5_ ⊢
             have HO_150000:=n0_
             have BK140:=n1_
             have BK141:=n2_
             have BK149:=n3_
             have BK154:=n4_
             have HB:=n5_
             clear n0_ n1_ n2_ n3_ n4_ n5_
             replace HO_150000:=Aside0.mk (Kd.R_drew HO_150000.out)
             replace BK140:=Aside0.mk (blk_drew BK140.out)
             replace BK141:=Aside0.mk (blk_drew BK141.out)
             replace BK149:=Aside0.mk (blk_drew BK149.out)
             replace BK154:=Aside0.mk (blk_drew BK154.out)
             replace HB:=Aside0.mk (below_drew1 HB.out)
             refine start_ (n:=5) (S:=fun w'=>w'.cell? ⟨gb149,0,none⟩=some (.slice (some ⟨go112,0,none⟩) t142.length co11)∧w'.cell? ⟨gb149,1,none⟩=some (.int .i64 t145)∧w'.cell? ⟨gb149,2,none⟩=some (.int .i64 t146)∧w'.cell? ⟨gb149,3,none⟩=some (.int .i64 a1)∧w'.cell? ⟨gb149,4,none⟩=some (.int .i64 (wrap64 (a0_4 - 1)))∧w'.cell? ⟨gb154,0,none⟩=some (.int .i64 ((rd_T97 l0_0 a1).f0))∧w'.cell? ⟨gb154,1,none⟩=some (.int .i64 ((rd_T97 l0_0 a1).f1))∧w'.cell? ⟨gb154,2,none⟩=some (.int .i64 ((rd_T97 l0_0 a1).f2))∧w'.cell? ⟨gb154,3,none⟩=some (.bool ((rd_T97 l0_0 a1).f3))) (ds:=[]) (bs 5 0) (by kernel_rfl) rfl rfl ⟨bc BK149 0,bc BK149 1,bc BK149 2,bc BK149 3,bc BK149 4,bc BK154 0,bc BK154 1,bc BK154 2,bc BK154 3⟩ (fun hHeld=>?_)
             generalize w175.drew=w176 at HO_150000 BK140 BK141 BK149 BK154 HB hHeld ⊢
             refine pk 1 75 (bs 5 2) ?_
             refine tk 0 74 (bs 5 3) hHeld ?_
             refine tk 2 76 (bs 5 7) hHeld ?_
             refine one_ (i:=3) (N:=none) (bs 5 15) rfl rfl (by kernel_rfl) (by decide) (fun K hK=>?_)
             have hs177:w176.cell? ⟨gb141,0,none⟩=some (.slice none 0 0):=(blk_cell BK141.out 0).trans rfl
             have hfs177:=blk_frozen BK141.out 0
             have hns177_0:=NB140_141.out
             have hns177_2:=NB149_141.out
             have hns177_3:=NB154_141.out
             have hms177_0:=NB141_140.out
             have hms177_2:=NB141_149.out
             have hms177_3:=NB141_154.out
             have hs178:w176.cell? ⟨gb141,1,none⟩=some (.int .i64 0):=(blk_cell BK141.out 1).trans rfl
             have hfs178:=blk_frozen BK141.out 1
             have hns178_0:=NB140_141.out
             have hns178_2:=NB149_141.out
             have hns178_3:=NB154_141.out
             have hms178_0:=NB141_140.out
             have hms178_2:=NB141_149.out
             have hms178_3:=NB141_154.out
             have hs179:w176.cell? ⟨gb141,2,none⟩=some (.int .i64 0):=(blk_cell BK141.out 2).trans rfl
             have hfs179:=blk_frozen BK141.out 2
             have hns179_0:=NB140_141.out
             have hns179_2:=NB149_141.out
             have hns179_3:=NB154_141.out
             have hms179_0:=NB141_140.out
             have hms179_2:=NB141_149.out
             have hms179_3:=NB141_154.out
             have hs180:w176.cell? ⟨gb141,3,none⟩=some (.int .i64 0):=(blk_cell BK141.out 3).trans rfl
             have hfs180:=blk_frozen BK141.out 3
             have hns180_0:=NB140_141.out
             have hns180_2:=NB149_141.out
             have hns180_3:=NB154_141.out
             have hms180_0:=NB141_140.out
             have hms180_2:=NB141_149.out
             have hms180_3:=NB141_154.out
             have hs181:w176.cell? ⟨gb141,4,none⟩=some (.int .i64 0):=(blk_cell BK141.out 4).trans rfl
             have hfs181:=blk_frozen BK141.out 4
             have hns181_0:=NB140_141.out
             have hns181_2:=NB149_141.out
             have hns181_3:=NB154_141.out
             have hms181_0:=NB141_140.out
             have hms181_2:=NB141_149.out
             have hms181_3:=NB141_154.out
             refine skip_ (w1:=?_) (by rfl) rfl ?_ ?_
             rotate_left
             ·go_simp
              rfl
             refine hK.out _ _ ⟨((cell_far (p:=⟨gb141,_,none⟩) NB149_141.out _).trans (((cell_far (p:=⟨gb141,_,none⟩) NB149_141.out _).trans (((cell_far (p:=⟨gb141,_,none⟩) NB149_141.out _).trans (((cell_far (p:=⟨gb141,_,none⟩) NB149_141.out _).trans (((cell_far (p:=⟨gb141,_,none⟩) NB149_141.out _).trans (hHeld.1)))))))))),((cell_far (p:=⟨gb141,_,none⟩) NB149_141.out _).trans (((cell_far (p:=⟨gb141,_,none⟩) NB149_141.out _).trans (((cell_far (p:=⟨gb141,_,none⟩) NB149_141.out _).trans (((cell_far (p:=⟨gb141,_,none⟩) NB149_141.out _).trans (((cell_far (p:=⟨gb141,_,none⟩) NB149_141.out _).trans (hHeld.2.1)))))))))),((cell_far (p:=⟨gb141,_,none⟩) NB149_141.out _).trans (((cell_far (p:=⟨gb141,_,none⟩) NB149_141.out _).trans (((cell_far (p:=⟨gb141,_,none⟩) NB149_141.out _).trans (((cell_far (p:=⟨gb141,_,none⟩) NB149_141.out _).trans (((cell_far (p:=⟨gb141,_,none⟩) NB149_141.out _).trans (hHeld.2.2.1)))))))))),((cell_far (p:=⟨gb141,_,none⟩) NB149_141.out _).trans (((cell_far (p:=⟨gb141,_,none⟩) NB149_141.out _).trans (((cell_far (p:=⟨gb141,_,none⟩) NB149_141.out _).trans (((cell_far (p:=⟨gb141,_,none⟩) NB149_141.out _).trans (((cell_far (p:=⟨gb141,_,none⟩) NB149_141.out _).trans (hHeld.2.2.2.1)))))))))),((cell_far (p:=⟨gb141,_,none⟩) NB149_141.out _).trans (((cell_far (p:=⟨gb141,_,none⟩) NB149_141.out _).trans (((cell_far (p:=⟨gb141,_,none⟩) NB149_141.out _).trans (((cell_far (p:=⟨gb141,_,none⟩) NB149_141.out _).trans (((cell_far (p:=⟨gb141,_,none⟩) NB149_141.out _).trans (hHeld.2.2.2.2.1)))))))))),((cell_far (p:=⟨gb141,_,none⟩) NB154_141.out _).trans (((cell_far (p:=⟨gb141,_,none⟩) NB154_141.out _).trans (((cell_far (p:=⟨gb141,_,none⟩) NB154_141.out _).trans (((cell_far (p:=⟨gb141,_,none⟩) NB154_141.out _).trans (((cell_far (p:=⟨gb141,_,none⟩) NB154_141.out _).trans (hHeld.2.2.2.2.2.1)))))))))),((cell_far (p:=⟨gb141,_,none⟩) NB154_141.out _).trans (((cell_far (p:=⟨gb141,_,none⟩) NB154_141.out _).trans (((cell_far (p:=⟨gb141,_,none⟩) NB154_141.out _).trans (((cell_far (p:=⟨gb141,_,none⟩) NB154_141.out _).trans (((cell_far (p:=⟨gb141,_,none⟩) NB154_141.out _).trans (hHeld.2.2.2.2.2.2.1)))))))))),((cell_far (p:=⟨gb141,_,none⟩) NB154_141.out _).trans (((cell_far (p:=⟨gb141,_,none⟩) NB154_141.out _).trans (((cell_far (p:=⟨gb141,_,none⟩) NB154_141.out _).trans (((cell_far (p:=⟨gb141,_,none⟩) NB154_141.out _).trans (((cell_far (p:=⟨gb141,_,none⟩) NB154_141.out _).trans (hHeld.2.2.2.2.2.2.2.1)))))))))),((cell_far (p:=⟨gb141,_,none⟩) NB154_141.out _).trans (((cell_far (p:=⟨gb141,_,none⟩) NB154_141.out _).trans (((cell_far (p:=⟨gb141,_,none⟩) NB154_141.out _).trans (((cell_far (p:=⟨gb141,_,none⟩) NB154_141.out _).trans (((cell_far (p:=⟨gb141,_,none⟩) NB154_141.out _).trans (hHeld.2.2.2.2.2.2.2.2))))))))))⟩ (fun hHeld=>?_)
             clear hK K
             refine pk 4 5 (bs 5 31) ?_
             refine done_ (by kernel_rfl) ?_
             try go_wp2
             refine bodyPost_ret (results_ct rfl _ _ gb141 28 #[.slice (some ⟨go112,0,none⟩) t142.length co11,.int .i64 t145,.int .i64 t146,.int .i64 a1,.int .i64 (wrap64 (a0_4 - 1))] (0,0) _ rfl (by (with_reducible repeat (first|refine blk_drewN ?_ _|refine blk_drew ?_|refine blk_alloc ?_ _));refine blk_put (cs:=#[.slice (some ⟨go112,0,none⟩) t142.length co11,.int .i64 t145,.int .i64 t146,.int .i64 a1,.int .i64 0]) ?_ 4 _ rfl;(with_reducible repeat (first|refine blk_drewN ?_ _|refine blk_drew ?_|refine blk_alloc ?_ _));refine blk_put (cs:=#[.slice (some ⟨go112,0,none⟩) t142.length co11,.int .i64 t145,.int .i64 t146,.int .i64 0,.int .i64 0]) ?_ 3 _ rfl;(with_reducible repeat (first|refine blk_drewN ?_ _|refine blk_drew ?_|refine blk_alloc ?_ _));refine blk_put (cs:=#[.slice (some ⟨go112,0,none⟩) t142.length co11,.int .i64 t145,.int .i64 0,.int .i64 0,.int .i64 0]) ?_ 2 _ rfl;(with_reducible repeat (first|refine blk_drewN ?_ _|refine blk_drew ?_|refine blk_alloc ?_ _));refine blk_put (cs:=#[.slice (some ⟨go112,0,none⟩) t142.length co11,.int .i64 0,.int .i64 0,.int .i64 0,.int .i64 0]) ?_ 1 _ rfl;(with_reducible repeat (first|refine blk_drewN ?_ _|refine blk_drew ?_|refine blk_alloc ?_ _));refine blk_put (cs:=#[.slice none 0 0,.int .i64 0,.int .i64 0,.int .i64 0,.int .i64 0]) ?_ 0 _ rfl;(with_reducible repeat (first|refine blk_drewN ?_ _|refine blk_drew ?_|refine blk_alloc ?_ _));exact BK141.out) Try.underlying28 rfl (by kernel_rfl)) rfl ?_
             exact ⟨_,by first|rfl|(simp [errW_none,errW_some] <;> rfl)|(simp [*,errW_none,errW_some] <;> rfl),by (with_reducible repeat (first|apply Kd.R_alloc|apply Kd.R_drewN|apply Kd.R_drew));exact Kd.R_mono (Kd.R_far (p:=⟨gb141,4,none⟩) (Kd.R_far (p:=⟨gb141,3,none⟩) (Kd.R_far (p:=⟨gb141,2,none⟩) (Kd.R_far (p:=⟨gb141,1,none⟩) (Kd.R_far (p:=⟨gb141,0,none⟩) (Kd.R_types HO_150000.out BK141.out (by decide)) (fun _ hk=>hk.2) (.slice (some ⟨go112,0,none⟩) t142.length co11)) (fun _ hk=>hk.2) (.int .i64 t145)) (fun _ hk=>hk.2) (.int .i64 t146)) (fun _ hk=>hk.2) (.int .i64 a1)) (fun _ hk=>hk.2) (.int .i64 (wrap64 (a0_4 - 1)))) (fun _ hk=>trivial),bl⟩
            ·rw [if_neg c149] at H
             exact absurd H (by simp)
           ·rw [if_neg c147] at H
            exact absurd H (by simp)
          ·rw [if_neg c146] at H
           exact absurd H (by simp)
        ·rw [if_neg c111] at H
         exact absurd H (by simp)
       ·rw [if_neg c110] at H
        exact absurd H (by simp)
     ·rw [if_neg c41] at H
      exact absurd H (by simp)
    ·rw [if_neg c40] at H
     exact absurd H (by simp)

end Go.Proofs.Ytnkpjpfmjkiidaa.PFnExactMoveBack
