/- Contracts of functions of the given program: what each call answers. Written by a program of this session, out of the text of the functions. -/
import Derived.Test.YtnkpjpfmjkiidaaPFnExactMoveBackx0
import Derived.Test.YtnkpjpfmjkiidaaPFnExactMoveBackx1
import Derived.Test.YtnkpjpfmjkiidaaPFnExactMoveBackx2
import Derived.Test.YtnkpjpfmjkiidaaPFnExactMoveBackx3
import Derived.Test.YtnkpjpfmjkiidaaPFnExactMoveBackx4
import Derived.Test.YtnkpjpfmjkiidaaZFnExactMoveBack
namespace Go.Proofs.Ytnkpjpfmjkiidaa.PFnExactMoveBack
open Go.RowKit Go.Proofs.YtnkpjpfmjkiidaaW.PrintWords Go.Proofs.YtnkpjpfmjkiidaaW.PrintLast Go.Proofs.YtnkpjpfmjkiidaaW.PrintMore Go.Proofs.Ytnkpjpfmjkiidaa.Giv Go.Proofs.Ytnkpjpfmjkiidaa.Prs
attribute [local go_sem] max2_int min2_int max_two min_two max_three min_three max_four min_four   -- for this text's walks alone
set_option linter.unusedVariables false
set_option linter.unusedSimpArgs false

/-! ### spec_PushBack: function 50 -/
def spec_PushBack.j0:Nat→Int→Bool→List (S97)→Int→Int→Int→Int→List (S97)→Int→Int→Int→Int→Option ((List (S97)) × Int × Int × Int × Int × Int)
 | 0,_,_,_,_,_,_,_,_,_,_,_,_=>none
 | k + 1,x1,x28,x163000,x163001,x163002,x163003,x163004,x172000,x172001,x172002,x172003,x172004=>if x28=true then (some (x172000,x172001,x172002,x172003,x172004,(-1))) else (if 0≤x163003 then (if x163003 < (x163000.length:Int) then (if x163003 < (x172000.length:Int) then ((some (x172000.set (x163003:Int).toNat (⟨x1,x163002,(-1),true⟩:S97):List (S97))).bind fun y176=>(if x163002=(-1) then (some (y176,x163003,x163003,(rd_T97 x163000 x163003).f2,wrap64 (x163004 + 1),x163003)) else (if 0≤x163002 then (if x163002 < (x172000.length:Int) then (some ((y176.set (x163002:Int).toNat (⟨(rd_T97 y176 x163002).f0,(rd_T97 y176 x163002).f1,x163003,(rd_T97 y176 x163002).f3⟩:S97)),x172001,x163003,(rd_T97 x163000 x163003).f2,wrap64 (x163004 + 1),x163003)) else (none)) else (none)))) else (none)) else (none)) else (none))
def spec_PushBack.f (k:Nat) (l0_0:List (S97)) (a0_1:Int) (a0_2:Int) (a0_3:Int) (a0_4:Int) (a1:Int):Option ((List (S97)) × Int × Int × Int × Int × Int):=(spec_l02Copy.f k l0_0 a0_1 a0_2 a0_3 a0_4).bind fun bt164=>((spec_QueueOk.f k l0_0 a0_1 a0_2 a0_3 a0_4).bind fun t172=>(if t172=true then (if a0_3=(-1) then (spec_PushBack.j0 k a1 true l0_0 a0_1 a0_2 a0_3 a0_4 bt164.1 bt164.2.1 bt164.2.2.1 bt164.2.2.2.1 bt164.2.2.2.2) else ((spec_l01In.f a1 1 1000000000).bind fun t173=>(if t173=true then ((spec_PlaceOf.f k l0_0 a0_1 a0_2 a0_3 a0_4 a1).bind fun t174=>(spec_PushBack.j0 k a1 (decide (t174 ≥ 0)) l0_0 a0_1 a0_2 a0_3 a0_4 bt164.1 bt164.2.1 bt164.2.2.1 bt164.2.2.2.1 bt164.2.2.2.2)) else (spec_PushBack.j0 k a1 true l0_0 a0_1 a0_2 a0_3 a0_4 bt164.1 bt164.2.1 bt164.2.2.1 bt164.2.2.2.1 bt164.2.2.2.2)))) else (spec_PushBack.j0 k a1 true l0_0 a0_1 a0_2 a0_3 a0_4 bt164.1 bt164.2.1 bt164.2.2.1 bt164.2.2.2.1 bt164.2.2.2.2)))
theorem spec_PushBack.mono_l:∀ k,(∀ y0 y1 y2 y3 y4 y5 y6 y7 y8 y9 y10 y11,LeO (spec_PushBack.j0 k y0 y1 y2 y3 y4 y5 y6 y7 y8 y9 y10 y11) (spec_PushBack.j0 (k + 1) y0 y1 y2 y3 y4 y5 y6 y7 y8 y9 y10 y11))
 | 0=>fun _ _ _ _ _ _ _ _ _ _ _ _ r h=>by simp [spec_PushBack.j0] at h
 | k + 1=>by
  have ih0:=spec_PushBack.mono_l k
  ·intro y0 y1 y2 y3 y4 y5 y6 y7 y8 y9 y10 y11
   unfold spec_PushBack.j0
   repeat' first
   | (with_reducible exact ih0 _ _ _ _ _ _ _ _ _ _ _ _)
   | (with_reducible exact spec_PlaceOf.mono _ _ _ _ _ _ _)
   | (with_reducible exact spec_QueueOk.mono _ _ _ _ _ _)
   | (with_reducible exact spec_l02Copy.mono _ _ _ _ _ _)
   | (with_reducible exact LeO.refl _)
   | (with_reducible exact LeO.none _)
   | (with_reducible refine LeO.ite ?_ ?_)
   | (with_reducible refine LeO.bind ?_ (fun _=>?_))
   | exact ih0 _ _ _ _ _ _ _ _ _ _ _ _
   | exact spec_PlaceOf.mono _ _ _ _ _ _ _
   | exact spec_QueueOk.mono _ _ _ _ _ _
   | exact spec_l02Copy.mono _ _ _ _ _ _
   | exact LeO.none _
   | refine LeO.ite ?_ ?_
   | refine LeO.bind ?_ (fun _=>?_)
theorem spec_PushBack.mono:∀ a0 a1 a2 a3 a4 a5 k,LeO (spec_PushBack.f k a0 a1 a2 a3 a4 a5) (spec_PushBack.f (k + 1) a0 a1 a2 a3 a4 a5):=by
 intro a0 a1 a2 a3 a4 a5 k
 have ih0:=spec_PushBack.mono_l k
 unfold spec_PushBack.f
 repeat' first
   | (with_reducible exact ih0 _ _ _ _ _ _ _ _ _ _ _ _)
   | (with_reducible exact spec_PlaceOf.mono _ _ _ _ _ _ _)
   | (with_reducible exact spec_QueueOk.mono _ _ _ _ _ _)
   | (with_reducible exact spec_l02Copy.mono _ _ _ _ _ _)
   | (with_reducible exact LeO.refl _)
   | (with_reducible exact LeO.none _)
   | (with_reducible refine LeO.ite ?_ ?_)
   | (with_reducible refine LeO.bind ?_ (fun _=>?_))
   | exact ih0 _ _ _ _ _ _ _ _ _ _ _ _
   | exact spec_PlaceOf.mono _ _ _ _ _ _ _
   | exact spec_QueueOk.mono _ _ _ _ _ _
   | exact spec_l02Copy.mono _ _ _ _ _ _
   | exact LeO.none _
   | refine LeO.ite ?_ ?_
   | refine LeO.bind ?_ (fun _=>?_)
set_option maxHeartbeats 8000000 in
set_option maxRecDepth 100000 in
theorem spec_PushBack.calls (k:Nat) (A0_0:Option Addr) (c0_0:Nat) (l0_0:List (S97)) (a0_1:Int) (a0_2:Int) (a0_3:Int) (a0_4:Int) (a1:Int) (r1:List (S97)) (r2:Int) (r3:Int) (r4:Int) (r5:Int) (r6:Int) (w:World) (hr0_0:Kd.C k97 w A0_0 l0_0.length l0_0) (hc0_0:l0_0.length≤c0_0) (h:spec_PushBack.f k l0_0 a0_1 a0_2 a0_3 a0_4 a1=some (r1,r2,r3,r4,r5,r6)) :
  Calls Try.prog 50 #[.agg #[.slice A0_0 l0_0.length c0_0,.int .i64 a0_1,.int .i64 a0_2,.int .i64 a0_3,.int .i64 a0_4],.int .i64 a1] w fun e w'=>∃ v0_:Value,e = .returned (.tuple #[.agg #[v0_,.int .i64 r2,.int .i64 r3,.int .i64 r4,.int .i64 r5],.int .i64 r6])∧Kd.R k97 97 w' w.heap.size (fun _=>True) v0_ r1∧Below w.heap.size w w':=by
 have hu28:=Try.underlying28
 have hu97:=Try.underlying97
 have HR0_0:=Aside0.mk hr0_0
 have HC0_0:=Aside0.mk hc0_0
 clear hr0_0 hc0_0
 have HB:=Aside0.mk (Below.refl w.heap.size w)
 have H:((spec_l02Copy.f k l0_0 a0_1 a0_2 a0_3 a0_4).bind fun bt164=>((spec_QueueOk.f k l0_0 a0_1 a0_2 a0_3 a0_4).bind fun t172=>(if t172=true then (if a0_3=(-1) then (spec_PushBack.j0 k a1 true l0_0 a0_1 a0_2 a0_3 a0_4 bt164.1 bt164.2.1 bt164.2.2.1 bt164.2.2.2.1 bt164.2.2.2.2) else ((spec_l01In.f a1 1 1000000000).bind fun t173=>(if t173=true then ((spec_PlaceOf.f k l0_0 a0_1 a0_2 a0_3 a0_4 a1).bind fun t174=>(spec_PushBack.j0 k a1 (decide (t174 ≥ 0)) l0_0 a0_1 a0_2 a0_3 a0_4 bt164.1 bt164.2.1 bt164.2.2.1 bt164.2.2.2.1 bt164.2.2.2.2)) else (spec_PushBack.j0 k a1 true l0_0 a0_1 a0_2 a0_3 a0_4 bt164.1 bt164.2.1 bt164.2.2.1 bt164.2.2.2.1 bt164.2.2.2.2)))) else (spec_PushBack.j0 k a1 true l0_0 a0_1 a0_2 a0_3 a0_4 bt164.1 bt164.2.1 bt164.2.2.1 bt164.2.2.2.1 bt164.2.2.2.2))))=some (r1,r2,r3,r4,r5,r6):=h
 clear h
 replace H:=Option.bind_eq_some_iff.mp H
 obtain ⟨⟨t164,t167,t168,t169,t170⟩,A30,H⟩:=H
 replace H:((spec_QueueOk.f k l0_0 a0_1 a0_2 a0_3 a0_4).bind fun t172=>(if t172=true then (if a0_3=(-1) then (spec_PushBack.j0 k a1 true l0_0 a0_1 a0_2 a0_3 a0_4 t164 t167 t168 t169 t170) else ((spec_l01In.f a1 1 1000000000).bind fun t173=>(if t173=true then ((spec_PlaceOf.f k l0_0 a0_1 a0_2 a0_3 a0_4 a1).bind fun t174=>(spec_PushBack.j0 k a1 (decide (t174 ≥ 0)) l0_0 a0_1 a0_2 a0_3 a0_4 t164 t167 t168 t169 t170)) else (spec_PushBack.j0 k a1 true l0_0 a0_1 a0_2 a0_3 a0_4 t164 t167 t168 t169 t170)))) else (spec_PushBack.j0 k a1 true l0_0 a0_1 a0_2 a0_3 a0_4 t164 t167 t168 t169 t170)))=some (r1,r2,r3,r4,r5,r6):=H
 have A3:=Aside0.mk A30
 clear A30
 have HC4:=Aside0.mk H
 clear H
 go_enter Try.func50,Try.ntmps50
 go_upto_region 2 with (first|((with_reducible refine gate_dst (N:=2) rfl ?_);refine bx 2 #[.slice A0_0 l0_0.length c0_0,.int .i64 a0_1,.int .i64 a0_2,.int .i64 a0_3,.int .i64 a0_4] 28 ?_;intro gb162 hg w5 hbox hb;have BK162:=Aside0.mk (hbox);have GW162:=Aside0.mk (bz hg:w.heap.size≤gb162);have GE162:=GW162;replace HB:=Aside0.mk (below_step bl hb);clear hb hbox hg)|((with_reducible refine gate_dst (N:=4) rfl ?_);refine bx 4 #[.slice none 0 0,.int .i64 0,.int .i64 0,.int .i64 0,.int .i64 0] 28 ?_;intro gb163 hg w6 hbox hb;have BK163:=Aside0.mk (hbox);have GW163:=Aside0.mk (bz hg:w.heap.size≤gb163);have GE163:=GW163;replace HB:=Aside0.mk (below_step bl hb);have NB162_163:=Aside0.mk (nl hg BK162:gb162≠gb163);have NB163_162:=Aside0.mk (nr hg BK162:gb163≠gb162);replace BK162:=Aside0.mk (blk_below (bk BK162) hb);clear hb hbox hg;have hnb7:=NB162_163.out;have hnc7:=NB163_162.out;obtain ⟨hcz8_0,hcz8_1,hcz8_2,hcz8_3,hcz8_4,hfz8_0,hfz8_1,hfz8_2,hfz8_3,hfz8_4⟩:=ck5 BK162.out)|((with_reducible refine gate_callee (f:=48) rfl ?_);refine gl Try.func48 #[.agg #[.slice A0_0 l0_0.length c0_0,.int .i64 a0_1,.int .i64 a0_2,.int .i64 a0_3,.int .i64 a0_4]] ?_;(with_reducible refine (spec_l02Copy.calls k _ _ l0_0 a0_1 a0_2 a0_3 a0_4 t164 t167 t168 t169 t170 _ ?side1 ?side2 A3.out).mono ?_);(case side1=>exact kc HR0_0);(case side2=>exact HC0_0.out);rintro e w9 ⟨v165,rfl,ho0,hb⟩;refine ⟨_,rfl,?_⟩;have HO166:=Aside0.mk (Kd.R_lower ho0 (below_size bl));replace BK162:=Aside0.mk (blk_below (bk BK162) hb);replace BK163:=Aside0.mk (blk_below (bk BK163) hb);replace HB:=Aside0.mk (below_step bl hb);(try clear hb);(try clear hb2);(try clear hk);(try clear hi);(try clear ho0))|((with_reducible refine gate_dst (N:=6) rfl ?_);refine bx 6 #[.slice none 0 0,.int .i64 0,.int .i64 0,.int .i64 0,.int .i64 0] 28 ?_;intro gb171 hg w10 hbox hb;replace HO166:=Aside0.mk (Kd.R_below (kr HO166) hb);have BK171:=Aside0.mk (hbox);have GW171:=Aside0.mk (bz hg:w.heap.size≤gb171);have GE171:=GW171;replace HB:=Aside0.mk (below_step bl hb);have NB162_171:=Aside0.mk (nl hg BK162:gb162≠gb171);have NB171_162:=Aside0.mk (nr hg BK162:gb171≠gb162);replace BK162:=Aside0.mk (blk_below (bk BK162) hb);have NB163_171:=Aside0.mk (nl hg BK163:gb163≠gb171);have NB171_163:=Aside0.mk (nr hg BK163:gb171≠gb163);replace BK163:=Aside0.mk (blk_below (bk BK163) hb);clear hb hbox hg;obtain ⟨Ao11,co11,eo11⟩:=Kd.R_slice HO166.out;subst eo11;have hnb12:=NB171_162.out;have hnc12:=NB162_171.out;have hnb13:=NB171_163.out;have hnc13:=NB163_171.out;obtain ⟨hcz14_0,hcz14_1,hcz14_2,hcz14_3,hcz14_4,hfz14_0,hfz14_1,hfz14_2,hfz14_3,hfz14_4⟩:=ck5 BK171.out))
 (try simp only [Act.put,List.setIfInBounds_toArray,List.set_cons_zero,List.set_cons_succ])
 go_cut [28] (fun v28 wc=>∃ (kq:Nat) (x28_3:Bool),v28 = .bool x28_3∧Aside0 (spec_PushBack.j0 kq a1 x28_3 l0_0 a0_1 a0_2 a0_3 a0_4 t164 t167 t168 t169 t170=some (r1,r2,r3,r4,r5,r6))∧Aside0 (kq≤k)∧Aside0 (Kd.R k97 97 wc w.heap.size (fun _=>True) (.slice Ao11 t164.length co11) t164)∧Aside0 (wc.heap[gb162]? = some (.cells #[(.slice A0_0 l0_0.length c0_0),.int .i64 a0_1,.int .i64 a0_2,.int .i64 a0_3,.int .i64 a0_4] 28 (0,0)))∧Aside0 (wc.heap[gb163]? = some (.cells #[(.slice none 0 0),.int .i64 0,.int .i64 0,.int .i64 0,.int .i64 0] 28 (0,0)))∧Aside0 (wc.heap[gb171]? = some (.cells #[(.slice Ao11 t164.length co11),.int .i64 t167,.int .i64 t168,.int .i64 t169,.int .i64 t170] 28 (0,0)))∧Aside0 (Below w.heap.size w wc))
 case first =>
  have H:=HC4.out
  clear HC4
  replace H:=Option.bind_eq_some_iff.mp H
  obtain ⟨t172,A150,H⟩:=H
  have A15:=Aside0.mk A150
  clear A150
  by_cases c16:t172=true
  ·subst c16
   rw [if_pos rfl] at H
   by_cases c17:a0_3=(-1)
   ·rw [if_pos c17] at H
    have c17b0:(a0_3 == (-1))=true:=beq_iff_eq.mpr c17
    have c17b1:(a0_3 != (-1))=false:=bne_eq_false_iff_eq.mpr c17
    clear c17
    (first|rw [c17b0]|(simp only [i64_w,i32_w];rw [c17b0])|skip)
    have H':=Aside0.mk H
    clear H
    have hnb18:=NB162_163.out
    have hnc18:=NB163_162.out
    have hnb19:=NB162_171.out
    have hnc19:=NB171_162.out
    obtain ⟨hcz20_0,hcz20_1,hcz20_2,hcz20_3,hcz20_4,hfz20_0,hfz20_1,hfz20_2,hfz20_3,hfz20_4⟩:=ck5 BK162.out
    go_wp2_with (first|((with_reducible refine gate_callee (f:=60) rfl ?_);refine gl Try.func60 #[.agg #[.slice A0_0 l0_0.length c0_0,.int .i64 a0_1,.int .i64 a0_2,.int .i64 a0_3,.int .i64 a0_4]] ?_;(with_reducible refine (spec_QueueOk.calls k _ _ l0_0 a0_1 a0_2 a0_3 a0_4 true _ ?side1 ?side2 A15.out).mono ?_);(case side1=>exact Kd.C_below HR0_0.out bl);(case side2=>exact HC0_0.out);rintro e w21 ⟨rfl,hb⟩;refine ⟨_,rfl,?_⟩;replace HO166:=Aside0.mk (Kd.R_below (by (with_reducible repeat (first|apply Kd.R_alloc|apply Kd.R_drewN|apply Kd.R_drew));exact (Kd.R_mono (Kd.R_far (p:=⟨gb171,4,none⟩) (Kd.R_far (p:=⟨gb171,3,none⟩) (Kd.R_far (p:=⟨gb171,2,none⟩) (Kd.R_far (p:=⟨gb171,1,none⟩) (Kd.R_far (p:=⟨gb171,0,none⟩) (Kd.R_types HO166.out BK171.out (by decide)) (fun _ hk=>hk.2) (.slice Ao11 t164.length co11)) (fun _ hk=>hk.2) (.int .i64 t167)) (fun _ hk=>hk.2) (.int .i64 t168)) (fun _ hk=>hk.2) (.int .i64 t169)) (fun _ hk=>hk.2) (.int .i64 t170)) (fun _ h_=>h_.1))) hb);replace BK162:=Aside0.mk (blk_below (g:=gb162) (o:=.cells #[.slice A0_0 l0_0.length c0_0,.int .i64 a0_1,.int .i64 a0_2,.int .i64 a0_3,.int .i64 a0_4] 28 (0,0)) (bf BK162) hb);replace BK163:=Aside0.mk (blk_below (g:=gb163) (o:=.cells #[.slice none 0 0,.int .i64 0,.int .i64 0,.int .i64 0,.int .i64 0] 28 (0,0)) (bf BK163) hb);replace BK171:=Aside0.mk (blk_below (g:=gb171) (o:=.cells #[.slice Ao11 t164.length co11,.int .i64 t167,.int .i64 t168,.int .i64 t169,.int .i64 t170] 28 (0,0)) (by (with_reducible repeat (first|refine blk_drewN ?_ _|refine blk_drew ?_|refine blk_alloc ?_ _));refine blk_put (cs:=#[.slice Ao11 t164.length co11,.int .i64 t167,.int .i64 t168,.int .i64 t169,.int .i64 0]) ?_ 4 _ rfl;(with_reducible repeat (first|refine blk_drewN ?_ _|refine blk_drew ?_|refine blk_alloc ?_ _));refine blk_put (cs:=#[.slice Ao11 t164.length co11,.int .i64 t167,.int .i64 t168,.int .i64 0,.int .i64 0]) ?_ 3 _ rfl;(with_reducible repeat (first|refine blk_drewN ?_ _|refine blk_drew ?_|refine blk_alloc ?_ _));refine blk_put (cs:=#[.slice Ao11 t164.length co11,.int .i64 t167,.int .i64 0,.int .i64 0,.int .i64 0]) ?_ 2 _ rfl;(with_reducible repeat (first|refine blk_drewN ?_ _|refine blk_drew ?_|refine blk_alloc ?_ _));refine blk_put (cs:=#[.slice Ao11 t164.length co11,.int .i64 0,.int .i64 0,.int .i64 0,.int .i64 0]) ?_ 1 _ rfl;(with_reducible repeat (first|refine blk_drewN ?_ _|refine blk_drew ?_|refine blk_alloc ?_ _));refine blk_put (cs:=#[.slice none 0 0,.int .i64 0,.int .i64 0,.int .i64 0,.int .i64 0]) ?_ 0 _ rfl;(with_reducible repeat (first|refine blk_drewN ?_ _|refine blk_drew ?_|refine blk_alloc ?_ _));exact BK171.out) hb);replace HB:=Aside0.mk (below_step bl hb);(try clear hb);(try clear hb2);(try clear hk);(try clear hi);obtain ⟨hcz22_0,hcz22_1,hcz22_2,hcz22_3,hcz22_4,hfz22_0,hfz22_1,hfz22_2,hfz22_3,hfz22_4⟩:=ck5 BK162.out))
    go_meet
    case rel=>exact ⟨_,(true),(by first|rfl|(simp;done)|(simp [*];done)),H',⟨by first|omega|exact Nat.le_refl _⟩,⟨kr HO166⟩,⟨bk BK162⟩,⟨bk BK163⟩,⟨bk BK171⟩,⟨bl⟩⟩
   ·rw [if_neg c17] at H
    have c17b0:(a0_3 == (-1))=false:=beq_eq_false_iff_ne.mpr c17
    have c17b1:(a0_3 != (-1))=true:=bne_iff_ne.mpr c17
    (first|rw [c17b0]|(simp only [i64_w,i32_w];rw [c17b0])|skip)
    replace H:=Option.bind_eq_some_iff.mp H
    obtain ⟨t173,A230,H⟩:=H
    have A23:=Aside0.mk A230
    clear A230
    by_cases c24:t173=true
    ·subst c24
     rw [if_pos rfl] at H
     replace H:=Option.bind_eq_some_iff.mp H
     obtain ⟨t174,A250,H⟩:=H
     have A25:=Aside0.mk A250
     clear A250
     have H':=Aside0.mk H
     clear H
     have hnb26:=NB162_163.out
     have hnc26:=NB163_162.out
     have hnb27:=NB162_171.out
     have hnc27:=NB171_162.out
     obtain ⟨hcz28_0,hcz28_1,hcz28_2,hcz28_3,hcz28_4,hfz28_0,hfz28_1,hfz28_2,hfz28_3,hfz28_4⟩:=ck5 BK162.out
     go_wp2_with (first|((with_reducible refine gate_callee (f:=60) rfl ?_);refine gl Try.func60 #[.agg #[.slice A0_0 l0_0.length c0_0,.int .i64 a0_1,.int .i64 a0_2,.int .i64 a0_3,.int .i64 a0_4]] ?_;(with_reducible refine (spec_QueueOk.calls k _ _ l0_0 a0_1 a0_2 a0_3 a0_4 true _ ?side1 ?side2 A15.out).mono ?_);(case side1=>exact Kd.C_below HR0_0.out bl);(case side2=>exact HC0_0.out);rintro e w29 ⟨rfl,hb⟩;refine ⟨_,rfl,?_⟩;replace HO166:=Aside0.mk (Kd.R_below (by (with_reducible repeat (first|apply Kd.R_alloc|apply Kd.R_drewN|apply Kd.R_drew));exact (Kd.R_mono (Kd.R_far (p:=⟨gb171,4,none⟩) (Kd.R_far (p:=⟨gb171,3,none⟩) (Kd.R_far (p:=⟨gb171,2,none⟩) (Kd.R_far (p:=⟨gb171,1,none⟩) (Kd.R_far (p:=⟨gb171,0,none⟩) (Kd.R_types HO166.out BK171.out (by decide)) (fun _ hk=>hk.2) (.slice Ao11 t164.length co11)) (fun _ hk=>hk.2) (.int .i64 t167)) (fun _ hk=>hk.2) (.int .i64 t168)) (fun _ hk=>hk.2) (.int .i64 t169)) (fun _ hk=>hk.2) (.int .i64 t170)) (fun _ h_=>h_.1))) hb);replace BK162:=Aside0.mk (blk_below (g:=gb162) (o:=.cells #[.slice A0_0 l0_0.length c0_0,.int .i64 a0_1,.int .i64 a0_2,.int .i64 a0_3,.int .i64 a0_4] 28 (0,0)) (bf BK162) hb);replace BK163:=Aside0.mk (blk_below (g:=gb163) (o:=.cells #[.slice none 0 0,.int .i64 0,.int .i64 0,.int .i64 0,.int .i64 0] 28 (0,0)) (bf BK163) hb);replace BK171:=Aside0.mk (blk_below (g:=gb171) (o:=.cells #[.slice Ao11 t164.length co11,.int .i64 t167,.int .i64 t168,.int .i64 t169,.int .i64 t170] 28 (0,0)) (by (with_reducible repeat (first|refine blk_drewN ?_ _|refine blk_drew ?_|refine blk_alloc ?_ _));refine blk_put (cs:=#[.slice Ao11 t164.length co11,.int .i64 t167,.int .i64 t168,.int .i64 t169,.int .i64 0]) ?_ 4 _ rfl;(with_reducible repeat (first|refine blk_drewN ?_ _|refine blk_drew ?_|refine blk_alloc ?_ _));refine blk_put (cs:=#[.slice Ao11 t164.length co11,.int .i64 t167,.int .i64 t168,.int .i64 0,.int .i64 0]) ?_ 3 _ rfl;(with_reducible repeat (first|refine blk_drewN ?_ _|refine blk_drew ?_|refine blk_alloc ?_ _));refine blk_put (cs:=#[.slice Ao11 t164.length co11,.int .i64 t167,.int .i64 0,.int .i64 0,.int .i64 0]) ?_ 2 _ rfl;(with_reducible repeat (first|refine blk_drewN ?_ _|refine blk_drew ?_|refine blk_alloc ?_ _));refine blk_put (cs:=#[.slice Ao11 t164.length co11,.int .i64 0,.int .i64 0,.int .i64 0,.int .i64 0]) ?_ 1 _ rfl;(with_reducible repeat (first|refine blk_drewN ?_ _|refine blk_drew ?_|refine blk_alloc ?_ _));refine blk_put (cs:=#[.slice none 0 0,.int .i64 0,.int .i64 0,.int .i64 0,.int .i64 0]) ?_ 0 _ rfl;(with_reducible repeat (first|refine blk_drewN ?_ _|refine blk_drew ?_|refine blk_alloc ?_ _));exact BK171.out) hb);replace HB:=Aside0.mk (below_step bl hb);(try clear hb);(try clear hb2);(try clear hk);(try clear hi);obtain ⟨hcz30_0,hcz30_1,hcz30_2,hcz30_3,hcz30_4,hfz30_0,hfz30_1,hfz30_2,hfz30_3,hfz30_4⟩:=ck5 BK162.out)|(go_at_call 83;(with_reducible refine (spec_l01In.calls a1 1 1000000000 true _ A23.out).mono ?_);rintro e w' ⟨rfl,⟨nd,rfl⟩⟩)|(go_at_call 47;(with_reducible refine (spec_PlaceOf.calls k _ _ l0_0 a0_1 a0_2 a0_3 a0_4 a1 t174 _ ?side1 ?side2 A25.out).mono ?_);(case side1=>repeat (first|exact (Kd.C_below HR0_0.out bl)|(with_reducible refine Kd.C_alloc ?_ _)|(with_reducible refine Kd.C_drewN ?_ _)|(with_reducible refine Kd.C_drew ?_)));(case side2=>exact HC0_0.out);rintro e w31 ⟨rfl,hb⟩;replace HO166:=Aside0.mk (Kd.R_below (kr HO166) hb);replace BK162:=Aside0.mk (blk_below (bk BK162) hb);replace BK163:=Aside0.mk (blk_below (bk BK163) hb);replace BK171:=Aside0.mk (blk_below (bk BK171) hb);replace HB:=Aside0.mk (below_step bl hb);(try clear hb);(try clear hb2);(try clear hk);(try clear hi)))
     go_meet
     case rel=>exact ⟨_,(decide (t174 ≥ 0)),(by first|rfl|(simp;done)|(simp [*];done)),H',⟨by first|omega|exact Nat.le_refl _⟩,⟨kr HO166⟩,⟨bk BK162⟩,⟨bk BK163⟩,⟨bk BK171⟩,⟨bl⟩⟩
    ·replace c24:=Bool.eq_false_iff.mpr c24
     subst c24
     rw [if_neg nft] at H
     have H':=Aside0.mk H
     clear H
     have hnb32:=NB162_163.out
     have hnc32:=NB163_162.out
     have hnb33:=NB162_171.out
     have hnc33:=NB171_162.out
     obtain ⟨hcz34_0,hcz34_1,hcz34_2,hcz34_3,hcz34_4,hfz34_0,hfz34_1,hfz34_2,hfz34_3,hfz34_4⟩:=ck5 BK162.out
     go_wp2_with (first|((with_reducible refine gate_callee (f:=60) rfl ?_);refine gl Try.func60 #[.agg #[.slice A0_0 l0_0.length c0_0,.int .i64 a0_1,.int .i64 a0_2,.int .i64 a0_3,.int .i64 a0_4]] ?_;(with_reducible refine (spec_QueueOk.calls k _ _ l0_0 a0_1 a0_2 a0_3 a0_4 true _ ?side1 ?side2 A15.out).mono ?_);(case side1=>exact Kd.C_below HR0_0.out bl);(case side2=>exact HC0_0.out);rintro e w35 ⟨rfl,hb⟩;refine ⟨_,rfl,?_⟩;replace HO166:=Aside0.mk (Kd.R_below (by (with_reducible repeat (first|apply Kd.R_alloc|apply Kd.R_drewN|apply Kd.R_drew));exact (Kd.R_mono (Kd.R_far (p:=⟨gb171,4,none⟩) (Kd.R_far (p:=⟨gb171,3,none⟩) (Kd.R_far (p:=⟨gb171,2,none⟩) (Kd.R_far (p:=⟨gb171,1,none⟩) (Kd.R_far (p:=⟨gb171,0,none⟩) (Kd.R_types HO166.out BK171.out (by decide)) (fun _ hk=>hk.2) (.slice Ao11 t164.length co11)) (fun _ hk=>hk.2) (.int .i64 t167)) (fun _ hk=>hk.2) (.int .i64 t168)) (fun _ hk=>hk.2) (.int .i64 t169)) (fun _ hk=>hk.2) (.int .i64 t170)) (fun _ h_=>h_.1))) hb);replace BK162:=Aside0.mk (blk_below (g:=gb162) (o:=.cells #[.slice A0_0 l0_0.length c0_0,.int .i64 a0_1,.int .i64 a0_2,.int .i64 a0_3,.int .i64 a0_4] 28 (0,0)) (bf BK162) hb);replace BK163:=Aside0.mk (blk_below (g:=gb163) (o:=.cells #[.slice none 0 0,.int .i64 0,.int .i64 0,.int .i64 0,.int .i64 0] 28 (0,0)) (bf BK163) hb);replace BK171:=Aside0.mk (blk_below (g:=gb171) (o:=.cells #[.slice Ao11 t164.length co11,.int .i64 t167,.int .i64 t168,.int .i64 t169,.int .i64 t170] 28 (0,0)) (by (with_reducible repeat (first|refine blk_drewN ?_ _|refine blk_drew ?_|refine blk_alloc ?_ _));refine blk_put (cs:=#[.slice Ao11 t164.length co11,.int .i64 t167,.int .i64 t168,.int .i64 t169,.int .i64 0]) ?_ 4 _ rfl;(with_reducible repeat (first|refine blk_drewN ?_ _|refine blk_drew ?_|refine blk_alloc ?_ _));refine blk_put (cs:=#[.slice Ao11 t164.length co11,.int .i64 t167,.int .i64 t168,.int .i64 0,.int .i64 0]) ?_ 3 _ rfl;(with_reducible repeat (first|refine blk_drewN ?_ _|refine blk_drew ?_|refine blk_alloc ?_ _));refine blk_put (cs:=#[.slice Ao11 t164.length co11,.int .i64 t167,.int .i64 0,.int .i64 0,.int .i64 0]) ?_ 2 _ rfl;(with_reducible repeat (first|refine blk_drewN ?_ _|refine blk_drew ?_|refine blk_alloc ?_ _));refine blk_put (cs:=#[.slice Ao11 t164.length co11,.int .i64 0,.int .i64 0,.int .i64 0,.int .i64 0]) ?_ 1 _ rfl;(with_reducible repeat (first|refine blk_drewN ?_ _|refine blk_drew ?_|refine blk_alloc ?_ _));refine blk_put (cs:=#[.slice none 0 0,.int .i64 0,.int .i64 0,.int .i64 0,.int .i64 0]) ?_ 0 _ rfl;(with_reducible repeat (first|refine blk_drewN ?_ _|refine blk_drew ?_|refine blk_alloc ?_ _));exact BK171.out) hb);replace HB:=Aside0.mk (below_step bl hb);(try clear hb);(try clear hb2);(try clear hk);(try clear hi);obtain ⟨hcz36_0,hcz36_1,hcz36_2,hcz36_3,hcz36_4,hfz36_0,hfz36_1,hfz36_2,hfz36_3,hfz36_4⟩:=ck5 BK162.out)|(go_at_call 83;(with_reducible refine (spec_l01In.calls a1 1 1000000000 false _ A23.out).mono ?_);rintro e w' ⟨rfl,⟨nd,rfl⟩⟩))
     go_meet
     case rel=>exact ⟨_,(true),(by first|rfl|(simp;done)|(simp [*];done)),H',⟨by first|omega|exact Nat.le_refl _⟩,⟨kr HO166⟩,⟨bk BK162⟩,⟨bk BK163⟩,⟨bk BK171⟩,⟨bl⟩⟩
  ·replace c16:=Bool.eq_false_iff.mpr c16
   subst c16
   rw [if_neg nft] at H
   have H':=Aside0.mk H
   clear H
   have hnb37:=NB162_163.out
   have hnc37:=NB163_162.out
   have hnb38:=NB162_171.out
   have hnc38:=NB171_162.out
   obtain ⟨hcz39_0,hcz39_1,hcz39_2,hcz39_3,hcz39_4,hfz39_0,hfz39_1,hfz39_2,hfz39_3,hfz39_4⟩:=ck5 BK162.out
   go_wp2_with (first|((with_reducible refine gate_callee (f:=60) rfl ?_);refine gl Try.func60 #[.agg #[.slice A0_0 l0_0.length c0_0,.int .i64 a0_1,.int .i64 a0_2,.int .i64 a0_3,.int .i64 a0_4]] ?_;(with_reducible refine (spec_QueueOk.calls k _ _ l0_0 a0_1 a0_2 a0_3 a0_4 false _ ?side1 ?side2 A15.out).mono ?_);(case side1=>exact Kd.C_below HR0_0.out bl);(case side2=>exact HC0_0.out);rintro e w40 ⟨rfl,hb⟩;refine ⟨_,rfl,?_⟩;replace HO166:=Aside0.mk (Kd.R_below (by (with_reducible repeat (first|apply Kd.R_alloc|apply Kd.R_drewN|apply Kd.R_drew));exact (Kd.R_mono (Kd.R_far (p:=⟨gb171,4,none⟩) (Kd.R_far (p:=⟨gb171,3,none⟩) (Kd.R_far (p:=⟨gb171,2,none⟩) (Kd.R_far (p:=⟨gb171,1,none⟩) (Kd.R_far (p:=⟨gb171,0,none⟩) (Kd.R_types HO166.out BK171.out (by decide)) (fun _ hk=>hk.2) (.slice Ao11 t164.length co11)) (fun _ hk=>hk.2) (.int .i64 t167)) (fun _ hk=>hk.2) (.int .i64 t168)) (fun _ hk=>hk.2) (.int .i64 t169)) (fun _ hk=>hk.2) (.int .i64 t170)) (fun _ h_=>h_.1))) hb);replace BK162:=Aside0.mk (blk_below (g:=gb162) (o:=.cells #[.slice A0_0 l0_0.length c0_0,.int .i64 a0_1,.int .i64 a0_2,.int .i64 a0_3,.int .i64 a0_4] 28 (0,0)) (bf BK162) hb);replace BK163:=Aside0.mk (blk_below (g:=gb163) (o:=.cells #[.slice none 0 0,.int .i64 0,.int .i64 0,.int .i64 0,.int .i64 0] 28 (0,0)) (bf BK163) hb);replace BK171:=Aside0.mk (blk_below (g:=gb171) (o:=.cells #[.slice Ao11 t164.length co11,.int .i64 t167,.int .i64 t168,.int .i64 t169,.int .i64 t170] 28 (0,0)) (by (with_reducible repeat (first|refine blk_drewN ?_ _|refine blk_drew ?_|refine blk_alloc ?_ _));refine blk_put (cs:=#[.slice Ao11 t164.length co11,.int .i64 t167,.int .i64 t168,.int .i64 t169,.int .i64 0]) ?_ 4 _ rfl;(with_reducible repeat (first|refine blk_drewN ?_ _|refine blk_drew ?_|refine blk_alloc ?_ _));refine blk_put (cs:=#[.slice Ao11 t164.length co11,.int .i64 t167,.int .i64 t168,.int .i64 0,.int .i64 0]) ?_ 3 _ rfl;(with_reducible repeat (first|refine blk_drewN ?_ _|refine blk_drew ?_|refine blk_alloc ?_ _));refine blk_put (cs:=#[.slice Ao11 t164.length co11,.int .i64 t167,.int .i64 0,.int .i64 0,.int .i64 0]) ?_ 2 _ rfl;(with_reducible repeat (first|refine blk_drewN ?_ _|refine blk_drew ?_|refine blk_alloc ?_ _));refine blk_put (cs:=#[.slice Ao11 t164.length co11,.int .i64 0,.int .i64 0,.int .i64 0,.int .i64 0]) ?_ 1 _ rfl;(with_reducible repeat (first|refine blk_drewN ?_ _|refine blk_drew ?_|refine blk_alloc ?_ _));refine blk_put (cs:=#[.slice none 0 0,.int .i64 0,.int .i64 0,.int .i64 0,.int .i64 0]) ?_ 0 _ rfl;(with_reducible repeat (first|refine blk_drewN ?_ _|refine blk_drew ?_|refine blk_alloc ?_ _));exact BK171.out) hb);replace HB:=Aside0.mk (below_step bl hb);(try clear hb);(try clear hb2);(try clear hk);(try clear hi)))
   go_meet
   case rel=>exact ⟨_,(true),(by first|rfl|(simp;done)|(simp [*];done)),H',⟨by first|omega|exact Nat.le_refl _⟩,⟨kr HO166⟩,⟨bk BK162⟩,⟨bk BK163⟩,⟨bk BK171⟩,⟨bl⟩⟩
 case rest =>
  clear HC4
  try clear c1
  try clear c2
  try clear p2
  try clear c3
  try clear c4
  try clear c5
  try clear c6
  try clear c7
  try clear c12
  try clear c13
  try clear c16
  try clear c17
  try clear c17b0
  try clear c17b1
  try clear c18
  try clear c19
  try clear c24
  try clear c26
  try clear c27
  try clear c32
  try clear c33
  try clear c37
  try clear c38
  try clear hcz14_0
  try clear hcz14_1
  try clear hcz14_2
  try clear hcz14_3
  try clear hcz14_4
  try clear hcz20_0
  try clear hcz20_1
  try clear hcz20_2
  try clear hcz20_3
  try clear hcz20_4
  try clear hcz22_0
  try clear hcz22_1
  try clear hcz22_2
  try clear hcz22_3
  try clear hcz22_4
  try clear hcz28_0
  try clear hcz28_1
  try clear hcz28_2
  try clear hcz28_3
  try clear hcz28_4
  try clear hcz30_0
  try clear hcz30_1
  try clear hcz30_2
  try clear hcz30_3
  try clear hcz30_4
  try clear hcz34_0
  try clear hcz34_1
  try clear hcz34_2
  try clear hcz34_3
  try clear hcz34_4
  try clear hcz36_0
  try clear hcz36_1
  try clear hcz36_2
  try clear hcz36_3
  try clear hcz36_4
  try clear hcz39_0
  try clear hcz39_1
  try clear hcz39_2
  try clear hcz39_3
  try clear hcz39_4
  try clear hcz8_0
  try clear hcz8_1
  try clear hcz8_2
  try clear hcz8_3
  try clear hcz8_4
  try clear hfz14_0
  try clear hfz14_1
  try clear hfz14_2
  try clear hfz14_3
  try clear hfz14_4
  try clear hfz20_0
  try clear hfz20_1
  try clear hfz20_2
  try clear hfz20_3
  try clear hfz20_4
  try clear hfz22_0
  try clear hfz22_1
  try clear hfz22_2
  try clear hfz22_3
  try clear hfz22_4
  try clear hfz28_0
  try clear hfz28_1
  try clear hfz28_2
  try clear hfz28_3
  try clear hfz28_4
  try clear hfz30_0
  try clear hfz30_1
  try clear hfz30_2
  try clear hfz30_3
  try clear hfz30_4
  try clear hfz34_0
  try clear hfz34_1
  try clear hfz34_2
  try clear hfz34_3
  try clear hfz34_4
  try clear hfz36_0
  try clear hfz36_1
  try clear hfz36_2
  try clear hfz36_3
  try clear hfz36_4
  try clear hfz39_0
  try clear hfz39_1
  try clear hfz39_2
  try clear hfz39_3
  try clear hfz39_4
  try clear hfz8_0
  try clear hfz8_1
  try clear hfz8_2
  try clear hfz8_3
  try clear hfz8_4
  obtain ⟨kq,x28_3,rfl,HA,HJ3,HO_172000,BK162,BK163,BK171,HB⟩:=hcut
  cases kq with
  | zero=>exact absurd HA.out (by simp [spec_PushBack.j0])
  | succ kj3 =>
   have H:=HA.out
   clear HA
   simp only [spec_PushBack.j0] at H
   by_cases c41:x28_3=true
   ·subst c41
    rw [if_pos rfl] at H
    simp only [Option.some.injEq,Prod.mk.injEq] at H
    obtain ⟨rfl,rfl,rfl,rfl,rfl,rfl⟩:=H
    have hnb42:=NB171_162.out
    have hnc42:=NB162_171.out
    have hnb43:=NB171_163.out
    have hnc43:=NB163_171.out
    obtain ⟨hcz44_0,hcz44_1,hcz44_2,hcz44_3,hcz44_4,hfz44_0,hfz44_1,hfz44_2,hfz44_3,hfz44_4⟩:=ck5 BK171.out
    have hnb45:=NB163_162.out
    have hnc45:=NB162_163.out
    obtain ⟨hcz46_0,hcz46_1,hcz46_2,hcz46_3,hcz46_4,hfz46_0,hfz46_1,hfz46_2,hfz46_3,hfz46_4⟩:=ck5 BK163.out
    go_wp2
    refine bodyPost_ret (results_ct rfl _ _ gb163 28 #[.slice Ao11 t164.length co11,.int .i64 t167,.int .i64 t168,.int .i64 t169,.int .i64 t170] (0,0) _ rfl (by (with_reducible repeat (first|refine blk_drewN ?_ _|refine blk_drew ?_|refine blk_alloc ?_ _));refine blk_put (cs:=#[.slice Ao11 t164.length co11,.int .i64 t167,.int .i64 t168,.int .i64 t169,.int .i64 0]) ?_ 4 _ rfl;(with_reducible repeat (first|refine blk_drewN ?_ _|refine blk_drew ?_|refine blk_alloc ?_ _));refine blk_put (cs:=#[.slice Ao11 t164.length co11,.int .i64 t167,.int .i64 t168,.int .i64 0,.int .i64 0]) ?_ 3 _ rfl;(with_reducible repeat (first|refine blk_drewN ?_ _|refine blk_drew ?_|refine blk_alloc ?_ _));refine blk_put (cs:=#[.slice Ao11 t164.length co11,.int .i64 t167,.int .i64 0,.int .i64 0,.int .i64 0]) ?_ 2 _ rfl;(with_reducible repeat (first|refine blk_drewN ?_ _|refine blk_drew ?_|refine blk_alloc ?_ _));refine blk_put (cs:=#[.slice Ao11 t164.length co11,.int .i64 0,.int .i64 0,.int .i64 0,.int .i64 0]) ?_ 1 _ rfl;(with_reducible repeat (first|refine blk_drewN ?_ _|refine blk_drew ?_|refine blk_alloc ?_ _));refine blk_put (cs:=#[.slice none 0 0,.int .i64 0,.int .i64 0,.int .i64 0,.int .i64 0]) ?_ 0 _ rfl;(with_reducible repeat (first|refine blk_drewN ?_ _|refine blk_drew ?_|refine blk_alloc ?_ _));exact BK163.out) Try.underlying28 rfl (by kernel_rfl)) rfl ?_
    exact ⟨_,by first|rfl|(simp [errW_none,errW_some] <;> rfl)|(simp [*,errW_none,errW_some] <;> rfl),by (with_reducible repeat (first|apply Kd.R_alloc|apply Kd.R_drewN|apply Kd.R_drew));exact Kd.R_mono (Kd.R_far (p:=⟨gb163,4,none⟩) (Kd.R_far (p:=⟨gb163,3,none⟩) (Kd.R_far (p:=⟨gb163,2,none⟩) (Kd.R_far (p:=⟨gb163,1,none⟩) (Kd.R_far (p:=⟨gb163,0,none⟩) (Kd.R_types HO_172000.out BK163.out (by decide)) (fun _ hk=>hk.2) (.slice Ao11 t164.length co11)) (fun _ hk=>hk.2) (.int .i64 t167)) (fun _ hk=>hk.2) (.int .i64 t168)) (fun _ hk=>hk.2) (.int .i64 t169)) (fun _ hk=>hk.2) (.int .i64 t170)) (fun _ hk=>trivial),bl⟩
   ·replace c41:=Bool.eq_false_iff.mpr c41
    subst c41
    rw [if_neg nft] at H
    by_cases c47:0≤a0_3
    ·rw [if_pos c47] at H
     have c47b0:decide (0≤a0_3)=true:=decide_eq_true c47
     clear c47
     by_cases c48:a0_3 < (l0_0.length:Int)
     ·rw [if_pos c48] at H
      have c48b0:decide (a0_3 < (l0_0.length:Int))=true:=decide_eq_true c48
      clear c48
      by_cases c49:a0_3 < (t164.length:Int)
      ·rw [if_pos c49] at H
       have c49b0:decide (a0_3 < (t164.length:Int))=true:=decide_eq_true c49
       clear c49
       obtain ⟨y176,hy176⟩:∃ y_:List (S97),y_=(t164.set (a0_3:Int).toNat (⟨a1,a0_2,(-1),true⟩:S97)):=⟨_,rfl⟩
       replace H:(if a0_2=(-1) then (some (y176,a0_3,a0_3,(rd_T97 l0_0 a0_3).f2,wrap64 (a0_4 + 1),a0_3)) else (if 0≤a0_2 then (if a0_2 < (t164.length:Int) then (some ((y176.set (a0_2:Int).toNat (⟨(rd_T97 y176 a0_2).f0,(rd_T97 y176 a0_2).f1,a0_3,(rd_T97 y176 a0_2).f3⟩:S97)),t167,a0_3,(rd_T97 l0_0 a0_3).f2,wrap64 (a0_4 + 1),a0_3)) else (none)) else (none)))=some (r1,r2,r3,r4,r5,r6):=by first|(rw [hy176];with_reducible exact H)|(have H2_:=(Option.bind_some _ _).symm.trans H;rw [hy176];with_reducible exact H2_)|(have H2_:=(Option.bind_some _ _).symm.trans H;with_reducible exact H2_)|with_reducible exact H|(rw [hy176];exact H)|exact H
       have Ny176:=Aside0.mk hy176
       clear hy176
       by_cases c51:a0_2=(-1)
       ·rw [if_pos c51] at H
        have c51b0:(a0_2 == (-1))=true:=beq_iff_eq.mpr c51
        have c51b1:(a0_2 != (-1))=false:=bne_eq_false_iff_eq.mpr c51
        clear c51
        simp only [Option.some.injEq,Prod.mk.injEq] at H
        obtain ⟨rfl,rfl,rfl,rfl,rfl,rfl⟩:=H
        have hnb52:=NB162_163.out
        have hnc52:=NB163_162.out
        have hnb53:=NB162_171.out
        have hnc53:=NB171_162.out
        obtain ⟨hcz54_0,hcz54_1,hcz54_2,hcz54_3,hcz54_4,hfz54_0,hfz54_1,hfz54_2,hfz54_3,hfz54_4⟩:=ck5 BK162.out
        have p175:0≤(a0_3:Int):=of_decide_eq_true (by first|(with_reducible assumption)|assumption)
        have q175:a0_3 < (l0_0.length:Int):=of_decide_eq_true (by first|(with_reducible assumption)|assumption)
        obtain ⟨ad175,e175,hx175_0,hx175_1,hx175_2,hx175_3⟩:=at_T97 HR0_0.out a0_3 p175 q175
        cases e175
        replace hx175_0:=cl HB hx175_0
        replace hx175_1:=cl HB hx175_1
        replace hx175_2:=cl HB hx175_2
        replace hx175_3:=cl HB hx175_3
        replace p175:=eq_true p175
        replace q175:=eq_true q175
        have hnb55:=NB171_163.out
        have hnc55:=NB163_171.out
        obtain ⟨hcz56_0,hcz56_1,hcz56_2,hcz56_3,hcz56_4,hfz56_0,hfz56_1,hfz56_2,hfz56_3,hfz56_4⟩:=ck5 BK171.out
        go_wp2_with (first|((with_reducible refine gate_store (t:=3) (p:=38) rfl ?_);refine sx 3 38 (wc.setCell ⟨gb171,3,none⟩ (.int .i64 ((rd_T97 l0_0 a0_3).f2))) ?_;intro w57 hw;have n0_:Aside0 (Kd.R k97 97 w57 w.heap.size (fun _=>True) (.slice Ao11 t164.length co11) t164):=⟨(by rw [hw];exact (by (with_reducible repeat (first|apply Kd.R_alloc|apply Kd.R_drewN|apply Kd.R_drew));exact Kd.R_mono (Kd.R_far (p:=⟨gb171,3,none⟩) (Kd.R_types HO_172000.out BK171.out (by decide)) (fun _ hk=>hk.2) (.int .i64 ((rd_T97 l0_0 a0_3).f2))) (fun _ hk=>trivial)))⟩;have n1_:Aside0 (w57.heap[gb162]? = some (.cells #[.slice (some ad175) l0_0.length c0_0,.int .i64 a0_1,.int .i64 a0_2,.int .i64 a0_3,.int .i64 a0_4] 28 (0,0))):=⟨(by rw [hw];exact (bf BK162))⟩;have n2_:Aside0 (w57.heap[gb163]? = some (.cells #[.slice none 0 0,.int .i64 0,.int .i64 0,.int .i64 0,.int .i64 0] 28 (0,0))):=⟨(by rw [hw];exact (bf BK163))⟩;have n3_:Aside0 (w57.heap[gb171]? = some (.cells #[.slice Ao11 t164.length co11,.int .i64 t167,.int .i64 t168,.int .i64 ((rd_T97 l0_0 a0_3).f2),.int .i64 t170] 28 (0,0))):=⟨(by rw [hw];exact (by (with_reducible repeat (first|refine blk_drewN ?_ _|refine blk_drew ?_|refine blk_alloc ?_ _));refine blk_put (cs:=#[.slice Ao11 t164.length co11,.int .i64 t167,.int .i64 t168,.int .i64 t169,.int .i64 t170]) ?_ 3 _ rfl;(with_reducible repeat (first|refine blk_drewN ?_ _|refine blk_drew ?_|refine blk_alloc ?_ _));exact BK171.out))⟩;have n4_:Aside0 (Below w.heap.size w w57):=⟨(by rw [hw];exact bl)⟩;clear hw;clear HO_172000;clear BK162;clear BK163;clear BK171;clear HB;have HO_172000:=n0_;have BK162:=n1_;have BK163:=n2_;have BK171:=n3_;have HB:=n4_;clear n0_ n1_ n2_ n3_ n4_;obtain ⟨hcz58_0,hcz58_1,hcz58_2,hcz58_3,hcz58_4,hfz58_0,hfz58_1,hfz58_2,hfz58_3,hfz58_4⟩:=ck5 BK171.out;obtain ⟨hcz59_0,hcz59_1,hcz59_2,hcz59_3,hcz59_4,hfz59_0,hfz59_1,hfz59_2,hfz59_3,hfz59_4⟩:=ck5 BK162.out;have p50:0≤(a0_3:Int):=of_decide_eq_true (by first|(with_reducible assumption)|assumption);have q50:(a0_3:Int) < ((t164.length:Int):Int):=of_decide_eq_true (by first|(with_reducible assumption)|assumption);obtain ⟨go50,co50,eo50,gb50,gl50,cl50,HG50⟩:=Kd.R_form HO_172000.out (by omega);(first|cases eo50|(injection eo50 with ea_ en_ ec_;(first|subst ea_|(injection ea_ with ea_;subst ea_));subst ec_;clear en_));have GB50:=Aside0.mk gb50;have GG50:=Aside0.mk HG50;clear gb50 gl50 HG50;obtain ⟨ce50,hcl50,hM50,hcc50,hfr50⟩:=Kd.R_elem HO_172000.out z97 (a0_3:Int) p50 q50;obtain rfl:=k97_openM hM50;have hx50_0:w57.cell? ⟨go50,(a0_3:Int).toNat * 4,none⟩=some (.int .i64 ((rd_T97 t164 a0_3).f0)):=hcc50 0 _ rfl;have hx50_1:w57.cell? ⟨go50,(a0_3:Int).toNat * 4 + 1,none⟩=some (.int .i64 ((rd_T97 t164 a0_3).f1)):=hcc50 1 _ rfl;have hx50_2:w57.cell? ⟨go50,(a0_3:Int).toNat * 4 + 2,none⟩=some (.int .i64 ((rd_T97 t164 a0_3).f2)):=hcc50 2 _ rfl;have hx50_3:w57.cell? ⟨go50,(a0_3:Int).toNat * 4 + 3,none⟩=some (.bool ((rd_T97 t164 a0_3).f3)):=hcc50 3 _ rfl;have hf50_0:w57.frozen? ⟨go50,(a0_3:Int).toNat * 4,none⟩=false:=hfr50 0;have hf50_1:w57.frozen? ⟨go50,(a0_3:Int).toNat * 4 + 1,none⟩=false:=hfr50 1;have hf50_2:w57.frozen? ⟨go50,(a0_3:Int).toNat * 4 + 2,none⟩=false:=hfr50 2;have hf50_3:w57.frozen? ⟨go50,(a0_3:Int).toNat * 4 + 3,none⟩=false:=hfr50 3;clear hcl50 hcc50 hfr50 hM50;replace p50:=eq_true p50;replace q50:=eq_true q50;have HX60:=Aside0.mk (show Kd.R k97 97 w57 w.heap.size (fun _=>True) (.slice (some ⟨go50,0,none⟩) t164.length co11) t164 from (kr HO_172000));obtain ⟨ce60,hcl60,hM60,hcc60,hfr60⟩:=Kd.R_elem HX60.out z97 (a0_3:Int) (of_decide_eq_true (by first|(with_reducible assumption)|assumption)) (by have h_:(a0_3:Int) < ((t164.length:Int):Int):=of_decide_eq_true (by first|(with_reducible assumption)|assumption);first|exact h_|(have e_:=(Kd.R_reads' HO_172000.out).1;omega)|simpa using h_);obtain rfl:=k97_openM hM60;have HP60:=Kd.R_seg HX60.out (a0_3:Int) (of_decide_eq_true (by first|(with_reducible assumption)|assumption)) (by have h_:(a0_3:Int) < ((t164.length:Int):Int):=of_decide_eq_true (by first|(with_reducible assumption)|assumption);first|exact h_|(have e_:=(Kd.R_reads' HO_172000.out).1;omega)|simpa using h_) (seg:=[.int .i64 a1,.int .i64 a0_2,.int .i64 (-1),.bool true]) (j:=0) hcl60 hcc60 (show 4≤4 from by decide) (x':=(⟨a1,a0_2,(-1),true⟩:S97)) (k97_mkM _ _ _ (⟨a1,a0_2,(-1),true⟩:S97) ) (fun _ hk=>hk);have hx60_0:=hcc60 0 _ rfl;(try simp only [show (k97).sz=4 from rfl,Nat.mul_one,Nat.add_zero] at hx60_0);have hf60_0:=hfr60 0;(try simp only [show (k97).sz=4 from rfl,Nat.mul_one,Nat.add_zero] at hf60_0);have hx60_1:=hcc60 1 _ rfl;(try simp only [show (k97).sz=4 from rfl,Nat.mul_one,Nat.add_zero] at hx60_1);have hf60_1:=hfr60 1;(try simp only [show (k97).sz=4 from rfl,Nat.mul_one,Nat.add_zero] at hf60_1);have hx60_2:=hcc60 2 _ rfl;(try simp only [show (k97).sz=4 from rfl,Nat.mul_one,Nat.add_zero] at hx60_2);have hf60_2:=hfr60 2;(try simp only [show (k97).sz=4 from rfl,Nat.mul_one,Nat.add_zero] at hf60_2);have hx60_3:=hcc60 3 _ rfl;(try simp only [show (k97).sz=4 from rfl,Nat.mul_one,Nat.add_zero] at hx60_3);have hf60_3:=hfr60 3;(try simp only [show (k97).sz=4 from rfl,Nat.mul_one,Nat.add_zero] at hf60_3);clear hcl60 hcc60 hfr60 hM60)|((with_reducible refine gate_store (t:=97) (p:=46) rfl ?_);refine sx 97 46 ((((w57.setCell ⟨go50,(a0_3:Int).toNat * 4,none⟩ (.int .i64 a1)).setCell ⟨go50,(a0_3:Int).toNat * 4 + 1,none⟩ (.int .i64 a0_2)).setCell ⟨go50,(a0_3:Int).toNat * 4 + 2,none⟩ (.int .i64 (-1))).setCell ⟨go50,(a0_3:Int).toNat * 4 + 3,none⟩ (.bool true)) ?_;intro w61 hw;have hg:w57.grownBy w61 (some go50):=(by rw [hw];exact HP60.2);have hp_:Kd.R k97 97 w61 w.heap.size (fun _=>True) (.slice (some ⟨go50,0,none⟩) t164.length co11) y176:=(by rw [hw,Ny176.out];exact HP60.1);clear HP60;replace BK162:=Aside0.mk (blk_grown (bk BK162) hg (Kd.R_ne HO_172000.out BK162.out (by decide)));replace BK163:=Aside0.mk (blk_grown (bk BK163) hg (Kd.R_ne HO_172000.out BK163.out (by decide)));replace BK171:=Aside0.mk (blk_grown (bk BK171) hg (Kd.R_ne HO_172000.out BK171.out (by decide)));replace HO_172000:=Aside0.mk (hp_);replace HB:=Aside0.mk ((by rw [hw];exact below_set (below_set (below_set (below_set (HB.out) GB50.out) GB50.out) GB50.out) GB50.out:Below w.heap.size w w61));clear hg hw hp_;obtain ⟨hcz62_0,hcz62_1,hcz62_2,hcz62_3,hcz62_4,hfz62_0,hfz62_1,hfz62_2,hfz62_3,hfz62_4⟩:=ck5 BK162.out;obtain ⟨hcz63_0,hcz63_1,hcz63_2,hcz63_3,hcz63_4,hfz63_0,hfz63_1,hfz63_2,hfz63_3,hfz63_4⟩:=ck5 BK171.out;obtain ⟨hcz64_0,hcz64_1,hcz64_2,hcz64_3,hcz64_4,hfz64_0,hfz64_1,hfz64_2,hfz64_3,hfz64_4⟩:=ck5 BK163.out))
        refine bodyPost_ret (results_ct rfl _ _ gb163 28 #[.slice (some ⟨go50,0,none⟩) t164.length co11,.int .i64 a0_3,.int .i64 a0_3,.int .i64 ((rd_T97 l0_0 a0_3).f2),.int .i64 (wrap64 (a0_4 + 1))] (0,0) _ rfl (by (with_reducible repeat (first|refine blk_drewN ?_ _|refine blk_drew ?_|refine blk_alloc ?_ _));refine blk_put (cs:=#[.slice (some ⟨go50,0,none⟩) t164.length co11,.int .i64 a0_3,.int .i64 a0_3,.int .i64 ((rd_T97 l0_0 a0_3).f2),.int .i64 0]) ?_ 4 _ rfl;(with_reducible repeat (first|refine blk_drewN ?_ _|refine blk_drew ?_|refine blk_alloc ?_ _));refine blk_put (cs:=#[.slice (some ⟨go50,0,none⟩) t164.length co11,.int .i64 a0_3,.int .i64 a0_3,.int .i64 0,.int .i64 0]) ?_ 3 _ rfl;(with_reducible repeat (first|refine blk_drewN ?_ _|refine blk_drew ?_|refine blk_alloc ?_ _));refine blk_put (cs:=#[.slice (some ⟨go50,0,none⟩) t164.length co11,.int .i64 a0_3,.int .i64 0,.int .i64 0,.int .i64 0]) ?_ 2 _ rfl;(with_reducible repeat (first|refine blk_drewN ?_ _|refine blk_drew ?_|refine blk_alloc ?_ _));refine blk_put (cs:=#[.slice (some ⟨go50,0,none⟩) t164.length co11,.int .i64 0,.int .i64 0,.int .i64 0,.int .i64 0]) ?_ 1 _ rfl;(with_reducible repeat (first|refine blk_drewN ?_ _|refine blk_drew ?_|refine blk_alloc ?_ _));refine blk_put (cs:=#[.slice none 0 0,.int .i64 0,.int .i64 0,.int .i64 0,.int .i64 0]) ?_ 0 _ rfl;(with_reducible repeat (first|refine blk_drewN ?_ _|refine blk_drew ?_|refine blk_alloc ?_ _));refine blk_far ?_ NB163_171.out _;(with_reducible repeat (first|refine blk_drewN ?_ _|refine blk_drew ?_|refine blk_alloc ?_ _));refine blk_far ?_ NB163_171.out _;(with_reducible repeat (first|refine blk_drewN ?_ _|refine blk_drew ?_|refine blk_alloc ?_ _));refine blk_far ?_ NB163_171.out _;(with_reducible repeat (first|refine blk_drewN ?_ _|refine blk_drew ?_|refine blk_alloc ?_ _));exact BK163.out) Try.underlying28 rfl (by kernel_rfl)) rfl ?_
        exact ⟨_,by first|rfl|(simp [errW_none,errW_some] <;> rfl)|(simp [*,errW_none,errW_some] <;> rfl),by (with_reducible repeat (first|apply Kd.R_alloc|apply Kd.R_drewN|apply Kd.R_drew));exact Kd.R_mono (Kd.R_far (p:=⟨gb163,4,none⟩) (Kd.R_far (p:=⟨gb163,3,none⟩) (Kd.R_far (p:=⟨gb163,2,none⟩) (Kd.R_far (p:=⟨gb163,1,none⟩) (Kd.R_far (p:=⟨gb163,0,none⟩) (Kd.R_far (p:=⟨gb171,4,none⟩) (Kd.R_far (p:=⟨gb171,2,none⟩) (Kd.R_far (p:=⟨gb171,1,none⟩) (Kd.R_types (Kd.R_types HO_172000.out BK171.out (by decide)) BK163.out (by decide)) (fun _ hk=>hk.1.2) (.int .i64 a0_3)) (fun _ hk=>hk.1.2) (.int .i64 a0_3)) (fun _ hk=>hk.1.2) (.int .i64 (wrap64 (a0_4 + 1)))) (fun _ hk=>hk.2) (.slice (some ⟨go50,0,none⟩) t164.length co11)) (fun _ hk=>hk.2) (.int .i64 a0_3)) (fun _ hk=>hk.2) (.int .i64 a0_3)) (fun _ hk=>hk.2) (.int .i64 ((rd_T97 l0_0 a0_3).f2))) (fun _ hk=>hk.2) (.int .i64 (wrap64 (a0_4 + 1)))) (fun _ hk=>trivial),bl⟩
       ·rw [if_neg c51] at H
        have c51b0:(a0_2 == (-1))=false:=beq_eq_false_iff_ne.mpr c51
        have c51b1:(a0_2 != (-1))=true:=bne_iff_ne.mpr c51
        by_cases c65:0≤a0_2
        ·rw [if_pos c65] at H
         have c65b0:decide (0≤a0_2)=true:=decide_eq_true c65
         clear c65
         by_cases c66:a0_2 < (t164.length:Int)
         ·rw [if_pos c66] at H
          have c66b0:decide (a0_2 < (t164.length:Int))=true:=decide_eq_true c66
          clear c66
          obtain ⟨y177,hy177⟩:∃ y_:List (S97),y_=(y176.set (a0_2:Int).toNat (⟨(rd_T97 y176 a0_2).f0,(rd_T97 y176 a0_2).f1,a0_3,(rd_T97 y176 a0_2).f3⟩:S97)):=⟨_,rfl⟩
          replace H:(some (y177,t167,a0_3,(rd_T97 l0_0 a0_3).f2,wrap64 (a0_4 + 1),a0_3))=some (r1,r2,r3,r4,r5,r6):=by first|(rw [hy177];with_reducible exact H)|(have H2_:=(Option.bind_some _ _).symm.trans H;rw [hy177];with_reducible exact H2_)|(have H2_:=(Option.bind_some _ _).symm.trans H;with_reducible exact H2_)|with_reducible exact H|(rw [hy177];exact H)|exact H
          have Ny177:=Aside0.mk hy177
          clear hy177
          simp only [Option.some.injEq,Prod.mk.injEq] at H
          obtain ⟨rfl,rfl,rfl,rfl,rfl,rfl⟩:=H
          have hnb68:=NB162_163.out
          have hnc68:=NB163_162.out
          have hnb69:=NB162_171.out
          have hnc69:=NB171_162.out
          obtain ⟨hcz70_0,hcz70_1,hcz70_2,hcz70_3,hcz70_4,hfz70_0,hfz70_1,hfz70_2,hfz70_3,hfz70_4⟩:=ck5 BK162.out
          have p175:0≤(a0_3:Int):=of_decide_eq_true (by first|(with_reducible assumption)|assumption)
          have q175:a0_3 < (l0_0.length:Int):=of_decide_eq_true (by first|(with_reducible assumption)|assumption)
          obtain ⟨ad175,e175,hx175_0,hx175_1,hx175_2,hx175_3⟩:=at_T97 HR0_0.out a0_3 p175 q175
          cases e175
          replace hx175_0:=cl HB hx175_0
          replace hx175_1:=cl HB hx175_1
          replace hx175_2:=cl HB hx175_2
          replace hx175_3:=cl HB hx175_3
          replace p175:=eq_true p175
          replace q175:=eq_true q175
          have hnb71:=NB171_163.out
          have hnc71:=NB163_171.out
          obtain ⟨hcz72_0,hcz72_1,hcz72_2,hcz72_3,hcz72_4,hfz72_0,hfz72_1,hfz72_2,hfz72_3,hfz72_4⟩:=ck5 BK171.out
          go_wp2_with (first|((with_reducible refine gate_store (t:=3) (p:=38) rfl ?_);refine sx 3 38 (wc.setCell ⟨gb171,3,none⟩ (.int .i64 ((rd_T97 l0_0 a0_3).f2))) ?_;intro w73 hw;have n0_:Aside0 (Kd.R k97 97 w73 w.heap.size (fun _=>True) (.slice Ao11 t164.length co11) t164):=⟨(by rw [hw];exact (by (with_reducible repeat (first|apply Kd.R_alloc|apply Kd.R_drewN|apply Kd.R_drew));exact Kd.R_mono (Kd.R_far (p:=⟨gb171,3,none⟩) (Kd.R_types HO_172000.out BK171.out (by decide)) (fun _ hk=>hk.2) (.int .i64 ((rd_T97 l0_0 a0_3).f2))) (fun _ hk=>trivial)))⟩;have n1_:Aside0 (w73.heap[gb162]? = some (.cells #[.slice (some ad175) l0_0.length c0_0,.int .i64 a0_1,.int .i64 a0_2,.int .i64 a0_3,.int .i64 a0_4] 28 (0,0))):=⟨(by rw [hw];exact (bf BK162))⟩;have n2_:Aside0 (w73.heap[gb163]? = some (.cells #[.slice none 0 0,.int .i64 0,.int .i64 0,.int .i64 0,.int .i64 0] 28 (0,0))):=⟨(by rw [hw];exact (bf BK163))⟩;have n3_:Aside0 (w73.heap[gb171]? = some (.cells #[.slice Ao11 t164.length co11,.int .i64 t167,.int .i64 t168,.int .i64 ((rd_T97 l0_0 a0_3).f2),.int .i64 t170] 28 (0,0))):=⟨(by rw [hw];exact (by (with_reducible repeat (first|refine blk_drewN ?_ _|refine blk_drew ?_|refine blk_alloc ?_ _));refine blk_put (cs:=#[.slice Ao11 t164.length co11,.int .i64 t167,.int .i64 t168,.int .i64 t169,.int .i64 t170]) ?_ 3 _ rfl;(with_reducible repeat (first|refine blk_drewN ?_ _|refine blk_drew ?_|refine blk_alloc ?_ _));exact BK171.out))⟩;have n4_:Aside0 (Below w.heap.size w w73):=⟨(by rw [hw];exact bl)⟩;clear hw;clear HO_172000;clear BK162;clear BK163;clear BK171;clear HB;have HO_172000:=n0_;have BK162:=n1_;have BK163:=n2_;have BK171:=n3_;have HB:=n4_;clear n0_ n1_ n2_ n3_ n4_;obtain ⟨hcz74_0,hcz74_1,hcz74_2,hcz74_3,hcz74_4,hfz74_0,hfz74_1,hfz74_2,hfz74_3,hfz74_4⟩:=ck5 BK171.out;obtain ⟨hcz75_0,hcz75_1,hcz75_2,hcz75_3,hcz75_4,hfz75_0,hfz75_1,hfz75_2,hfz75_3,hfz75_4⟩:=ck5 BK162.out;have p50:0≤(a0_3:Int):=of_decide_eq_true (by first|(with_reducible assumption)|assumption);have q50:(a0_3:Int) < ((t164.length:Int):Int):=of_decide_eq_true (by first|(with_reducible assumption)|assumption);obtain ⟨go50,co50,eo50,gb50,gl50,cl50,HG50⟩:=Kd.R_form HO_172000.out (by omega);(first|cases eo50|(injection eo50 with ea_ en_ ec_;(first|subst ea_|(injection ea_ with ea_;subst ea_));subst ec_;clear en_));have GB50:=Aside0.mk gb50;have GG50:=Aside0.mk HG50;clear gb50 gl50 HG50;obtain ⟨ce50,hcl50,hM50,hcc50,hfr50⟩:=Kd.R_elem HO_172000.out z97 (a0_3:Int) p50 q50;obtain rfl:=k97_openM hM50;have hx50_0:w73.cell? ⟨go50,(a0_3:Int).toNat * 4,none⟩=some (.int .i64 ((rd_T97 t164 a0_3).f0)):=hcc50 0 _ rfl;have hx50_1:w73.cell? ⟨go50,(a0_3:Int).toNat * 4 + 1,none⟩=some (.int .i64 ((rd_T97 t164 a0_3).f1)):=hcc50 1 _ rfl;have hx50_2:w73.cell? ⟨go50,(a0_3:Int).toNat * 4 + 2,none⟩=some (.int .i64 ((rd_T97 t164 a0_3).f2)):=hcc50 2 _ rfl;have hx50_3:w73.cell? ⟨go50,(a0_3:Int).toNat * 4 + 3,none⟩=some (.bool ((rd_T97 t164 a0_3).f3)):=hcc50 3 _ rfl;have hf50_0:w73.frozen? ⟨go50,(a0_3:Int).toNat * 4,none⟩=false:=hfr50 0;have hf50_1:w73.frozen? ⟨go50,(a0_3:Int).toNat * 4 + 1,none⟩=false:=hfr50 1;have hf50_2:w73.frozen? ⟨go50,(a0_3:Int).toNat * 4 + 2,none⟩=false:=hfr50 2;have hf50_3:w73.frozen? ⟨go50,(a0_3:Int).toNat * 4 + 3,none⟩=false:=hfr50 3;clear hcl50 hcc50 hfr50 hM50;replace p50:=eq_true p50;replace q50:=eq_true q50;have HX76:=Aside0.mk (show Kd.R k97 97 w73 w.heap.size (fun _=>True) (.slice (some ⟨go50,0,none⟩) t164.length co11) t164 from (kr HO_172000));obtain ⟨ce76,hcl76,hM76,hcc76,hfr76⟩:=Kd.R_elem HX76.out z97 (a0_3:Int) (of_decide_eq_true (by first|(with_reducible assumption)|assumption)) (by have h_:(a0_3:Int) < ((t164.length:Int):Int):=of_decide_eq_true (by first|(with_reducible assumption)|assumption);first|exact h_|(have e_:=(Kd.R_reads' HO_172000.out).1;omega)|simpa using h_);obtain rfl:=k97_openM hM76;have HP76:=Kd.R_seg HX76.out (a0_3:Int) (of_decide_eq_true (by first|(with_reducible assumption)|assumption)) (by have h_:(a0_3:Int) < ((t164.length:Int):Int):=of_decide_eq_true (by first|(with_reducible assumption)|assumption);first|exact h_|(have e_:=(Kd.R_reads' HO_172000.out).1;omega)|simpa using h_) (seg:=[.int .i64 a1,.int .i64 a0_2,.int .i64 (-1),.bool true]) (j:=0) hcl76 hcc76 (show 4≤4 from by decide) (x':=(⟨a1,a0_2,(-1),true⟩:S97)) (k97_mkM _ _ _ (⟨a1,a0_2,(-1),true⟩:S97) ) (fun _ hk=>hk);have hx76_0:=hcc76 0 _ rfl;(try simp only [show (k97).sz=4 from rfl,Nat.mul_one,Nat.add_zero] at hx76_0);have hf76_0:=hfr76 0;(try simp only [show (k97).sz=4 from rfl,Nat.mul_one,Nat.add_zero] at hf76_0);have hx76_1:=hcc76 1 _ rfl;(try simp only [show (k97).sz=4 from rfl,Nat.mul_one,Nat.add_zero] at hx76_1);have hf76_1:=hfr76 1;(try simp only [show (k97).sz=4 from rfl,Nat.mul_one,Nat.add_zero] at hf76_1);have hx76_2:=hcc76 2 _ rfl;(try simp only [show (k97).sz=4 from rfl,Nat.mul_one,Nat.add_zero] at hx76_2);have hf76_2:=hfr76 2;(try simp only [show (k97).sz=4 from rfl,Nat.mul_one,Nat.add_zero] at hf76_2);have hx76_3:=hcc76 3 _ rfl;(try simp only [show (k97).sz=4 from rfl,Nat.mul_one,Nat.add_zero] at hx76_3);have hf76_3:=hfr76 3;(try simp only [show (k97).sz=4 from rfl,Nat.mul_one,Nat.add_zero] at hf76_3);clear hcl76 hcc76 hfr76 hM76)|((with_reducible refine gate_store (t:=97) (p:=46) rfl ?_);refine sx 97 46 ((((w73.setCell ⟨go50,(a0_3:Int).toNat * 4,none⟩ (.int .i64 a1)).setCell ⟨go50,(a0_3:Int).toNat * 4 + 1,none⟩ (.int .i64 a0_2)).setCell ⟨go50,(a0_3:Int).toNat * 4 + 2,none⟩ (.int .i64 (-1))).setCell ⟨go50,(a0_3:Int).toNat * 4 + 3,none⟩ (.bool true)) ?_;intro w77 hw;have hg:w73.grownBy w77 (some go50):=(by rw [hw];exact HP76.2);have hp_:Kd.R k97 97 w77 w.heap.size (fun _=>True) (.slice (some ⟨go50,0,none⟩) t164.length co11) y176:=(by rw [hw,Ny176.out];exact HP76.1);clear HP76;replace BK162:=Aside0.mk (blk_grown (bk BK162) hg (Kd.R_ne HO_172000.out BK162.out (by decide)));replace BK163:=Aside0.mk (blk_grown (bk BK163) hg (Kd.R_ne HO_172000.out BK163.out (by decide)));replace BK171:=Aside0.mk (blk_grown (bk BK171) hg (Kd.R_ne HO_172000.out BK171.out (by decide)));replace HO_172000:=Aside0.mk (hp_);replace HB:=Aside0.mk ((by rw [hw];exact below_set (below_set (below_set (below_set (HB.out) GB50.out) GB50.out) GB50.out) GB50.out:Below w.heap.size w w77));clear hg hw hp_;obtain ⟨hcz78_0,hcz78_1,hcz78_2,hcz78_3,hcz78_4,hfz78_0,hfz78_1,hfz78_2,hfz78_3,hfz78_4⟩:=ck5 BK162.out;obtain ⟨hcz79_0,hcz79_1,hcz79_2,hcz79_3,hcz79_4,hfz79_0,hfz79_1,hfz79_2,hfz79_3,hfz79_4⟩:=ck5 BK171.out;have p67:0≤(a0_2:Int):=of_decide_eq_true (by first|(with_reducible assumption)|assumption);have q67:(a0_2:Int) < ((t164.length:Int):Int):=of_decide_eq_true (by first|(with_reducible assumption)|assumption);obtain ⟨ce67,hcl67,hM67,hcc67,hfr67⟩:=Kd.R_elem HO_172000.out z97 (a0_2:Int) p67 q67;obtain rfl:=k97_openM hM67;have hx67_0:w77.cell? ⟨go50,(a0_2:Int).toNat * 4,none⟩=some (.int .i64 ((rd_T97 y176 a0_2).f0)):=hcc67 0 _ rfl;have hx67_1:w77.cell? ⟨go50,(a0_2:Int).toNat * 4 + 1,none⟩=some (.int .i64 ((rd_T97 y176 a0_2).f1)):=hcc67 1 _ rfl;have hx67_2:w77.cell? ⟨go50,(a0_2:Int).toNat * 4 + 2,none⟩=some (.int .i64 ((rd_T97 y176 a0_2).f2)):=hcc67 2 _ rfl;have hx67_3:w77.cell? ⟨go50,(a0_2:Int).toNat * 4 + 3,none⟩=some (.bool ((rd_T97 y176 a0_2).f3)):=hcc67 3 _ rfl;have hf67_0:w77.frozen? ⟨go50,(a0_2:Int).toNat * 4,none⟩=false:=hfr67 0;have hf67_1:w77.frozen? ⟨go50,(a0_2:Int).toNat * 4 + 1,none⟩=false:=hfr67 1;have hf67_2:w77.frozen? ⟨go50,(a0_2:Int).toNat * 4 + 2,none⟩=false:=hfr67 2;have hf67_3:w77.frozen? ⟨go50,(a0_2:Int).toNat * 4 + 3,none⟩=false:=hfr67 3;clear hcl67 hcc67 hfr67 hM67;replace p67:=eq_true p67;replace q67:=eq_true q67;have HX80:=Aside0.mk (show Kd.R k97 97 w77 w.heap.size (fun _=>True) (.slice (some ⟨go50,0,none⟩) t164.length co11) y176 from (kr HO_172000));obtain ⟨ce80,hcl80,hM80,hcc80,hfr80⟩:=Kd.R_elem HX80.out z97 (a0_2:Int) (of_decide_eq_true (by first|(with_reducible assumption)|assumption)) (by have h_:(a0_2:Int) < ((t164.length:Int):Int):=of_decide_eq_true (by first|(with_reducible assumption)|assumption);first|exact h_|(have e_:=(Kd.R_reads' HO_172000.out).1;omega)|simpa using h_);obtain rfl:=k97_openM hM80;have HP80:=Kd.R_seg HX80.out (a0_2:Int) (of_decide_eq_true (by first|(with_reducible assumption)|assumption)) (by have h_:(a0_2:Int) < ((t164.length:Int):Int):=of_decide_eq_true (by first|(with_reducible assumption)|assumption);first|exact h_|(have e_:=(Kd.R_reads' HO_172000.out).1;omega)|simpa using h_) (seg:=[.int .i64 a0_3]) (j:=2) hcl80 hcc80 (show 3≤4 from by decide) (x':=(⟨(rd_T97 y176 a0_2).f0,(rd_T97 y176 a0_2).f1,a0_3,(rd_T97 y176 a0_2).f3⟩:S97)) (k97_mkM _ _ _ (⟨(rd_T97 y176 a0_2).f0,(rd_T97 y176 a0_2).f1,a0_3,(rd_T97 y176 a0_2).f3⟩:S97) ) (fun _ hk=>hk);have hx80_2:=hcc80 2 _ rfl;(try simp only [show (k97).sz=4 from rfl,Nat.mul_one,Nat.add_zero] at hx80_2);have hf80_2:=hfr80 2;(try simp only [show (k97).sz=4 from rfl,Nat.mul_one,Nat.add_zero] at hf80_2);clear hcl80 hcc80 hfr80 hM80)|((with_reducible refine gate_store (t:=3) (p:=58) rfl ?_);refine sx 3 58 (w77.setCell ⟨go50,(a0_2:Int).toNat * 4 + 2,none⟩ (.int .i64 a0_3)) ?_;intro w81 hw;have hg:w77.grownBy w81 (some go50):=(by rw [hw];exact HP80.2);have hp_:Kd.R k97 97 w81 w.heap.size (fun _=>True) (.slice (some ⟨go50,0,none⟩) t164.length co11) y177:=(by rw [hw,Ny177.out];exact HP80.1);clear HP80;replace BK162:=Aside0.mk (blk_grown (bk BK162) hg (Kd.R_ne HO_172000.out BK162.out (by decide)));replace BK163:=Aside0.mk (blk_grown (bk BK163) hg (Kd.R_ne HO_172000.out BK163.out (by decide)));replace BK171:=Aside0.mk (blk_grown (bk BK171) hg (Kd.R_ne HO_172000.out BK171.out (by decide)));replace HO_172000:=Aside0.mk (hp_);replace HB:=Aside0.mk ((by rw [hw];exact below_set (HB.out) GB50.out:Below w.heap.size w w81));clear hg hw hp_;obtain ⟨hcz82_0,hcz82_1,hcz82_2,hcz82_3,hcz82_4,hfz82_0,hfz82_1,hfz82_2,hfz82_3,hfz82_4⟩:=ck5 BK171.out;obtain ⟨hcz83_0,hcz83_1,hcz83_2,hcz83_3,hcz83_4,hfz83_0,hfz83_1,hfz83_2,hfz83_3,hfz83_4⟩:=ck5 BK162.out;obtain ⟨hcz84_0,hcz84_1,hcz84_2,hcz84_3,hcz84_4,hfz84_0,hfz84_1,hfz84_2,hfz84_3,hfz84_4⟩:=ck5 BK163.out))
          refine bodyPost_ret (results_ct rfl _ _ gb163 28 #[.slice (some ⟨go50,0,none⟩) t164.length co11,.int .i64 t167,.int .i64 a0_3,.int .i64 ((rd_T97 l0_0 a0_3).f2),.int .i64 (wrap64 (a0_4 + 1))] (0,0) _ rfl (by (with_reducible repeat (first|refine blk_drewN ?_ _|refine blk_drew ?_|refine blk_alloc ?_ _));refine blk_put (cs:=#[.slice (some ⟨go50,0,none⟩) t164.length co11,.int .i64 t167,.int .i64 a0_3,.int .i64 ((rd_T97 l0_0 a0_3).f2),.int .i64 0]) ?_ 4 _ rfl;(with_reducible repeat (first|refine blk_drewN ?_ _|refine blk_drew ?_|refine blk_alloc ?_ _));refine blk_put (cs:=#[.slice (some ⟨go50,0,none⟩) t164.length co11,.int .i64 t167,.int .i64 a0_3,.int .i64 0,.int .i64 0]) ?_ 3 _ rfl;(with_reducible repeat (first|refine blk_drewN ?_ _|refine blk_drew ?_|refine blk_alloc ?_ _));refine blk_put (cs:=#[.slice (some ⟨go50,0,none⟩) t164.length co11,.int .i64 t167,.int .i64 0,.int .i64 0,.int .i64 0]) ?_ 2 _ rfl;(with_reducible repeat (first|refine blk_drewN ?_ _|refine blk_drew ?_|refine blk_alloc ?_ _));refine blk_put (cs:=#[.slice (some ⟨go50,0,none⟩) t164.length co11,.int .i64 0,.int .i64 0,.int .i64 0,.int .i64 0]) ?_ 1 _ rfl;(with_reducible repeat (first|refine blk_drewN ?_ _|refine blk_drew ?_|refine blk_alloc ?_ _));refine blk_put (cs:=#[.slice none 0 0,.int .i64 0,.int .i64 0,.int .i64 0,.int .i64 0]) ?_ 0 _ rfl;(with_reducible repeat (first|refine blk_drewN ?_ _|refine blk_drew ?_|refine blk_alloc ?_ _));refine blk_far ?_ NB163_171.out _;(with_reducible repeat (first|refine blk_drewN ?_ _|refine blk_drew ?_|refine blk_alloc ?_ _));refine blk_far ?_ NB163_171.out _;(with_reducible repeat (first|refine blk_drewN ?_ _|refine blk_drew ?_|refine blk_alloc ?_ _));exact BK163.out) Try.underlying28 rfl (by kernel_rfl)) rfl ?_
          exact ⟨_,by first|rfl|(simp [errW_none,errW_some] <;> rfl)|(simp [*,errW_none,errW_some] <;> rfl),by (with_reducible repeat (first|apply Kd.R_alloc|apply Kd.R_drewN|apply Kd.R_drew));exact Kd.R_mono (Kd.R_far (p:=⟨gb163,4,none⟩) (Kd.R_far (p:=⟨gb163,3,none⟩) (Kd.R_far (p:=⟨gb163,2,none⟩) (Kd.R_far (p:=⟨gb163,1,none⟩) (Kd.R_far (p:=⟨gb163,0,none⟩) (Kd.R_far (p:=⟨gb171,4,none⟩) (Kd.R_far (p:=⟨gb171,2,none⟩) (Kd.R_types (Kd.R_types HO_172000.out BK171.out (by decide)) BK163.out (by decide)) (fun _ hk=>hk.1.2) (.int .i64 a0_3)) (fun _ hk=>hk.1.2) (.int .i64 (wrap64 (a0_4 + 1)))) (fun _ hk=>hk.2) (.slice (some ⟨go50,0,none⟩) t164.length co11)) (fun _ hk=>hk.2) (.int .i64 t167)) (fun _ hk=>hk.2) (.int .i64 a0_3)) (fun _ hk=>hk.2) (.int .i64 ((rd_T97 l0_0 a0_3).f2))) (fun _ hk=>hk.2) (.int .i64 (wrap64 (a0_4 + 1)))) (fun _ hk=>trivial),bl⟩
         ·rw [if_neg c66] at H
          exact absurd H (by simp)
        ·rw [if_neg c65] at H
         exact absurd H (by simp)
      ·rw [if_neg c49] at H
       exact absurd H (by simp)
     ·rw [if_neg c48] at H
      exact absurd H (by simp)
    ·rw [if_neg c47] at H
     exact absurd H (by simp)

/-! ### spec_MoveBack: function 13 -/
def spec_MoveBack.f (k:Nat) (l0_0:List (S97)) (a0_1:Int) (a0_2:Int) (a0_3:Int) (a0_4:Int) (a1:Int):Option ((List (S97)) × Int × Int × Int × Int × Bool):=(spec_PlaceOf.f k l0_0 a0_1 a0_2 a0_3 a0_4 a1).bind fun t180=>(if t180 < 0 then ((spec_l02Copy.f k l0_0 a0_1 a0_2 a0_3 a0_4).bind fun bt181=>(some (bt181.1,bt181.2.1,bt181.2.2.1,bt181.2.2.2.1,bt181.2.2.2.2,false))) else ((spec_RemoveAt.f k l0_0 a0_1 a0_2 a0_3 a0_4 t180).bind fun bt188=>((spec_PushBack.f k bt188.1 bt188.2.1 bt188.2.2.1 bt188.2.2.2.1 bt188.2.2.2.2.1 a1).bind fun bt197=>(some (bt197.1,bt197.2.1,bt197.2.2.1,bt197.2.2.2.1,bt197.2.2.2.2.1,true)))))
theorem spec_MoveBack.mono:∀ a0 a1 a2 a3 a4 a5 k,LeO (spec_MoveBack.f k a0 a1 a2 a3 a4 a5) (spec_MoveBack.f (k + 1) a0 a1 a2 a3 a4 a5):=by
 intro a0 a1 a2 a3 a4 a5 k
 unfold spec_MoveBack.f
 repeat' first
   | (with_reducible exact spec_PlaceOf.mono _ _ _ _ _ _ _)
   | (with_reducible exact spec_PushBack.mono _ _ _ _ _ _ _)
   | (with_reducible exact spec_RemoveAt.mono _ _ _ _ _ _ _)
   | (with_reducible exact spec_l02Copy.mono _ _ _ _ _ _)
   | (with_reducible exact LeO.refl _)
   | (with_reducible exact LeO.none _)
   | (with_reducible refine LeO.ite ?_ ?_)
   | (with_reducible refine LeO.bind ?_ (fun _=>?_))
   | exact spec_PlaceOf.mono _ _ _ _ _ _ _
   | exact spec_PushBack.mono _ _ _ _ _ _ _
   | exact spec_RemoveAt.mono _ _ _ _ _ _ _
   | exact spec_l02Copy.mono _ _ _ _ _ _
   | exact LeO.none _
   | refine LeO.ite ?_ ?_
   | refine LeO.bind ?_ (fun _=>?_)
set_option maxHeartbeats 8000000 in
set_option maxRecDepth 100000 in
theorem spec_MoveBack.calls (k:Nat) (A0_0:Option Addr) (c0_0:Nat) (l0_0:List (S97)) (a0_1:Int) (a0_2:Int) (a0_3:Int) (a0_4:Int) (a1:Int) (r1:List (S97)) (r2:Int) (r3:Int) (r4:Int) (r5:Int) (r6:Bool) (w:World) (hr0_0:Kd.C k97 w A0_0 l0_0.length l0_0) (hc0_0:l0_0.length≤c0_0) (h:spec_MoveBack.f k l0_0 a0_1 a0_2 a0_3 a0_4 a1=some (r1,r2,r3,r4,r5,r6)) :
  Calls Try.prog 13 #[.agg #[.slice A0_0 l0_0.length c0_0,.int .i64 a0_1,.int .i64 a0_2,.int .i64 a0_3,.int .i64 a0_4],.int .i64 a1] w fun e w'=>∃ v0_:Value,e = .returned (.tuple #[.agg #[v0_,.int .i64 r2,.int .i64 r3,.int .i64 r4,.int .i64 r5],.bool r6])∧Kd.R k97 97 w' w.heap.size (fun _=>True) v0_ r1∧Below w.heap.size w w':=by
 have hu28:=Try.underlying28
 have HR0_0:=Aside0.mk hr0_0
 have HC0_0:=Aside0.mk hc0_0
 clear hr0_0 hc0_0
 have HB:=Aside0.mk (Below.refl w.heap.size w)
 have H:((spec_PlaceOf.f k l0_0 a0_1 a0_2 a0_3 a0_4 a1).bind fun t180=>(if t180 < 0 then ((spec_l02Copy.f k l0_0 a0_1 a0_2 a0_3 a0_4).bind fun bt181=>(some (bt181.1,bt181.2.1,bt181.2.2.1,bt181.2.2.2.1,bt181.2.2.2.2,false))) else ((spec_RemoveAt.f k l0_0 a0_1 a0_2 a0_3 a0_4 t180).bind fun bt188=>((spec_PushBack.f k bt188.1 bt188.2.1 bt188.2.2.1 bt188.2.2.2.1 bt188.2.2.2.2.1 a1).bind fun bt197=>(some (bt197.1,bt197.2.1,bt197.2.2.1,bt197.2.2.2.1,bt197.2.2.2.2.1,true))))))=some (r1,r2,r3,r4,r5,r6):=h
 clear h
 replace H:=Option.bind_eq_some_iff.mp H
 obtain ⟨t180,A30,H⟩:=H
 have A3:=Aside0.mk A30
 clear A30
 by_cases c4:t180 < 0
 ·rw [if_pos c4] at H
  have c4b0:decide (t180 < 0)=true:=decide_eq_true c4
  clear c4
  replace H:=Option.bind_eq_some_iff.mp H
  obtain ⟨⟨t181,t184,t185,t186,t187⟩,A50,H⟩:=H
  replace H:(some (t181,t184,t185,t186,t187,false))=some (r1,r2,r3,r4,r5,r6):=H
  have A5:=Aside0.mk A50
  clear A50
  simp only [Option.some.injEq,Prod.mk.injEq] at H
  obtain ⟨rfl,rfl,rfl,rfl,rfl,rfl⟩:=H
  go_enter Try.func13,Try.ntmps13
  go_wp2_with (first|((with_reducible refine gate_dst (N:=2) rfl ?_);refine bx 2 #[.slice A0_0 l0_0.length c0_0,.int .i64 a0_1,.int .i64 a0_2,.int .i64 a0_3,.int .i64 a0_4] 28 ?_;intro gb178 hg w6 hbox hb;have BK178:=Aside0.mk (hbox);have GW178:=Aside0.mk (bz hg:w.heap.size≤gb178);have GE178:=GW178;replace HB:=Aside0.mk (below_step bl hb);clear hb hbox hg)|((with_reducible refine gate_dst (N:=4) rfl ?_);refine bx 4 #[.slice none 0 0,.int .i64 0,.int .i64 0,.int .i64 0,.int .i64 0] 28 ?_;intro gb179 hg w7 hbox hb;have BK179:=Aside0.mk (hbox);have GW179:=Aside0.mk (bz hg:w.heap.size≤gb179);have GE179:=GW179;replace HB:=Aside0.mk (below_step bl hb);have NB178_179:=Aside0.mk (nl hg BK178:gb178≠gb179);have NB179_178:=Aside0.mk (nr hg BK178:gb179≠gb178);replace BK178:=Aside0.mk (blk_below (bk BK178) hb);clear hb hbox hg;have hnb8:=NB178_179.out;have hnc8:=NB179_178.out;obtain ⟨hcz9_0,hcz9_1,hcz9_2,hcz9_3,hcz9_4,hfz9_0,hfz9_1,hfz9_2,hfz9_3,hfz9_4⟩:=ck5 BK178.out)|((with_reducible refine gate_callee (f:=47) rfl ?_);refine gl Try.func47 #[.agg #[.slice A0_0 l0_0.length c0_0,.int .i64 a0_1,.int .i64 a0_2,.int .i64 a0_3,.int .i64 a0_4],.int .i64 a1] ?_;(with_reducible refine (spec_PlaceOf.calls k _ _ l0_0 a0_1 a0_2 a0_3 a0_4 a1 t180 _ ?side1 ?side2 A3.out).mono ?_);(case side1=>exact kc HR0_0);(case side2=>exact HC0_0.out);rintro e w10 ⟨rfl,hb⟩;refine ⟨_,rfl,?_⟩;replace BK178:=Aside0.mk (blk_below (bk BK178) hb);replace BK179:=Aside0.mk (blk_below (bk BK179) hb);replace HB:=Aside0.mk (below_step bl hb);(try clear hb);(try clear hb2);(try clear hk);(try clear hi);obtain ⟨hcz11_0,hcz11_1,hcz11_2,hcz11_3,hcz11_4,hfz11_0,hfz11_1,hfz11_2,hfz11_3,hfz11_4⟩:=ck5 BK178.out)|((with_reducible refine gate_callee (f:=48) rfl ?_);refine gl Try.func48 #[.agg #[.slice A0_0 l0_0.length c0_0,.int .i64 a0_1,.int .i64 a0_2,.int .i64 a0_3,.int .i64 a0_4]] ?_;(with_reducible refine (spec_l02Copy.calls k _ _ l0_0 a0_1 a0_2 a0_3 a0_4 t181 t184 t185 t186 t187 _ ?side1 ?side2 A5.out).mono ?_);(case side1=>exact kc HR0_0);(case side2=>exact HC0_0.out);rintro e w12 ⟨v182,rfl,ho0,hb⟩;refine ⟨_,rfl,?_⟩;have HO183:=Aside0.mk (Kd.R_lower ho0 (below_size bl));replace BK178:=Aside0.mk (blk_below (bk BK178) hb);replace BK179:=Aside0.mk (blk_below (bk BK179) hb);replace HB:=Aside0.mk (below_step bl hb);(try clear hb);(try clear hb2);(try clear hk);(try clear hi);(try clear ho0);obtain ⟨Ao13,co13,eo13⟩:=Kd.R_slice HO183.out;subst eo13;obtain ⟨hcz14_0,hcz14_1,hcz14_2,hcz14_3,hcz14_4,hfz14_0,hfz14_1,hfz14_2,hfz14_3,hfz14_4⟩:=ck5 BK179.out))
  refine bodyPost_ret (results_ct rfl _ _ gb179 28 #[.slice Ao13 t181.length co13,.int .i64 t184,.int .i64 t185,.int .i64 t186,.int .i64 t187] (0,0) _ rfl (by (with_reducible repeat (first|refine blk_drewN ?_ _|refine blk_drew ?_|refine blk_alloc ?_ _));refine blk_put (cs:=#[.slice Ao13 t181.length co13,.int .i64 t184,.int .i64 t185,.int .i64 t186,.int .i64 0]) ?_ 4 _ rfl;(with_reducible repeat (first|refine blk_drewN ?_ _|refine blk_drew ?_|refine blk_alloc ?_ _));refine blk_put (cs:=#[.slice Ao13 t181.length co13,.int .i64 t184,.int .i64 t185,.int .i64 0,.int .i64 0]) ?_ 3 _ rfl;(with_reducible repeat (first|refine blk_drewN ?_ _|refine blk_drew ?_|refine blk_alloc ?_ _));refine blk_put (cs:=#[.slice Ao13 t181.length co13,.int .i64 t184,.int .i64 0,.int .i64 0,.int .i64 0]) ?_ 2 _ rfl;(with_reducible repeat (first|refine blk_drewN ?_ _|refine blk_drew ?_|refine blk_alloc ?_ _));refine blk_put (cs:=#[.slice Ao13 t181.length co13,.int .i64 0,.int .i64 0,.int .i64 0,.int .i64 0]) ?_ 1 _ rfl;(with_reducible repeat (first|refine blk_drewN ?_ _|refine blk_drew ?_|refine blk_alloc ?_ _));refine blk_put (cs:=#[.slice none 0 0,.int .i64 0,.int .i64 0,.int .i64 0,.int .i64 0]) ?_ 0 _ rfl;(with_reducible repeat (first|refine blk_drewN ?_ _|refine blk_drew ?_|refine blk_alloc ?_ _));exact BK179.out) Try.underlying28 rfl (by kernel_rfl)) rfl ?_
  exact ⟨_,by first|rfl|(simp [errW_none,errW_some] <;> rfl)|(simp [*,errW_none,errW_some] <;> rfl),by (with_reducible repeat (first|apply Kd.R_alloc|apply Kd.R_drewN|apply Kd.R_drew));exact Kd.R_mono (Kd.R_far (p:=⟨gb179,4,none⟩) (Kd.R_far (p:=⟨gb179,3,none⟩) (Kd.R_far (p:=⟨gb179,2,none⟩) (Kd.R_far (p:=⟨gb179,1,none⟩) (Kd.R_far (p:=⟨gb179,0,none⟩) (Kd.R_types HO183.out BK179.out (by decide)) (fun _ hk=>hk.2) (.slice Ao13 t181.length co13)) (fun _ hk=>hk.2) (.int .i64 t184)) (fun _ hk=>hk.2) (.int .i64 t185)) (fun _ hk=>hk.2) (.int .i64 t186)) (fun _ hk=>hk.2) (.int .i64 t187)) (fun _ hk=>trivial),bl⟩
 ·rw [if_neg c4] at H
  have c4b0:decide (t180 < 0)=false:=decide_eq_false c4
  clear c4
  replace H:=Option.bind_eq_some_iff.mp H
  obtain ⟨⟨t188,t191,t192,t193,t194,t195⟩,A150,H⟩:=H
  replace H:((spec_PushBack.f k t188 t191 t192 t193 t194 a1).bind fun bt197=>(some (bt197.1,bt197.2.1,bt197.2.2.1,bt197.2.2.2.1,bt197.2.2.2.2.1,true)))=some (r1,r2,r3,r4,r5,r6):=H
  have A15:=Aside0.mk A150
  clear A150
  replace H:=Option.bind_eq_some_iff.mp H
  obtain ⟨⟨t197,t200,t201,t202,t203,t204⟩,A160,H⟩:=H
  replace H:(some (t197,t200,t201,t202,t203,true))=some (r1,r2,r3,r4,r5,r6):=H
  have A16:=Aside0.mk A160
  clear A160
  simp only [Option.some.injEq,Prod.mk.injEq] at H
  obtain ⟨rfl,rfl,rfl,rfl,rfl,rfl⟩:=H
  go_enter Try.func13,Try.ntmps13
  go_wp2_with (first|((with_reducible refine gate_dst (N:=2) rfl ?_);refine bx 2 #[.slice A0_0 l0_0.length c0_0,.int .i64 a0_1,.int .i64 a0_2,.int .i64 a0_3,.int .i64 a0_4] 28 ?_;intro gb178 hg w17 hbox hb;have BK178:=Aside0.mk (hbox);have GW178:=Aside0.mk (bz hg:w.heap.size≤gb178);have GE178:=GW178;replace HB:=Aside0.mk (below_step bl hb);clear hb hbox hg)|((with_reducible refine gate_dst (N:=4) rfl ?_);refine bx 4 #[.slice none 0 0,.int .i64 0,.int .i64 0,.int .i64 0,.int .i64 0] 28 ?_;intro gb179 hg w18 hbox hb;have BK179:=Aside0.mk (hbox);have GW179:=Aside0.mk (bz hg:w.heap.size≤gb179);have GE179:=GW179;replace HB:=Aside0.mk (below_step bl hb);have NB178_179:=Aside0.mk (nl hg BK178:gb178≠gb179);have NB179_178:=Aside0.mk (nr hg BK178:gb179≠gb178);replace BK178:=Aside0.mk (blk_below (bk BK178) hb);clear hb hbox hg;have hnb19:=NB178_179.out;have hnc19:=NB179_178.out;obtain ⟨hcz20_0,hcz20_1,hcz20_2,hcz20_3,hcz20_4,hfz20_0,hfz20_1,hfz20_2,hfz20_3,hfz20_4⟩:=ck5 BK178.out)|((with_reducible refine gate_callee (f:=47) rfl ?_);refine gl Try.func47 #[.agg #[.slice A0_0 l0_0.length c0_0,.int .i64 a0_1,.int .i64 a0_2,.int .i64 a0_3,.int .i64 a0_4],.int .i64 a1] ?_;(with_reducible refine (spec_PlaceOf.calls k _ _ l0_0 a0_1 a0_2 a0_3 a0_4 a1 t180 _ ?side1 ?side2 A3.out).mono ?_);(case side1=>exact kc HR0_0);(case side2=>exact HC0_0.out);rintro e w21 ⟨rfl,hb⟩;refine ⟨_,rfl,?_⟩;replace BK178:=Aside0.mk (blk_below (bk BK178) hb);replace BK179:=Aside0.mk (blk_below (bk BK179) hb);replace HB:=Aside0.mk (below_step bl hb);(try clear hb);(try clear hb2);(try clear hk);(try clear hi);obtain ⟨hcz22_0,hcz22_1,hcz22_2,hcz22_3,hcz22_4,hfz22_0,hfz22_1,hfz22_2,hfz22_3,hfz22_4⟩:=ck5 BK178.out)|((with_reducible refine gate_callee (f:=49) rfl ?_);refine gl Try.func49 #[.agg #[.slice A0_0 l0_0.length c0_0,.int .i64 a0_1,.int .i64 a0_2,.int .i64 a0_3,.int .i64 a0_4],.int .i64 t180] ?_;(with_reducible refine (spec_RemoveAt.calls k _ _ l0_0 a0_1 a0_2 a0_3 a0_4 t180 t188 t191 t192 t193 t194 t195 _ ?side1 ?side2 A15.out).mono ?_);(case side1=>exact kc HR0_0);(case side2=>exact HC0_0.out);rintro e w23 ⟨v189,rfl,ho0,hb⟩;refine ⟨_,rfl,?_⟩;have HO190:=Aside0.mk (Kd.R_lower ho0 (below_size bl));replace BK178:=Aside0.mk (blk_below (bk BK178) hb);replace BK179:=Aside0.mk (blk_below (bk BK179) hb);replace HB:=Aside0.mk (below_step bl hb);(try clear hb);(try clear hb2);(try clear hk);(try clear hi);(try clear ho0))|((with_reducible refine gate_dst (N:=7) rfl ?_);refine bx 7 #[.slice none 0 0,.int .i64 0,.int .i64 0,.int .i64 0,.int .i64 0] 28 ?_;intro gb196 hg w24 hbox hb;replace HO190:=Aside0.mk (Kd.R_below (kr HO190) hb);have BK196:=Aside0.mk (hbox);have GW196:=Aside0.mk (bz hg:w.heap.size≤gb196);have GE196:=GW196;replace HB:=Aside0.mk (below_step bl hb);have NB178_196:=Aside0.mk (nl hg BK178:gb178≠gb196);have NB196_178:=Aside0.mk (nr hg BK178:gb196≠gb178);replace BK178:=Aside0.mk (blk_below (bk BK178) hb);have NB179_196:=Aside0.mk (nl hg BK179:gb179≠gb196);have NB196_179:=Aside0.mk (nr hg BK179:gb196≠gb179);replace BK179:=Aside0.mk (blk_below (bk BK179) hb);clear hb hbox hg;obtain ⟨Ao25,co25,eo25⟩:=Kd.R_slice HO190.out;subst eo25;have hnb26:=NB196_178.out;have hnc26:=NB178_196.out;have hnb27:=NB196_179.out;have hnc27:=NB179_196.out;obtain ⟨hcz28_0,hcz28_1,hcz28_2,hcz28_3,hcz28_4,hfz28_0,hfz28_1,hfz28_2,hfz28_3,hfz28_4⟩:=ck5 BK196.out)|((with_reducible refine gate_callee (f:=50) rfl ?_);refine gl Try.func50 #[.agg #[.slice Ao25 t188.length co25,.int .i64 t191,.int .i64 t192,.int .i64 t193,.int .i64 t194],.int .i64 a1] ?_;(with_reducible refine (spec_PushBack.calls k _ _ t188 t191 t192 t193 t194 a1 t197 t200 t201 t202 t203 t204 _ ?side1 ?side2 A16.out).mono ?_);(case side1=>refine (Kd.R_reads' (e:=97) (base:=w.heap.size) (ok:=fun k_=>True) (n:=t188.length) (c:=co25) ?_).2.2;exact (by (with_reducible repeat (first|apply Kd.R_alloc|apply Kd.R_drewN|apply Kd.R_drew));exact (Kd.R_mono (Kd.R_far (p:=⟨gb196,4,none⟩) (Kd.R_far (p:=⟨gb196,3,none⟩) (Kd.R_far (p:=⟨gb196,2,none⟩) (Kd.R_far (p:=⟨gb196,1,none⟩) (Kd.R_far (p:=⟨gb196,0,none⟩) (Kd.R_types HO190.out BK196.out (by decide)) (fun _ hk=>hk.2) (.slice Ao25 t188.length co25)) (fun _ hk=>hk.2) (.int .i64 t191)) (fun _ hk=>hk.2) (.int .i64 t192)) (fun _ hk=>hk.2) (.int .i64 t193)) (fun _ hk=>hk.2) (.int .i64 t194)) (fun _ h_=>h_.1))));(case side2=>exact (Kd.R_reads' HO190.out).2.1);rintro e w29 ⟨v198,rfl,ho0,hb⟩;refine ⟨_,rfl,?_⟩;have HO199:=Aside0.mk (Kd.R_lower (Kd.R_new' ho0 (Kd.R_lt (by (with_reducible repeat (first|apply Kd.R_alloc|apply Kd.R_drewN|apply Kd.R_drew));exact (Kd.R_mono (Kd.R_far (p:=⟨gb196,4,none⟩) (Kd.R_far (p:=⟨gb196,3,none⟩) (Kd.R_far (p:=⟨gb196,2,none⟩) (Kd.R_far (p:=⟨gb196,1,none⟩) (Kd.R_far (p:=⟨gb196,0,none⟩) (Kd.R_types HO190.out BK196.out (by decide)) (fun _ hk=>hk.2) (.slice Ao25 t188.length co25)) (fun _ hk=>hk.2) (.int .i64 t191)) (fun _ hk=>hk.2) (.int .i64 t192)) (fun _ hk=>hk.2) (.int .i64 t193)) (fun _ hk=>hk.2) (.int .i64 t194)) (fun _ h_=>h_.1))))) (below_size bl));replace HO190:=Aside0.mk (Kd.R_elder' (by (with_reducible repeat (first|apply Kd.R_alloc|apply Kd.R_drewN|apply Kd.R_drew));exact (Kd.R_mono (Kd.R_far (p:=⟨gb196,4,none⟩) (Kd.R_far (p:=⟨gb196,3,none⟩) (Kd.R_far (p:=⟨gb196,2,none⟩) (Kd.R_far (p:=⟨gb196,1,none⟩) (Kd.R_far (p:=⟨gb196,0,none⟩) (Kd.R_types HO190.out BK196.out (by decide)) (fun _ hk=>hk.2) (.slice Ao25 t188.length co25)) (fun _ hk=>hk.2) (.int .i64 t191)) (fun _ hk=>hk.2) (.int .i64 t192)) (fun _ hk=>hk.2) (.int .i64 t193)) (fun _ hk=>hk.2) (.int .i64 t194)) (fun _ h_=>h_.1))) (Kd.R_base ho0) hb);replace BK178:=Aside0.mk (blk_below (g:=gb178) (o:=.cells #[.slice A0_0 l0_0.length c0_0,.int .i64 a0_1,.int .i64 a0_2,.int .i64 a0_3,.int .i64 a0_4] 28 (0,0)) (bf BK178) hb);replace BK179:=Aside0.mk (blk_below (g:=gb179) (o:=.cells #[.slice none 0 0,.int .i64 0,.int .i64 0,.int .i64 0,.int .i64 0] 28 (0,0)) (bf BK179) hb);replace BK196:=Aside0.mk (blk_below (g:=gb196) (o:=.cells #[.slice Ao25 t188.length co25,.int .i64 t191,.int .i64 t192,.int .i64 t193,.int .i64 t194] 28 (0,0)) (by (with_reducible repeat (first|refine blk_drewN ?_ _|refine blk_drew ?_|refine blk_alloc ?_ _));refine blk_put (cs:=#[.slice Ao25 t188.length co25,.int .i64 t191,.int .i64 t192,.int .i64 t193,.int .i64 0]) ?_ 4 _ rfl;(with_reducible repeat (first|refine blk_drewN ?_ _|refine blk_drew ?_|refine blk_alloc ?_ _));refine blk_put (cs:=#[.slice Ao25 t188.length co25,.int .i64 t191,.int .i64 t192,.int .i64 0,.int .i64 0]) ?_ 3 _ rfl;(with_reducible repeat (first|refine blk_drewN ?_ _|refine blk_drew ?_|refine blk_alloc ?_ _));refine blk_put (cs:=#[.slice Ao25 t188.length co25,.int .i64 t191,.int .i64 0,.int .i64 0,.int .i64 0]) ?_ 2 _ rfl;(with_reducible repeat (first|refine blk_drewN ?_ _|refine blk_drew ?_|refine blk_alloc ?_ _));refine blk_put (cs:=#[.slice Ao25 t188.length co25,.int .i64 0,.int .i64 0,.int .i64 0,.int .i64 0]) ?_ 1 _ rfl;(with_reducible repeat (first|refine blk_drewN ?_ _|refine blk_drew ?_|refine blk_alloc ?_ _));refine blk_put (cs:=#[.slice none 0 0,.int .i64 0,.int .i64 0,.int .i64 0,.int .i64 0]) ?_ 0 _ rfl;(with_reducible repeat (first|refine blk_drewN ?_ _|refine blk_drew ?_|refine blk_alloc ?_ _));exact BK196.out) hb);replace HB:=Aside0.mk (below_step bl hb);(try clear hb);(try clear hb2);(try clear hk);(try clear hi);(try clear ho0))|((with_reducible refine gate_dst (N:=9) rfl ?_);refine bx 9 #[.slice none 0 0,.int .i64 0,.int .i64 0,.int .i64 0,.int .i64 0] 28 ?_;intro gb205 hg w30 hbox hb;replace HO190:=Aside0.mk (Kd.R_below (kr HO190) hb);replace HO199:=Aside0.mk (Kd.R_below (kr HO199) hb);have BK205:=Aside0.mk (hbox);have GW205:=Aside0.mk (bz hg:w.heap.size≤gb205);have GE205:=GW205;replace HB:=Aside0.mk (below_step bl hb);have NB178_205:=Aside0.mk (nl hg BK178:gb178≠gb205);have NB205_178:=Aside0.mk (nr hg BK178:gb205≠gb178);replace BK178:=Aside0.mk (blk_below (bk BK178) hb);have NB179_205:=Aside0.mk (nl hg BK179:gb179≠gb205);have NB205_179:=Aside0.mk (nr hg BK179:gb205≠gb179);replace BK179:=Aside0.mk (blk_below (bk BK179) hb);have NB196_205:=Aside0.mk (nl hg BK196:gb196≠gb205);have NB205_196:=Aside0.mk (nr hg BK196:gb205≠gb196);replace BK196:=Aside0.mk (blk_below (bk BK196) hb);clear hb hbox hg;obtain ⟨Ao31,co31,eo31⟩:=Kd.R_slice HO199.out;subst eo31;have hnb32:=NB205_178.out;have hnc32:=NB178_205.out;have hnb33:=NB205_179.out;have hnc33:=NB179_205.out;have hnb34:=NB205_196.out;have hnc34:=NB196_205.out;obtain ⟨hcz35_0,hcz35_1,hcz35_2,hcz35_3,hcz35_4,hfz35_0,hfz35_1,hfz35_2,hfz35_3,hfz35_4⟩:=ck5 BK205.out;obtain ⟨hcz36_0,hcz36_1,hcz36_2,hcz36_3,hcz36_4,hfz36_0,hfz36_1,hfz36_2,hfz36_3,hfz36_4⟩:=ck5 BK179.out))
  refine bodyPost_ret (results_ct rfl _ _ gb179 28 #[.slice Ao31 t197.length co31,.int .i64 t200,.int .i64 t201,.int .i64 t202,.int .i64 t203] (0,0) _ rfl (by (with_reducible repeat (first|refine blk_drewN ?_ _|refine blk_drew ?_|refine blk_alloc ?_ _));refine blk_put (cs:=#[.slice Ao31 t197.length co31,.int .i64 t200,.int .i64 t201,.int .i64 t202,.int .i64 0]) ?_ 4 _ rfl;(with_reducible repeat (first|refine blk_drewN ?_ _|refine blk_drew ?_|refine blk_alloc ?_ _));refine blk_put (cs:=#[.slice Ao31 t197.length co31,.int .i64 t200,.int .i64 t201,.int .i64 0,.int .i64 0]) ?_ 3 _ rfl;(with_reducible repeat (first|refine blk_drewN ?_ _|refine blk_drew ?_|refine blk_alloc ?_ _));refine blk_put (cs:=#[.slice Ao31 t197.length co31,.int .i64 t200,.int .i64 0,.int .i64 0,.int .i64 0]) ?_ 2 _ rfl;(with_reducible repeat (first|refine blk_drewN ?_ _|refine blk_drew ?_|refine blk_alloc ?_ _));refine blk_put (cs:=#[.slice Ao31 t197.length co31,.int .i64 0,.int .i64 0,.int .i64 0,.int .i64 0]) ?_ 1 _ rfl;(with_reducible repeat (first|refine blk_drewN ?_ _|refine blk_drew ?_|refine blk_alloc ?_ _));refine blk_put (cs:=#[.slice none 0 0,.int .i64 0,.int .i64 0,.int .i64 0,.int .i64 0]) ?_ 0 _ rfl;(with_reducible repeat (first|refine blk_drewN ?_ _|refine blk_drew ?_|refine blk_alloc ?_ _));refine blk_far ?_ NB179_205.out _;(with_reducible repeat (first|refine blk_drewN ?_ _|refine blk_drew ?_|refine blk_alloc ?_ _));refine blk_far ?_ NB179_205.out _;(with_reducible repeat (first|refine blk_drewN ?_ _|refine blk_drew ?_|refine blk_alloc ?_ _));refine blk_far ?_ NB179_205.out _;(with_reducible repeat (first|refine blk_drewN ?_ _|refine blk_drew ?_|refine blk_alloc ?_ _));refine blk_far ?_ NB179_205.out _;(with_reducible repeat (first|refine blk_drewN ?_ _|refine blk_drew ?_|refine blk_alloc ?_ _));refine blk_far ?_ NB179_205.out _;(with_reducible repeat (first|refine blk_drewN ?_ _|refine blk_drew ?_|refine blk_alloc ?_ _));exact BK179.out) Try.underlying28 rfl (by kernel_rfl)) rfl ?_
  exact ⟨_,by first|rfl|(simp [errW_none,errW_some] <;> rfl)|(simp [*,errW_none,errW_some] <;> rfl),by (with_reducible repeat (first|apply Kd.R_alloc|apply Kd.R_drewN|apply Kd.R_drew));exact Kd.R_mono (Kd.R_far (p:=⟨gb179,4,none⟩) (Kd.R_far (p:=⟨gb179,3,none⟩) (Kd.R_far (p:=⟨gb179,2,none⟩) (Kd.R_far (p:=⟨gb179,1,none⟩) (Kd.R_far (p:=⟨gb179,0,none⟩) (Kd.R_far (p:=⟨gb205,4,none⟩) (Kd.R_far (p:=⟨gb205,3,none⟩) (Kd.R_far (p:=⟨gb205,2,none⟩) (Kd.R_far (p:=⟨gb205,1,none⟩) (Kd.R_far (p:=⟨gb205,0,none⟩) (Kd.R_types (Kd.R_types HO199.out BK205.out (by decide)) BK179.out (by decide)) (fun _ hk=>hk.1.2) (.slice Ao31 t197.length co31)) (fun _ hk=>hk.1.2) (.int .i64 t200)) (fun _ hk=>hk.1.2) (.int .i64 t201)) (fun _ hk=>hk.1.2) (.int .i64 t202)) (fun _ hk=>hk.1.2) (.int .i64 t203)) (fun _ hk=>hk.2) (.slice Ao31 t197.length co31)) (fun _ hk=>hk.2) (.int .i64 t200)) (fun _ hk=>hk.2) (.int .i64 t201)) (fun _ hk=>hk.2) (.int .i64 t202)) (fun _ hk=>hk.2) (.int .i64 t203)) (fun _ hk=>trivial),bl⟩

/-! ### laws_toSlot: function 84 -/
def laws_toSlot.f (a0_0:Int) (a0_1:Int) (a0_2:Int) (a0_3:Bool):Option (Int × Int × Int × Bool):=some (a0_0,a0_1,a0_2,a0_3)
set_option maxHeartbeats 8000000 in
set_option maxRecDepth 100000 in
theorem laws_toSlot.calls (a0_0:Int) (a0_1:Int) (a0_2:Int) (a0_3:Bool) (r1:Int) (r2:Int) (r3:Int) (r4:Bool) (w:World) (h:laws_toSlot.f a0_0 a0_1 a0_2 a0_3=some (r1,r2,r3,r4)) :
  Calls Try.prog 84 #[.agg #[.int .i64 a0_0,.int .i64 a0_1,.int .i64 a0_2,.bool a0_3]] w fun e w'=>e = .returned (.agg #[.int .i64 r1,.int .i64 r2,.int .i64 r3,.bool r4])∧Below w.heap.size w w':=by
 have hu100:=Try.underlying100
 have hu97:=Try.underlying97
 have HB:=Aside0.mk (Below.refl w.heap.size w)
 have H:(some (a0_0,a0_1,a0_2,a0_3))=some (r1,r2,r3,r4):=h
 clear h
 simp only [Option.some.injEq,Prod.mk.injEq] at H
 obtain ⟨rfl,rfl,rfl,rfl⟩:=H
 go_enter Try.func84,Try.ntmps84
 go_wp2_with (first|((with_reducible refine gate_dst (N:=1) rfl ?_);refine bx 1 #[.int .i64 a0_0,.int .i64 a0_1,.int .i64 a0_2,.bool a0_3] 100 ?_;intro gb206 hg w2 hbox hb;have BK206:=Aside0.mk (hbox);have GW206:=Aside0.mk (bz hg:w.heap.size≤gb206);have GE206:=GW206;replace HB:=Aside0.mk (below_step bl hb);clear hb hbox hg)|((with_reducible refine gate_dst (N:=2) rfl ?_);refine bx 2 #[.int .i64 0,.int .i64 0,.int .i64 0,.bool false] 97 ?_;intro gb207 hg w3 hbox hb;have BK207:=Aside0.mk (hbox);have GW207:=Aside0.mk (bz hg:w.heap.size≤gb207);have GE207:=GW207;replace HB:=Aside0.mk (below_step bl hb);have NB206_207:=Aside0.mk (nl hg BK206:gb206≠gb207);have NB207_206:=Aside0.mk (nr hg BK206:gb207≠gb206);replace BK206:=Aside0.mk (blk_below (bk BK206) hb);clear hb hbox hg)|((with_reducible refine gate_dst (N:=3) rfl ?_);refine bx 3 #[.int .i64 0,.int .i64 0,.int .i64 0,.bool false] 97 ?_;intro gb208 hg w4 hbox hb;have BK208:=Aside0.mk (hbox);have GW208:=Aside0.mk (bz hg:w.heap.size≤gb208);have GE208:=GW208;replace HB:=Aside0.mk (below_step bl hb);have NB206_208:=Aside0.mk (nl hg BK206:gb206≠gb208);have NB208_206:=Aside0.mk (nr hg BK206:gb208≠gb206);replace BK206:=Aside0.mk (blk_below (bk BK206) hb);have NB207_208:=Aside0.mk (nl hg BK207:gb207≠gb208);have NB208_207:=Aside0.mk (nr hg BK207:gb208≠gb207);replace BK207:=Aside0.mk (blk_below (bk BK207) hb);clear hb hbox hg;have hnb5:=NB206_207.out;have hnc5:=NB207_206.out;have hnb6:=NB206_208.out;have hnc6:=NB208_206.out;obtain ⟨hcz7_0,hcz7_1,hcz7_2,hcz7_3,hfz7_0,hfz7_1,hfz7_2,hfz7_3⟩:=ck4 BK206.out;have hnb8:=NB208_207.out;have hnc8:=NB207_208.out;obtain ⟨hcz9_0,hcz9_1,hcz9_2,hcz9_3,hfz9_0,hfz9_1,hfz9_2,hfz9_3⟩:=ck4 BK208.out;obtain ⟨hcz10_0,hcz10_1,hcz10_2,hcz10_3,hfz10_0,hfz10_1,hfz10_2,hfz10_3⟩:=ck4 BK207.out))
 refine bodyPost_ret (results_cell_row rfl _ _ gb207 97 #[.int .i64 a0_0,.int .i64 a0_1,.int .i64 a0_2,.bool a0_3] (0,0) _ rfl (by (with_reducible repeat (first|refine blk_drewN ?_ _|refine blk_drew ?_|refine blk_alloc ?_ _));refine blk_put (cs:=#[.int .i64 a0_0,.int .i64 a0_1,.int .i64 a0_2,.bool false]) ?_ 3 _ rfl;(with_reducible repeat (first|refine blk_drewN ?_ _|refine blk_drew ?_|refine blk_alloc ?_ _));refine blk_put (cs:=#[.int .i64 a0_0,.int .i64 a0_1,.int .i64 0,.bool false]) ?_ 2 _ rfl;(with_reducible repeat (first|refine blk_drewN ?_ _|refine blk_drew ?_|refine blk_alloc ?_ _));refine blk_put (cs:=#[.int .i64 a0_0,.int .i64 0,.int .i64 0,.bool false]) ?_ 1 _ rfl;(with_reducible repeat (first|refine blk_drewN ?_ _|refine blk_drew ?_|refine blk_alloc ?_ _));refine blk_put (cs:=#[.int .i64 0,.int .i64 0,.int .i64 0,.bool false]) ?_ 0 _ rfl;(with_reducible repeat (first|refine blk_drewN ?_ _|refine blk_drew ?_|refine blk_alloc ?_ _));refine blk_far ?_ NB207_208.out _;(with_reducible repeat (first|refine blk_drewN ?_ _|refine blk_drew ?_|refine blk_alloc ?_ _));refine blk_far ?_ NB207_208.out _;(with_reducible repeat (first|refine blk_drewN ?_ _|refine blk_drew ?_|refine blk_alloc ?_ _));refine blk_far ?_ NB207_208.out _;(with_reducible repeat (first|refine blk_drewN ?_ _|refine blk_drew ?_|refine blk_alloc ?_ _));refine blk_far ?_ NB207_208.out _;(with_reducible repeat (first|refine blk_drewN ?_ _|refine blk_drew ?_|refine blk_alloc ?_ _));exact BK207.out) Try.underlying97 rfl (by kernel_rfl)) rfl ?_
 exact ⟨by first|rfl|(simp [errW_none,errW_some] <;> rfl)|(simp [*,errW_none,errW_some] <;> rfl),bl⟩

/-! ### laws_toSlotS: function 51 -/
def laws_toSlotS.l0:Nat→List (S100)→List (S97)→Int→Option ((List (S97)))
 | 0,_,_,_=>none
 | k + 1,x0,x3,x4=>if x4 < (x0.length:Int) then (if 0≤x4 then ((laws_toSlot.f ((rd_T100 x0 x4).f0) ((rd_T100 x0 x4).f1) ((rd_T100 x0 x4).f2) ((rd_T100 x0 x4).f3)).bind fun bt213=>(if x4 < (x3.length:Int) then (laws_toSlotS.l0 k x0 (x3.set (x4:Int).toNat (⟨bt213.1,bt213.2.1,bt213.2.2.1,bt213.2.2.2⟩:S97)) (wrap64 (x4 + 1))) else (none))) else (none)) else (some x3)
def laws_toSlotS.f (k:Nat) (l0:List (S100)):Option ((List (S97))):=if 0≤(l0.length:Int) then (if ((l0.length:Int):Int).toNat≤8796093022208 then (laws_toSlotS.l0 k l0 (List.replicate ((l0.length:Int):Int).toNat z97) 0) else (none)) else (none)
theorem laws_toSlotS.mono_l:∀ k,(∀ y0 y1 y2,LeO (laws_toSlotS.l0 k y0 y1 y2) (laws_toSlotS.l0 (k + 1) y0 y1 y2))
 | 0=>fun _ _ _ r h=>by simp [laws_toSlotS.l0] at h
 | k + 1=>by
  have ih0:=laws_toSlotS.mono_l k
  ·intro y0 y1 y2
   unfold laws_toSlotS.l0
   repeat' first
   | (with_reducible exact ih0 _ _ _)
   | (with_reducible exact LeO.refl _)
   | (with_reducible exact LeO.none _)
   | (with_reducible refine LeO.ite ?_ ?_)
   | (with_reducible refine LeO.bind ?_ (fun _=>?_))
   | exact ih0 _ _ _
   | exact LeO.none _
   | refine LeO.ite ?_ ?_
   | refine LeO.bind ?_ (fun _=>?_)
theorem laws_toSlotS.mono:∀ a0 k,LeO (laws_toSlotS.f k a0) (laws_toSlotS.f (k + 1) a0):=by
 intro a0 k
 have ih0:=laws_toSlotS.mono_l k
 unfold laws_toSlotS.f
 repeat' first
   | (with_reducible exact ih0 _ _ _)
   | (with_reducible exact LeO.refl _)
   | (with_reducible exact LeO.none _)
   | (with_reducible refine LeO.ite ?_ ?_)
   | (with_reducible refine LeO.bind ?_ (fun _=>?_))
   | exact ih0 _ _ _
   | exact LeO.none _
   | refine LeO.ite ?_ ?_
   | refine LeO.bind ?_ (fun _=>?_)
set_option maxHeartbeats 8000000 in
set_option maxRecDepth 100000 in
theorem laws_toSlotS.calls (k:Nat) (A0:Option Addr) (c0:Nat) (l0:List (S100)) (r:List (S97)) (w:World) (hr0:Kd.C k100 w A0 l0.length l0) (hc0:l0.length≤c0) (h:laws_toSlotS.f k l0=some r) :
  Calls Try.prog 51 #[.slice A0 l0.length c0] w fun e w'=>∃ v0_:Value,e = .returned (v0_)∧Kd.R k97 97 w' w.heap.size (fun _=>True) v0_ r∧Below w.heap.size w w':=by
 have hu100:=Try.underlying100
 have hu97:=Try.underlying97
 have HR0:=Aside0.mk hr0
 have HC0:=Aside0.mk hc0
 clear hr0 hc0
 have HB:=Aside0.mk (Below.refl w.heap.size w)
 have H:(if 0≤(l0.length:Int) then (if ((l0.length:Int):Int).toNat≤8796093022208 then (laws_toSlotS.l0 k l0 (List.replicate ((l0.length:Int):Int).toNat z97) 0) else (none)) else (none))=some r:=h
 clear h
 by_cases c2:0≤(l0.length:Int)
 ·rw [if_pos c2] at H
  have c2b0:=eq_true c2
  have c2b1:decide (0≤(l0.length:Int))=true:=decide_eq_true c2
  clear c2
  by_cases c3:((l0.length:Int):Int).toNat≤8796093022208
  ·rw [if_pos c3] at H
   have c3b0:=eq_true c3
   have c3b1:decide (((l0.length:Int):Int).toNat≤8796093022208)=true:=decide_eq_true c3
   clear c3
   obtain ⟨y209,hy209⟩:∃ y_:List (S97),y_=(List.replicate ((l0.length:Int):Int).toNat z97):=⟨_,rfl⟩
   replace H:(laws_toSlotS.l0 k l0 y209 0)=some r:=by first|(rw [hy209];with_reducible exact H)|(have H2_:=(Option.bind_some _ _).symm.trans H;rw [hy209];with_reducible exact H2_)|(have H2_:=(Option.bind_some _ _).symm.trans H;with_reducible exact H2_)|with_reducible exact H|(rw [hy209];exact H)|exact H
   have Ny209:=Aside0.mk hy209
   clear hy209
   have H':=Aside0.mk H
   clear H
   go_enter Try.func51,Try.ntmps51
   go_wp2_with (first|((with_reducible refine gate_dst (N:=7) rfl ?_);refine Kd.R_make k97 _ 97 rfl (N:=7) rfl 26 _ _ rfl (l0.length:Int) rfl rfl Try.underlying26 (.agg #[(.int .i64 0),(.int .i64 0),(.int .i64 0),(.bool false)]) 32 info97 rfl (by decide) (by omega) z97 (ok:=fun _=>True) (okp:=fun _=>True) (k97_mkM _ _ _ z97 ) (fun _ hk=>hk) trivial (of_decide_eq_true (by first|(with_reducible assumption)|assumption)) (Nat.le_trans (Nat.mul_le_mul_right _ (of_decide_eq_true (by first|(with_reducible assumption)|assumption):(l0.length:Int).toNat≤8796093022208)) (by omega)) (Below.refl _ _) (Nat.le_refl _) ?_;intro v210 w4 ho5 hb hg_ hnew_;clear hg_ hnew_;(first|rw [← Ny209.out] at ho5|(simp only [Int.reduceToNat] at ho5;rw [← Ny209.out] at ho5));have HO211:=Aside0.mk (Kd.R_lower ho5 (below_size bl));replace HB:=Aside0.mk (below_step bl hb);clear hb ho5))
   go_loopg [4] k (fun kq v4 w'=>∃ (x3_1:List (S97)) (x4_1:Int),v4 = .int .i64 x4_1∧Aside0 (laws_toSlotS.l0 kq l0 x3_1 x4_1=some r)∧Aside0 (kq≤k)∧Aside0 (Kd.R k97 97 w' w.heap.size (fun _=>True) v210 x3_1)∧Aside0 (Below w.heap.size w w'))
   case atStart=>exact ⟨(y209),(0),(by first|rfl|(simp;done)|(simp [*];done)),H',⟨Nat.le_refl _⟩,⟨kr HO211⟩,⟨bl⟩⟩
   case round =>
    clear H'
    try clear c2
    try clear c2b0
    try clear c2b1
    try clear p2
    try clear c3
    try clear c3b0
    try clear c3b1
    try clear c5
    obtain ⟨x3_1,x4_1,rfl,HA,HK1,HO_3,HB⟩:=hrel
    cases gk with
    | zero=>exact absurd HA.out (by simp [laws_toSlotS.l0])
    | succ k1 =>
     have H:=HA.out
     clear HA
     simp only [laws_toSlotS.l0] at H
     by_cases c6:x4_1 < (l0.length:Int)
     ·rw [if_pos c6] at H
      have c6b0:decide (x4_1 < (l0.length:Int))=true:=decide_eq_true c6
      clear c6
      by_cases c7:0≤x4_1
      ·rw [if_pos c7] at H
       have c7b0:decide (0≤x4_1)=true:=decide_eq_true c7
       clear c7
       replace H:=Option.bind_eq_some_iff.mp H
       obtain ⟨⟨t213,t214,t215,t216⟩,A80,H⟩:=H
       replace H:(if x4_1 < (x3_1.length:Int) then (laws_toSlotS.l0 k1 l0 (x3_1.set (x4_1:Int).toNat (⟨t213,t214,t215,t216⟩:S97)) (wrap64 (x4_1 + 1))) else (none))=some r:=H
       have A8:=Aside0.mk A80
       clear A80
       by_cases c9:x4_1 < (x3_1.length:Int)
       ·rw [if_pos c9] at H
        have c9b0:decide (x4_1 < (x3_1.length:Int))=true:=decide_eq_true c9
        clear c9
        obtain ⟨y217,hy217⟩:∃ y_:List (S97),y_=(x3_1.set (x4_1:Int).toNat (⟨t213,t214,t215,t216⟩:S97)):=⟨_,rfl⟩
        replace H:(laws_toSlotS.l0 k1 l0 y217 (wrap64 (x4_1 + 1)))=some r:=by first|(rw [hy217];with_reducible exact H)|(have H2_:=(Option.bind_some _ _).symm.trans H;rw [hy217];with_reducible exact H2_)|(have H2_:=(Option.bind_some _ _).symm.trans H;with_reducible exact H2_)|with_reducible exact H|(rw [hy217];exact H)|exact H
        have Ny217:=Aside0.mk hy217
        clear hy217
        have H':=Aside0.mk H
        clear H
        have p212:0≤(x4_1:Int):=of_decide_eq_true (by first|(with_reducible assumption)|assumption)
        have q212:x4_1 < (l0.length:Int):=of_decide_eq_true (by first|(with_reducible assumption)|assumption)
        obtain ⟨ad212,e212,hx212_0,hx212_1,hx212_2,hx212_3⟩:=at_T100 HR0.out x4_1 p212 q212
        cases e212
        replace hx212_0:=cl HB hx212_0
        replace hx212_1:=cl HB hx212_1
        replace hx212_2:=cl HB hx212_2
        replace hx212_3:=cl HB hx212_3
        replace p212:=eq_true p212
        replace q212:=eq_true q212
        go_wp2_with (first|((with_reducible refine gate_callee (f:=84) rfl ?_);refine gl Try.func84 #[.agg #[.int .i64 ((rd_T100 l0 x4_1).f0),.int .i64 ((rd_T100 l0 x4_1).f1),.int .i64 ((rd_T100 l0 x4_1).f2),.bool ((rd_T100 l0 x4_1).f3)]] ?_;(with_reducible refine (laws_toSlot.calls ((rd_T100 l0 x4_1).f0) ((rd_T100 l0 x4_1).f1) ((rd_T100 l0 x4_1).f2) ((rd_T100 l0 x4_1).f3) t213 t214 t215 t216 _ A8.out).mono ?_);rintro e w11 ⟨rfl,hb⟩;refine ⟨_,rfl,?_⟩;replace HO_3:=Aside0.mk (Kd.R_below (kr HO_3) hb);replace HB:=Aside0.mk (below_step bl hb);(try clear hb);(try clear hb2);(try clear hk);(try clear hi);have p10:0≤(x4_1:Int):=of_decide_eq_true (by first|(with_reducible assumption)|assumption);have q10:(x4_1:Int) < ((x3_1.length:Int):Int):=of_decide_eq_true (by first|(with_reducible assumption)|assumption);obtain ⟨go10,co10,eo10,gb10,gl10,cl10,HG10⟩:=Kd.R_form HO_3.out (by omega);(first|cases eo10|(injection eo10 with ea_ en_ ec_;(first|subst ea_|(injection ea_ with ea_;subst ea_));subst ec_;clear en_));have GB10:=Aside0.mk gb10;have GG10:=Aside0.mk HG10;clear gb10 gl10 HG10;obtain ⟨ce10,hcl10,hM10,hcc10,hfr10⟩:=Kd.R_elem HO_3.out z97 (x4_1:Int) p10 q10;obtain rfl:=k97_openM hM10;have hx10_0:w11.cell? ⟨go10,(x4_1:Int).toNat * 4,none⟩=some (.int .i64 ((rd_T97 x3_1 x4_1).f0)):=hcc10 0 _ rfl;have hx10_1:w11.cell? ⟨go10,(x4_1:Int).toNat * 4 + 1,none⟩=some (.int .i64 ((rd_T97 x3_1 x4_1).f1)):=hcc10 1 _ rfl;have hx10_2:w11.cell? ⟨go10,(x4_1:Int).toNat * 4 + 2,none⟩=some (.int .i64 ((rd_T97 x3_1 x4_1).f2)):=hcc10 2 _ rfl;have hx10_3:w11.cell? ⟨go10,(x4_1:Int).toNat * 4 + 3,none⟩=some (.bool ((rd_T97 x3_1 x4_1).f3)):=hcc10 3 _ rfl;have hf10_0:w11.frozen? ⟨go10,(x4_1:Int).toNat * 4,none⟩=false:=hfr10 0;have hf10_1:w11.frozen? ⟨go10,(x4_1:Int).toNat * 4 + 1,none⟩=false:=hfr10 1;have hf10_2:w11.frozen? ⟨go10,(x4_1:Int).toNat * 4 + 2,none⟩=false:=hfr10 2;have hf10_3:w11.frozen? ⟨go10,(x4_1:Int).toNat * 4 + 3,none⟩=false:=hfr10 3;clear hcl10 hcc10 hfr10 hM10;replace p10:=eq_true p10;replace q10:=eq_true q10;have HX12:=Aside0.mk (show Kd.R k97 97 w11 w.heap.size (fun _=>True) (.slice (some ⟨go10,0,none⟩) x3_1.length co10) x3_1 from (kr HO_3));obtain ⟨ce12,hcl12,hM12,hcc12,hfr12⟩:=Kd.R_elem HX12.out z97 (x4_1:Int) (of_decide_eq_true (by first|(with_reducible assumption)|assumption)) (by have h_:(x4_1:Int) < ((x3_1.length:Int):Int):=of_decide_eq_true (by first|(with_reducible assumption)|assumption);first|exact h_|(have e_:=(Kd.R_reads' HO_3.out).1;omega)|simpa using h_);obtain rfl:=k97_openM hM12;have HP12:=Kd.R_seg HX12.out (x4_1:Int) (of_decide_eq_true (by first|(with_reducible assumption)|assumption)) (by have h_:(x4_1:Int) < ((x3_1.length:Int):Int):=of_decide_eq_true (by first|(with_reducible assumption)|assumption);first|exact h_|(have e_:=(Kd.R_reads' HO_3.out).1;omega)|simpa using h_) (seg:=[.int .i64 t213,.int .i64 t214,.int .i64 t215,.bool t216]) (j:=0) hcl12 hcc12 (show 4≤4 from by decide) (x':=(⟨t213,t214,t215,t216⟩:S97)) (k97_mkM _ _ _ (⟨t213,t214,t215,t216⟩:S97) ) (fun _ hk=>hk);have hx12_0:=hcc12 0 _ rfl;(try simp only [show (k97).sz=4 from rfl,Nat.mul_one,Nat.add_zero] at hx12_0);have hf12_0:=hfr12 0;(try simp only [show (k97).sz=4 from rfl,Nat.mul_one,Nat.add_zero] at hf12_0);have hx12_1:=hcc12 1 _ rfl;(try simp only [show (k97).sz=4 from rfl,Nat.mul_one,Nat.add_zero] at hx12_1);have hf12_1:=hfr12 1;(try simp only [show (k97).sz=4 from rfl,Nat.mul_one,Nat.add_zero] at hf12_1);have hx12_2:=hcc12 2 _ rfl;(try simp only [show (k97).sz=4 from rfl,Nat.mul_one,Nat.add_zero] at hx12_2);have hf12_2:=hfr12 2;(try simp only [show (k97).sz=4 from rfl,Nat.mul_one,Nat.add_zero] at hf12_2);have hx12_3:=hcc12 3 _ rfl;(try simp only [show (k97).sz=4 from rfl,Nat.mul_one,Nat.add_zero] at hx12_3);have hf12_3:=hfr12 3;(try simp only [show (k97).sz=4 from rfl,Nat.mul_one,Nat.add_zero] at hf12_3);clear hcl12 hcc12 hfr12 hM12)|((with_reducible refine gate_store (t:=97) (p:=21) rfl ?_);refine sx 97 21 ((((w11.setCell ⟨go10,(x4_1:Int).toNat * 4,none⟩ (.int .i64 t213)).setCell ⟨go10,(x4_1:Int).toNat * 4 + 1,none⟩ (.int .i64 t214)).setCell ⟨go10,(x4_1:Int).toNat * 4 + 2,none⟩ (.int .i64 t215)).setCell ⟨go10,(x4_1:Int).toNat * 4 + 3,none⟩ (.bool t216)) ?_;intro w13 hw;have hg:w11.grownBy w13 (some go10):=(by rw [hw];exact HP12.2);have hp_:Kd.R k97 97 w13 w.heap.size (fun _=>True) (.slice (some ⟨go10,0,none⟩) x3_1.length co10) y217:=(by rw [hw,Ny217.out];exact HP12.1);clear HP12;replace HO_3:=Aside0.mk (hp_);replace HB:=Aside0.mk ((by rw [hw];exact below_set (below_set (below_set (below_set (HB.out) GB10.out) GB10.out) GB10.out) GB10.out:Below w.heap.size w w13));clear hg hw hp_))
        go_roundg k1
        case measure=>have:=HK1.out;omega
        case rel=>exact ⟨(y217),(wrap64 (x4_1 + 1)),(by first|rfl|(simp;done)|(simp [*];done)),H',⟨by have:=HK1.out;omega⟩,⟨kr HO_3⟩,⟨bl⟩⟩
       ·rw [if_neg c9] at H
        exact absurd H (by simp)
      ·rw [if_neg c7] at H
       exact absurd H (by simp)
     ·rw [if_neg c6] at H
      have c6b0:decide (x4_1 < (l0.length:Int))=false:=decide_eq_false c6
      clear c6
      obtain rfl:=Option.some.inj H
      go_wp2
      go_ret
      exact ⟨_,by first|rfl|(simp [errW_none,errW_some] <;> rfl)|(simp [*,errW_none,errW_some] <;> rfl),kr HO_3,bl⟩
  ·rw [if_neg c3] at H
   exact absurd H (by simp)
 ·rw [if_neg c2] at H
  exact absurd H (by simp)

/-! ### laws_toQueue: function 14 -/
def laws_toQueue.f (k:Nat) (l0_0:List (S100)) (a0_1:Int) (a0_2:Int) (a0_3:Int) (a0_4:Int):Option ((List (S97)) × Int × Int × Int × Int):=(laws_toSlotS.f k l0_0).bind fun t221=>(some (t221,a0_1,a0_2,a0_3,a0_4))
theorem laws_toQueue.mono:∀ a0 a1 a2 a3 a4 k,LeO (laws_toQueue.f k a0 a1 a2 a3 a4) (laws_toQueue.f (k + 1) a0 a1 a2 a3 a4):=by
 intro a0 a1 a2 a3 a4 k
 unfold laws_toQueue.f
 repeat' first
   | (with_reducible exact laws_toSlotS.mono _ _)
   | (with_reducible exact LeO.refl _)
   | (with_reducible exact LeO.none _)
   | (with_reducible refine LeO.ite ?_ ?_)
   | (with_reducible refine LeO.bind ?_ (fun _=>?_))
   | exact laws_toSlotS.mono _ _
   | exact LeO.none _
   | refine LeO.ite ?_ ?_
   | refine LeO.bind ?_ (fun _=>?_)
set_option maxHeartbeats 8000000 in
set_option maxRecDepth 100000 in
theorem laws_toQueue.calls (k:Nat) (A0_0:Option Addr) (c0_0:Nat) (l0_0:List (S100)) (a0_1:Int) (a0_2:Int) (a0_3:Int) (a0_4:Int) (r1:List (S97)) (r2:Int) (r3:Int) (r4:Int) (r5:Int) (w:World) (hr0_0:Kd.C k100 w A0_0 l0_0.length l0_0) (hc0_0:l0_0.length≤c0_0) (h:laws_toQueue.f k l0_0 a0_1 a0_2 a0_3 a0_4=some (r1,r2,r3,r4,r5)) :
  Calls Try.prog 14 #[.agg #[.slice A0_0 l0_0.length c0_0,.int .i64 a0_1,.int .i64 a0_2,.int .i64 a0_3,.int .i64 a0_4]] w fun e w'=>∃ v0_:Value,e = .returned (.agg #[v0_,.int .i64 r2,.int .i64 r3,.int .i64 r4,.int .i64 r5])∧Kd.R k97 97 w' w.heap.size (fun _=>True) v0_ r1∧Below w.heap.size w w':=by
 have hu24:=Try.underlying24
 have hu28:=Try.underlying28
 have HR0_0:=Aside0.mk hr0_0
 have HC0_0:=Aside0.mk hc0_0
 clear hr0_0 hc0_0
 have HB:=Aside0.mk (Below.refl w.heap.size w)
 have H:((laws_toSlotS.f k l0_0).bind fun t221=>(some (t221,a0_1,a0_2,a0_3,a0_4)))=some (r1,r2,r3,r4,r5):=h
 clear h
 replace H:=Option.bind_eq_some_iff.mp H
 obtain ⟨t221,A20,H⟩:=H
 have A2:=Aside0.mk A20
 clear A20
 simp only [Option.some.injEq,Prod.mk.injEq] at H
 obtain ⟨rfl,rfl,rfl,rfl,rfl⟩:=H
 go_enter Try.func14,Try.ntmps14
 go_wp2_with (first|((with_reducible refine gate_dst (N:=1) rfl ?_);refine bx 1 #[.slice A0_0 l0_0.length c0_0,.int .i64 a0_1,.int .i64 a0_2,.int .i64 a0_3,.int .i64 a0_4] 24 ?_;intro gb218 hg w3 hbox hb;have BK218:=Aside0.mk (hbox);have GW218:=Aside0.mk (bz hg:w.heap.size≤gb218);have GE218:=GW218;replace HB:=Aside0.mk (below_step bl hb);clear hb hbox hg)|((with_reducible refine gate_dst (N:=2) rfl ?_);refine bx 2 #[.slice none 0 0,.int .i64 0,.int .i64 0,.int .i64 0,.int .i64 0] 28 ?_;intro gb219 hg w4 hbox hb;have BK219:=Aside0.mk (hbox);have GW219:=Aside0.mk (bz hg:w.heap.size≤gb219);have GE219:=GW219;replace HB:=Aside0.mk (below_step bl hb);have NB218_219:=Aside0.mk (nl hg BK218:gb218≠gb219);have NB219_218:=Aside0.mk (nr hg BK218:gb219≠gb218);replace BK218:=Aside0.mk (blk_below (bk BK218) hb);clear hb hbox hg)|((with_reducible refine gate_dst (N:=3) rfl ?_);refine bx 3 #[.slice none 0 0,.int .i64 0,.int .i64 0,.int .i64 0,.int .i64 0] 28 ?_;intro gb220 hg w5 hbox hb;have BK220:=Aside0.mk (hbox);have GW220:=Aside0.mk (bz hg:w.heap.size≤gb220);have GE220:=GW220;replace HB:=Aside0.mk (below_step bl hb);have NB218_220:=Aside0.mk (nl hg BK218:gb218≠gb220);have NB220_218:=Aside0.mk (nr hg BK218:gb220≠gb218);replace BK218:=Aside0.mk (blk_below (bk BK218) hb);have NB219_220:=Aside0.mk (nl hg BK219:gb219≠gb220);have NB220_219:=Aside0.mk (nr hg BK219:gb220≠gb219);replace BK219:=Aside0.mk (blk_below (bk BK219) hb);clear hb hbox hg;have hnb6:=NB218_219.out;have hnc6:=NB219_218.out;have hnb7:=NB218_220.out;have hnc7:=NB220_218.out;obtain ⟨hcz8_0,hcz8_1,hcz8_2,hcz8_3,hcz8_4,hfz8_0,hfz8_1,hfz8_2,hfz8_3,hfz8_4⟩:=ck5 BK218.out)|((with_reducible refine gate_callee (f:=51) rfl ?_);refine gl Try.func51 #[.slice A0_0 l0_0.length c0_0] ?_;(with_reducible refine (laws_toSlotS.calls k _ _ l0_0 t221 _ ?side1 ?side2 A2.out).mono ?_);(case side1=>exact kc HR0_0);(case side2=>exact HC0_0.out);rintro e w9 ⟨v222,rfl,ho0,hb⟩;refine ⟨_,rfl,?_⟩;have HO223:=Aside0.mk (Kd.R_lower ho0 (below_size bl));replace BK218:=Aside0.mk (blk_below (bk BK218) hb);replace BK219:=Aside0.mk (blk_below (bk BK219) hb);replace BK220:=Aside0.mk (blk_below (bk BK220) hb);replace HB:=Aside0.mk (below_step bl hb);(try clear hb);(try clear hb2);(try clear hk);(try clear hi);(try clear ho0);obtain ⟨Ao10,co10,eo10⟩:=Kd.R_slice HO223.out;subst eo10;have hnb11:=NB220_219.out;have hnc11:=NB219_220.out;obtain ⟨hcz12_0,hcz12_1,hcz12_2,hcz12_3,hcz12_4,hfz12_0,hfz12_1,hfz12_2,hfz12_3,hfz12_4⟩:=ck5 BK220.out;obtain ⟨hcz13_0,hcz13_1,hcz13_2,hcz13_3,hcz13_4,hfz13_0,hfz13_1,hfz13_2,hfz13_3,hfz13_4⟩:=ck5 BK218.out;obtain ⟨hcz14_0,hcz14_1,hcz14_2,hcz14_3,hcz14_4,hfz14_0,hfz14_1,hfz14_2,hfz14_3,hfz14_4⟩:=ck5 BK219.out))
 refine bodyPost_ret (results_cell_row rfl _ _ gb219 28 #[.slice Ao10 t221.length co10,.int .i64 a0_1,.int .i64 a0_2,.int .i64 a0_3,.int .i64 a0_4] (0,0) _ rfl (by (with_reducible repeat (first|refine blk_drewN ?_ _|refine blk_drew ?_|refine blk_alloc ?_ _));refine blk_put (cs:=#[.slice Ao10 t221.length co10,.int .i64 a0_1,.int .i64 a0_2,.int .i64 a0_3,.int .i64 0]) ?_ 4 _ rfl;(with_reducible repeat (first|refine blk_drewN ?_ _|refine blk_drew ?_|refine blk_alloc ?_ _));refine blk_put (cs:=#[.slice Ao10 t221.length co10,.int .i64 a0_1,.int .i64 a0_2,.int .i64 0,.int .i64 0]) ?_ 3 _ rfl;(with_reducible repeat (first|refine blk_drewN ?_ _|refine blk_drew ?_|refine blk_alloc ?_ _));refine blk_put (cs:=#[.slice Ao10 t221.length co10,.int .i64 a0_1,.int .i64 0,.int .i64 0,.int .i64 0]) ?_ 2 _ rfl;(with_reducible repeat (first|refine blk_drewN ?_ _|refine blk_drew ?_|refine blk_alloc ?_ _));refine blk_put (cs:=#[.slice Ao10 t221.length co10,.int .i64 0,.int .i64 0,.int .i64 0,.int .i64 0]) ?_ 1 _ rfl;(with_reducible repeat (first|refine blk_drewN ?_ _|refine blk_drew ?_|refine blk_alloc ?_ _));refine blk_put (cs:=#[.slice none 0 0,.int .i64 0,.int .i64 0,.int .i64 0,.int .i64 0]) ?_ 0 _ rfl;(with_reducible repeat (first|refine blk_drewN ?_ _|refine blk_drew ?_|refine blk_alloc ?_ _));refine blk_far ?_ NB219_220.out _;(with_reducible repeat (first|refine blk_drewN ?_ _|refine blk_drew ?_|refine blk_alloc ?_ _));refine blk_far ?_ NB219_220.out _;(with_reducible repeat (first|refine blk_drewN ?_ _|refine blk_drew ?_|refine blk_alloc ?_ _));refine blk_far ?_ NB219_220.out _;(with_reducible repeat (first|refine blk_drewN ?_ _|refine blk_drew ?_|refine blk_alloc ?_ _));refine blk_far ?_ NB219_220.out _;(with_reducible repeat (first|refine blk_drewN ?_ _|refine blk_drew ?_|refine blk_alloc ?_ _));refine blk_far ?_ NB219_220.out _;(with_reducible repeat (first|refine blk_drewN ?_ _|refine blk_drew ?_|refine blk_alloc ?_ _));exact BK219.out) Try.underlying28 rfl (by kernel_rfl)) rfl ?_
 exact ⟨_,by first|rfl|(simp [errW_none,errW_some] <;> rfl)|(simp [*,errW_none,errW_some] <;> rfl),by (with_reducible repeat (first|apply Kd.R_alloc|apply Kd.R_drewN|apply Kd.R_drew));exact Kd.R_mono (Kd.R_far (p:=⟨gb219,4,none⟩) (Kd.R_far (p:=⟨gb219,3,none⟩) (Kd.R_far (p:=⟨gb219,2,none⟩) (Kd.R_far (p:=⟨gb219,1,none⟩) (Kd.R_far (p:=⟨gb219,0,none⟩) (Kd.R_far (p:=⟨gb220,4,none⟩) (Kd.R_far (p:=⟨gb220,3,none⟩) (Kd.R_far (p:=⟨gb220,2,none⟩) (Kd.R_far (p:=⟨gb220,1,none⟩) (Kd.R_far (p:=⟨gb220,0,none⟩) (Kd.R_types (Kd.R_types HO223.out BK220.out (by decide)) BK219.out (by decide)) (fun _ hk=>hk.1.2) (.slice Ao10 t221.length co10)) (fun _ hk=>hk.1.2) (.int .i64 a0_1)) (fun _ hk=>hk.1.2) (.int .i64 a0_2)) (fun _ hk=>hk.1.2) (.int .i64 a0_3)) (fun _ hk=>hk.1.2) (.int .i64 a0_4)) (fun _ hk=>hk.2) (.slice Ao10 t221.length co10)) (fun _ hk=>hk.2) (.int .i64 a0_1)) (fun _ hk=>hk.2) (.int .i64 a0_2)) (fun _ hk=>hk.2) (.int .i64 a0_3)) (fun _ hk=>hk.2) (.int .i64 a0_4)) (fun _ hk=>trivial),bl⟩

/-! ### impl_in: function 88 -/
def impl_in.f (a0:Int) (a1:Int) (a2:Int):Option (Bool):=if a0 ≥ a1 then (some (decide (a0≤a2))) else (some false)
set_option maxHeartbeats 8000000 in
set_option maxRecDepth 100000 in
theorem impl_in.calls (a0:Int) (a1:Int) (a2:Int) (r:Bool) (w:World) (h:impl_in.f a0 a1 a2=some r) :
  Calls Try.prog 88 #[.int .i64 a0,.int .i64 a1,.int .i64 a2] w fun e w'=>e = .returned (.bool r)∧Drawn0 w w':=by
 have H:(if a0 ≥ a1 then (some (decide (a0≤a2))) else (some false))=some r:=h
 clear h
 by_cases c4:a0 ≥ a1
 ·rw [if_pos c4] at H
  have c4b0:decide (a1≤a0)=true:=decide_eq_true c4
  clear c4
  obtain rfl:=Option.some.inj H
  go_enter Try.func88,Try.ntmps88
  go_wp2
  go_ret
  exact ⟨by first|rfl|(simp;done)|(simp [*];done),by repeat (first|exact Drawn0.refl _|apply Drawn0.step)⟩
 ·rw [if_neg c4] at H
  have c4b0:decide (a1≤a0)=false:=decide_eq_false c4
  clear c4
  obtain rfl:=Option.some.inj H
  go_enter Try.func88,Try.ntmps88
  go_wp2
  go_ret
  exact ⟨by first|rfl|(simp;done)|(simp [*];done),by repeat (first|exact Drawn0.refl _|apply Drawn0.step)⟩

/-! ### impl_isId: function 89 -/
def impl_isId.f (a0:Int):Option (Bool):=(impl_in.f a0 1 1000000000).bind fun t224=>(some t224)
set_option maxHeartbeats 8000000 in
set_option maxRecDepth 100000 in
theorem impl_isId.calls (a0:Int) (r:Bool) (w:World) (h:impl_isId.f a0=some r) :
  Calls Try.prog 89 #[.int .i64 a0] w fun e w'=>e = .returned (.bool r)∧Drawn0 w w':=by
 have H:((impl_in.f a0 1 1000000000).bind fun t224=>(some t224))=some r:=h
 clear h
 replace H:=Option.bind_eq_some_iff.mp H
 obtain ⟨t224,A20,H⟩:=H
 have A2:=Aside0.mk A20
 clear A20
 obtain rfl:=Option.some.inj H
 go_enter Try.func89,Try.ntmps89
 go_wp2_with (first|((with_reducible refine gate_callee (f:=88) rfl ?_);refine gl Try.func88 #[.int .i64 a0,.int .i64 1,.int .i64 1000000000] ?_;(with_reducible refine (impl_in.calls a0 1 1000000000 t224 _ A2.out).mono ?_);rintro e w' ⟨rfl,⟨nd,rfl⟩⟩;refine ⟨_,rfl,?_⟩))
 go_ret
 exact ⟨by first|rfl|(simp;done)|(simp [*];done),by repeat (first|exact Drawn0.refl _|apply Drawn0.step)⟩

end Go.Proofs.Ytnkpjpfmjkiidaa.PFnExactMoveBack
