/- Contracts of functions of the given program: what each call answers. Written by a program of this session, out of the text of the functions. -/
import Derived.Test.YtnkpjpfmjkiidaaPFnExactLineListx0
import Derived.Test.YtnkpjpfmjkiidaaPFnExactLineListx8
import Derived.Test.YtnkpjpfmjkiidaaPFnExactLineListx9
import Derived.Test.YtnkpjpfmjkiidaaPFnExactLineListx11
import Derived.Test.YtnkpjpfmjkiidaaPrs
namespace Go.Proofs.Ytnkpjpfmjkiidaa.PFnExactLineList
open Go.RowKit Go.Proofs.YtnkpjpfmjkiidaaW.PrintWords Go.Proofs.YtnkpjpfmjkiidaaW.PrintLast Go.Proofs.YtnkpjpfmjkiidaaW.PrintMore Go.Proofs.Ytnkpjpfmjkiidaa.Giv Go.Proofs.Ytnkpjpfmjkiidaa.Prs
attribute [local go_sem] max2_int min2_int max_two min_two max_three min_three max_four min_four   -- for this text's walks alone
set_option linter.unusedVariables false
set_option linter.unusedSimpArgs false

/-! ### impl_ListQueue: function 67 -/
def impl_ListQueue.l0:Nat→List Int→List Int→Int→Int→List (S97)→Int→Int→Int→Int→Option (List Int)
 | 0,_,_,_,_,_,_,_,_,_=>none
 | k + 1,x5,x18,x19,x20,x301000,x301001,x301002,x301003,x301004=>if x20 < x19 then (if 0≤x20 then (if x20 < (x18.length:Int) then (if 0≤(rd x18 x20) then (if (rd x18 x20) < (x301000.length:Int) then (if x5.length < 17592186044416 then (impl_ListQueue.l0 k (x5 ++ [(rd_T97 x301000 (rd x18 x20)).f0]) x18 x19 (wrap64 (x20 + 1)) x301000 x301001 x301002 x301003 x301004) else (none)) else (none)) else (none)) else (none)) else (none)) else (some x5)
def impl_ListQueue.f (k:Nat) (l0_0:List (S97)) (a0_1:Int) (a0_2:Int) (a0_3:Int) (a0_4:Int):Option (List Int):=(impl_QueueOk.f k l0_0 a0_1 a0_2 a0_3 a0_4).bind fun t301=>(if t301=true then ((impl_Queue_walk.f k l0_0 a0_1 a0_2 a0_3 a0_4 a0_1).bind fun bt302=>(impl_ListQueue.l0 k ([]:List Int) bt302.1 (bt302.1.length:Int) 0 l0_0 a0_1 a0_2 a0_3 a0_4)) else (some ([]:List Int)))
theorem impl_ListQueue.mono_l:∀ k,(∀ y0 y1 y2 y3 y4 y5 y6 y7 y8,LeO (impl_ListQueue.l0 k y0 y1 y2 y3 y4 y5 y6 y7 y8) (impl_ListQueue.l0 (k + 1) y0 y1 y2 y3 y4 y5 y6 y7 y8))
 | 0=>fun _ _ _ _ _ _ _ _ _ r h=>by simp [impl_ListQueue.l0] at h
 | k + 1=>by
  have ih0:=impl_ListQueue.mono_l k
  ·intro y0 y1 y2 y3 y4 y5 y6 y7 y8
   unfold impl_ListQueue.l0
   repeat' first
   | (with_reducible exact ih0 _ _ _ _ _ _ _ _ _)
   | (with_reducible exact impl_QueueOk.mono _ _ _ _ _ _)
   | (with_reducible exact impl_Queue_walk.mono _ _ _ _ _ _ _)
   | (with_reducible exact LeO.refl _)
   | (with_reducible exact LeO.none _)
   | (with_reducible refine LeO.ite ?_ ?_)
   | (with_reducible refine LeO.bind ?_ (fun _=>?_))
   | exact ih0 _ _ _ _ _ _ _ _ _
   | exact impl_QueueOk.mono _ _ _ _ _ _
   | exact impl_Queue_walk.mono _ _ _ _ _ _ _
   | exact LeO.none _
   | refine LeO.ite ?_ ?_
   | refine LeO.bind ?_ (fun _=>?_)
theorem impl_ListQueue.mono:∀ a0 a1 a2 a3 a4 k,LeO (impl_ListQueue.f k a0 a1 a2 a3 a4) (impl_ListQueue.f (k + 1) a0 a1 a2 a3 a4):=by
 intro a0 a1 a2 a3 a4 k
 have ih0:=impl_ListQueue.mono_l k
 unfold impl_ListQueue.f
 repeat' first
   | (with_reducible exact ih0 _ _ _ _ _ _ _ _ _)
   | (with_reducible exact impl_QueueOk.mono _ _ _ _ _ _)
   | (with_reducible exact impl_Queue_walk.mono _ _ _ _ _ _ _)
   | (with_reducible exact LeO.refl _)
   | (with_reducible exact LeO.none _)
   | (with_reducible refine LeO.ite ?_ ?_)
   | (with_reducible refine LeO.bind ?_ (fun _=>?_))
   | exact ih0 _ _ _ _ _ _ _ _ _
   | exact impl_QueueOk.mono _ _ _ _ _ _
   | exact impl_Queue_walk.mono _ _ _ _ _ _ _
   | exact LeO.none _
   | refine LeO.ite ?_ ?_
   | refine LeO.bind ?_ (fun _=>?_)
set_option maxHeartbeats 8000000 in
set_option maxRecDepth 100000 in
theorem impl_ListQueue.calls (k:Nat) (A0_0:Option Addr) (c0_0:Nat) (l0_0:List (S97)) (a0_1:Int) (a0_2:Int) (a0_3:Int) (a0_4:Int) (r:List Int) (w:World) (hr0_0:Kd.C k97 w A0_0 l0_0.length l0_0) (hc0_0:l0_0.length≤c0_0) (h:impl_ListQueue.f k l0_0 a0_1 a0_2 a0_3 a0_4=some r) :
  Calls Try.prog 67 #[.agg #[.slice A0_0 l0_0.length c0_0,.int .i64 a0_1,.int .i64 a0_2,.int .i64 a0_3,.int .i64 a0_4]] w fun e w'=>∃ v0_:Value,e = .returned (v0_)∧Kd.R (Kd.int .i64) 3 w' w.heap.size (fun _=>True) v0_ r∧Below w.heap.size w w':=by
 have hu28:=Try.underlying28
 have HR0_0:=Aside0.mk hr0_0
 have HC0_0:=Aside0.mk hc0_0
 clear hr0_0 hc0_0
 have HB:=Aside0.mk (Below.refl w.heap.size w)
 have H:((impl_QueueOk.f k l0_0 a0_1 a0_2 a0_3 a0_4).bind fun t301=>(if t301=true then ((impl_Queue_walk.f k l0_0 a0_1 a0_2 a0_3 a0_4 a0_1).bind fun bt302=>(impl_ListQueue.l0 k ([]:List Int) bt302.1 (bt302.1.length:Int) 0 l0_0 a0_1 a0_2 a0_3 a0_4)) else (some ([]:List Int))))=some r:=h
 clear h
 replace H:=Option.bind_eq_some_iff.mp H
 obtain ⟨t301,A20,H⟩:=H
 have A2:=Aside0.mk A20
 clear A20
 by_cases c3:t301=true
 ·subst c3
  rw [if_pos rfl] at H
  replace H:=Option.bind_eq_some_iff.mp H
  obtain ⟨⟨t302,t305⟩,A40,H⟩:=H
  replace H:(impl_ListQueue.l0 k ([]:List Int) t302 (t302.length:Int) 0 l0_0 a0_1 a0_2 a0_3 a0_4)=some r:=H
  have A4:=Aside0.mk A40
  clear A40
  have H':=Aside0.mk H
  clear H
  go_enter Try.func67,Try.ntmps67
  go_wp2_with (first|((with_reducible refine gate_dst (N:=1) rfl ?_);refine box_event ?hg (N:=1) ?hd (cs:=#[.slice A0_0 l0_0.length c0_0,.int .i64 a0_1,.int .i64 a0_2,.int .i64 a0_3,.int .i64 a0_4]) (t:=28) ?hr ?_;(case hd=>rfl);(case hg=>rfl);(case hr=>first|(go_simp;done)|(go_simp;rfl));intro gb300 hg w5 hbox hb;have BK300:=Aside0.mk (hbox);have GW300:=Aside0.mk ((by rw [hg];exact (below_size bl):w.heap.size≤gb300));have GE300:=GW300;replace HB:=Aside0.mk (below_step bl hb);clear hb hbox hg;obtain ⟨hcz6_0,hcz6_1,hcz6_2,hcz6_3,hcz6_4,hfz6_0,hfz6_1,hfz6_2,hfz6_3,hfz6_4⟩:=ck5 BK300.out)|((with_reducible refine gate_callee (f:=65) rfl ?_);refine goesL_ (some 9) rfl rfl Try.func65 (by kernel_rfl) rfl #[.agg #[.slice A0_0 l0_0.length c0_0,.int .i64 a0_1,.int .i64 a0_2,.int .i64 a0_3,.int .i64 a0_4]] rfl (by (try simp only [List.map_toArray,List.map_cons,List.map_nil]);first|done|rfl|(simp only [List.length_drop,List.length_take];rfl)) ?_;(with_reducible refine (impl_QueueOk.calls k _ _ l0_0 a0_1 a0_2 a0_3 a0_4 true _ ?side1 ?side2 A2.out).mono ?_);(case side1=>repeat (first|exact (Kd.C_below HR0_0.out HB.out)|(with_reducible refine Kd.C_alloc ?_ _)|(with_reducible refine Kd.C_drewN ?_ _)|(with_reducible refine Kd.C_drew ?_)));(case side2=>exact HC0_0.out);rintro e w7 ⟨rfl,hb⟩;refine ⟨_,rfl,?_⟩;replace BK300:=Aside0.mk (blk_below (bk BK300) hb);replace HB:=Aside0.mk (below_step bl hb);(try clear hb);(try clear hb2);(try clear hk);(try clear hi);obtain ⟨hcz8_0,hcz8_1,hcz8_2,hcz8_3,hcz8_4,hfz8_0,hfz8_1,hfz8_2,hfz8_3,hfz8_4⟩:=ck5 BK300.out)|((with_reducible refine gate_callee (f:=96) rfl ?_);refine goesL_ (some 15) rfl rfl Try.func96 (by kernel_rfl) rfl #[.agg #[.slice A0_0 l0_0.length c0_0,.int .i64 a0_1,.int .i64 a0_2,.int .i64 a0_3,.int .i64 a0_4],.int .i64 a0_1] rfl (by (try simp only [List.map_toArray,List.map_cons,List.map_nil]);first|done|rfl|(simp only [List.length_drop,List.length_take];rfl)) ?_;(with_reducible refine (impl_Queue_walk.calls k _ _ l0_0 a0_1 a0_2 a0_3 a0_4 a0_1 t302 t305 _ ?side1 ?side2 A4.out).mono ?_);(case side1=>repeat (first|exact (Kd.C_below HR0_0.out HB.out)|(with_reducible refine Kd.C_alloc ?_ _)|(with_reducible refine Kd.C_drewN ?_ _)|(with_reducible refine Kd.C_drew ?_)));(case side2=>exact HC0_0.out);rintro e w9 ⟨v303,rfl,ho0,hb⟩;refine ⟨_,rfl,?_⟩;have HO304:=Aside0.mk (Kd.R_lower ho0 (below_size bl));replace BK300:=Aside0.mk (blk_below (bk BK300) hb);replace HB:=Aside0.mk (below_step bl hb);(try clear hb);(try clear hb2);(try clear hk);(try clear hi);(try clear ho0);obtain ⟨Ao10,co10,eo10⟩:=Kd.R_slice HO304.out;subst eo10))
  go_loopg [5,20] k (fun kq v5 v20 w'=>∃ (x5_1:List Int) (x20_1:Int),v20 = .int .i64 x20_1∧Aside0 (impl_ListQueue.l0 kq x5_1 t302 (t302.length:Int) x20_1 l0_0 a0_1 a0_2 a0_3 a0_4=some r)∧Aside0 (kq≤k)∧Aside0 (Kd.R (Kd.int .i64) 3 w' w.heap.size (fun k_=>some k_≠((.slice Ao10 t302.length co10):Value).ownBlock) v5 x5_1)∧Aside0 (Kd.R (Kd.int .i64) 3 w' w.heap.size (fun k_=>some k_≠(v5:Value).ownBlock) (.slice Ao10 t302.length co10) t302)∧Aside0 (w'.heap[gb300]? = some (.cells #[(.slice A0_0 l0_0.length c0_0),.int .i64 a0_1,.int .i64 a0_2,.int .i64 a0_3,.int .i64 a0_4] 28 (0,0)))∧Aside0 (Below w.heap.size w w'))
  case atStart=>exact ⟨(([]:List Int)),(0),(by first|rfl|(simp;done)|(simp [*];done)),H',⟨Nat.le_refl _⟩,⟨by first|exact Kd.R_nil _ _ _ _ _|exact Kd.N_nil _ _ _ _ _|exact Kd.V_nil _ _ _ _ _|exact Kd.Q_nil _ _ _ _ _|exact Kd.S_nil _ _ _ _ _⟩,⟨by (with_reducible repeat (first|apply Kd.R_alloc|apply Kd.R_drewN|apply Kd.R_drew));exact Kd.R_mono HO304.out (fun _ hk=>(by simp [Value.ownBlock]))⟩,⟨bk BK300⟩,⟨bl⟩⟩
  case round =>
   clear H'
   try clear p2
   try clear c3
   try clear c6
   try clear c9
   try clear hcz6_0
   try clear hcz6_1
   try clear hcz6_2
   try clear hcz6_3
   try clear hcz6_4
   try clear hcz8_0
   try clear hcz8_1
   try clear hcz8_2
   try clear hcz8_3
   try clear hcz8_4
   try clear hfz6_0
   try clear hfz6_1
   try clear hfz6_2
   try clear hfz6_3
   try clear hfz6_4
   try clear hfz8_0
   try clear hfz8_1
   try clear hfz8_2
   try clear hfz8_3
   try clear hfz8_4
   obtain ⟨x5_1,x20_1,rfl,HA,HK1,HO_5,HO_18,BK300,HB⟩:=hrel
   cases gk with
   | zero=>exact absurd HA.out (by simp [impl_ListQueue.l0])
   | succ k1 =>
    have H:=HA.out
    clear HA
    simp only [impl_ListQueue.l0] at H
    by_cases c11:x20_1 < (t302.length:Int)
    ·rw [if_pos c11] at H
     have c11b0:decide (x20_1 < (t302.length:Int))=true:=decide_eq_true c11
     clear c11
     by_cases c12:0≤x20_1
     ·rw [if_pos c12] at H
      have c12b0:decide (0≤x20_1)=true:=decide_eq_true c12
      clear c12
      by_cases c13:x20_1 < (t302.length:Int)
      ·rw [if_pos c13] at H
       have c13b0:decide (x20_1 < (t302.length:Int))=true:=decide_eq_true c13
       clear c13
       by_cases c14:0≤(rd t302 x20_1)
       ·rw [if_pos c14] at H
        have c14b0:decide (0≤(rd t302 x20_1))=true:=decide_eq_true c14
        clear c14
        by_cases c15:(rd t302 x20_1) < (l0_0.length:Int)
        ·rw [if_pos c15] at H
         have c15b0:decide ((rd t302 x20_1) < (l0_0.length:Int))=true:=decide_eq_true c15
         clear c15
         by_cases c16:x5_1.length < 17592186044416
         ·rw [if_pos c16] at H
          have LMc16:=Aside0.mk c16
          clear c16
          obtain ⟨y308,hy308⟩:∃ y_:List Int,y_=(x5_1 ++ [(rd_T97 l0_0 (rd t302 x20_1)).f0]):=⟨_,rfl⟩
          replace H:(impl_ListQueue.l0 k1 y308 t302 (t302.length:Int) (wrap64 (x20_1 + 1)) l0_0 a0_1 a0_2 a0_3 a0_4)=some r:=by first|(rw [hy308];with_reducible exact H)|(have H2_:=(Option.bind_some _ _).symm.trans H;rw [hy308];with_reducible exact H2_)|(have H2_:=(Option.bind_some _ _).symm.trans H;with_reducible exact H2_)|with_reducible exact H|(rw [hy308];exact H)|exact H
          have Ny308:=Aside0.mk hy308
          clear hy308
          have H':=Aside0.mk H
          clear H
          have p306:0≤(x20_1:Int):=of_decide_eq_true (by first|(with_reducible assumption)|assumption)
          have q306:x20_1 < (t302.length:Int):=of_decide_eq_true (by first|(with_reducible assumption)|assumption)
          obtain ⟨ad306,e306,hx306_0⟩:=Kd.at_int (Kd.R_reads' HO_18.out).2.2 x20_1 p306 q306
          cases e306
          replace p306:=eq_true p306
          replace q306:=eq_true q306
          obtain ⟨hcz17_0,hcz17_1,hcz17_2,hcz17_3,hcz17_4,hfz17_0,hfz17_1,hfz17_2,hfz17_3,hfz17_4⟩:=ck5 BK300.out
          have p307:0≤((rd t302 x20_1):Int):=of_decide_eq_true (by first|(with_reducible assumption)|assumption)
          have q307:(rd t302 x20_1) < (l0_0.length:Int):=of_decide_eq_true (by first|(with_reducible assumption)|assumption)
          obtain ⟨ad307,e307,hx307_0,hx307_1,hx307_2,hx307_3⟩:=at_T97 HR0_0.out (rd t302 x20_1) p307 q307
          cases e307
          replace hx307_0:=cl HB hx307_0
          replace hx307_1:=cl HB hx307_1
          replace hx307_2:=cl HB hx307_2
          replace hx307_3:=cl HB hx307_3
          replace p307:=eq_true p307
          replace q307:=eq_true q307
          go_wp2_with (first|((with_reducible refine gate_builtin (b:=.append) (xs:=#[.tmp 24,.tmp 31]) rfl ?_);at_builtin;refine Kd.R_append (Kd.int .i64) (w0:=w) w.heap.size rfl (.tmp 24) (.tmp 31) 51 3 (.int .i64 0) 8 rfl Try.underlying51 info3 rfl (by decide) (by omega) u5 x5_1 ((rd_T97 l0_0 (rd t302 x20_1)).f0) [.int .i64 ((rd_T97 l0_0 (rd t302 x20_1)).f0)] (fun k_=>some k_≠(.slice (some ad306) t302.length co10:Value).ownBlock) (fun _=>False) rfl rfl ?aP (fun _ hk=>hk.elim) ?aF ?aO ?aB ?aS ?aL ?_;(case aP=>exact rfl);(case aB=>exact bl);(case aF=>exact (fun k_ hk=>Kd.fresh' (Kd.R_lt (by (with_reducible repeat (first|apply Kd.R_alloc|apply Kd.R_drewN|apply Kd.R_drew));exact HO_18.out)) k_ hk));(case aO=>exact (by (with_reducible repeat (first|apply Kd.R_alloc|apply Kd.R_drewN|apply Kd.R_drew));exact HO_5.out));(case aS=>exact (below_size bl));(case aL=>have:=LMc16.out;omega);intro v309 w18 ho hb hg hat;rw [← Ny308.out] at ho;have n0_:=Aside0.mk (Kd.R_after (ok:=(fun _=>True)) (by (with_reducible repeat (first|apply Kd.R_alloc|apply Kd.R_drewN|apply Kd.R_drew));exact Kd.R_mono HO_18.out (fun _ hk=>⟨trivial,hk⟩)) hg hat);have n1_:=Aside0.mk (blk_grown (bk BK300) hg (Kd.R_ne HO_5.out BK300.out (by decide)));have n2_:=Aside0.mk (hb);have n3_:=Aside0.mk (ho);clear HO_18;clear BK300;clear HB;clear HO_5;have HO_18:=n0_;have BK300:=n1_;have HB:=n2_;have HO310:=n3_;clear n0_ n1_ n2_ n3_;clear ho hb hg hat))
          go_roundg k1
          case measure=>have:=HK1.out;omega
          case rel=>exact ⟨(y308),(wrap64 (x20_1 + 1)),(by first|rfl|(simp;done)|(simp [*];done)),H',⟨by have:=HK1.out;omega⟩,⟨by (with_reducible repeat (first|apply Kd.R_alloc|apply Kd.R_drewN|apply Kd.R_drew));exact HO310.out⟩,⟨by (with_reducible repeat (first|apply Kd.R_alloc|apply Kd.R_drewN|apply Kd.R_drew));exact Kd.R_mono HO_18.out (fun _ hk=>hk.2)⟩,⟨bk BK300⟩,⟨bl⟩⟩
         ·rw [if_neg c16] at H
          exact absurd H (by simp)
        ·rw [if_neg c15] at H
         exact absurd H (by simp)
       ·rw [if_neg c14] at H
        exact absurd H (by simp)
      ·rw [if_neg c13] at H
       exact absurd H (by simp)
     ·rw [if_neg c12] at H
      exact absurd H (by simp)
    ·rw [if_neg c11] at H
     have c11b0:decide (x20_1 < (t302.length:Int))=false:=decide_eq_false c11
     clear c11
     obtain rfl:=Option.some.inj H
     go_wp2
     go_ret
     exact ⟨_,by first|rfl|(simp [errW_none,errW_some] <;> rfl)|(simp [*,errW_none,errW_some] <;> rfl),by (with_reducible repeat (first|apply Kd.R_alloc|apply Kd.R_drewN|apply Kd.R_drew));exact Kd.R_mono HO_5.out (fun _ hk=>trivial),bl⟩
 ·replace c3:=Bool.eq_false_iff.mpr c3
  subst c3
  rw [if_neg nft] at H
  obtain rfl:=Option.some.inj H
  go_enter Try.func67,Try.ntmps67
  go_wp2_with (first|((with_reducible refine gate_dst (N:=1) rfl ?_);refine box_event ?hg (N:=1) ?hd (cs:=#[.slice A0_0 l0_0.length c0_0,.int .i64 a0_1,.int .i64 a0_2,.int .i64 a0_3,.int .i64 a0_4]) (t:=28) ?hr ?_;(case hd=>rfl);(case hg=>rfl);(case hr=>first|(go_simp;done)|(go_simp;rfl));intro gb300 hg w19 hbox hb;have BK300:=Aside0.mk (hbox);have GW300:=Aside0.mk ((by rw [hg];exact (below_size bl):w.heap.size≤gb300));have GE300:=GW300;replace HB:=Aside0.mk (below_step bl hb);clear hb hbox hg;obtain ⟨hcz20_0,hcz20_1,hcz20_2,hcz20_3,hcz20_4,hfz20_0,hfz20_1,hfz20_2,hfz20_3,hfz20_4⟩:=ck5 BK300.out)|((with_reducible refine gate_callee (f:=65) rfl ?_);refine goesL_ (some 9) rfl rfl Try.func65 (by kernel_rfl) rfl #[.agg #[.slice A0_0 l0_0.length c0_0,.int .i64 a0_1,.int .i64 a0_2,.int .i64 a0_3,.int .i64 a0_4]] rfl (by (try simp only [List.map_toArray,List.map_cons,List.map_nil]);first|done|rfl|(simp only [List.length_drop,List.length_take];rfl)) ?_;(with_reducible refine (impl_QueueOk.calls k _ _ l0_0 a0_1 a0_2 a0_3 a0_4 false _ ?side1 ?side2 A2.out).mono ?_);(case side1=>repeat (first|exact (Kd.C_below HR0_0.out HB.out)|(with_reducible refine Kd.C_alloc ?_ _)|(with_reducible refine Kd.C_drewN ?_ _)|(with_reducible refine Kd.C_drew ?_)));(case side2=>exact HC0_0.out);rintro e w21 ⟨rfl,hb⟩;refine ⟨_,rfl,?_⟩;replace BK300:=Aside0.mk (blk_below (bk BK300) hb);replace HB:=Aside0.mk (below_step bl hb);(try clear hb);(try clear hb2);(try clear hk);(try clear hi)))
  go_ret
  exact ⟨_,by first|rfl|(simp [errW_none,errW_some] <;> rfl)|(simp [*,errW_none,errW_some] <;> rfl),by first|exact Kd.R_nil _ _ _ _ _|exact Kd.N_nil _ _ _ _ _|exact Kd.V_nil _ _ _ _ _|exact Kd.Q_nil _ _ _ _ _|exact Kd.S_nil _ _ _ _ _,bl⟩

/-! ### impl_Due: function 100: the first place that a test takes -/
set_option maxHeartbeats 8000000 in
set_option maxRecDepth 100000 in
theorem impl_Due.any (p:S86→Bool) (fn:Nat) (lb:Array Value) (A0:Option Addr) (c0:Nat) (l0:List S86) (w:World) (hr0:Kd.C k86 w A0 l0.length l0) (hc0:l0.length≤c0)
  (eg:∀ args w,(callFunc fn args).run Try.prog w = .ok (.enter fn args) w)
  (hp:∀ (W:World) (x:S86),Below w.heap.size w W→Calls Try.prog fn (#[.agg #[.int .i64 x.f0,.int .i64 x.f1,.int .i64 x.f2]] ++ lb) W fun e w'=>e = .returned (.bool (p x))∧Below W.heap.size W w') :
  Calls Try.prog 100 #[.slice A0 l0.length c0,.func (.func fn) #[] lb] w fun e w'=>e = .returned (.int .i64 (findI p l0 0))∧Below w.heap.size w w':=by
 have HR0:=Aside0.mk hr0
 have HC0:=Aside0.mk hc0
 have hlen:l0.length≤9223372036854775807:=hr0.2.1
 clear hr0 hc0
 obtain ⟨R,hR⟩:∃ R,R=findI p l0 0:=⟨_,rfl⟩
 rw [← hR]
 have HR':=Aside0.mk hR
 clear hR
 go_enter Try.func100,Try.ntmps100
 go_wp2
 go_loopg [5,8] l0.length (fun gg _ v8 w'=>∃ x8_1:Int,v8 = .int .i64 x8_1∧Aside0 (0≤x8_1∧x8_1≤l0.length∧l0.length - x8_1.toNat≤gg)∧Aside0 (R=findI p (l0.drop x8_1.toNat) x8_1)∧Aside0 (Below w.heap.size w w'))
 case atStart=>exact ⟨0,rfl,⟨by omega,by omega,by omega⟩,⟨HR'.out⟩,⟨Below.refl _ _⟩⟩
 case round =>
  clear HR'
  obtain ⟨x8_1,rfl,HG,HA,HB⟩:=hrel
  have HL:=Aside0.mk hlen
  clear hlen
  by_cases c3:x8_1 < (l0.length:Int)
  ·have c3b0:decide (x8_1 < (l0.length:Int))=true:=decide_eq_true c3
   have p124:0≤x8_1:=HG.out.1
   have HRr:=Aside0.mk (Kd.C_below HR0.out HB.out)
   have H:=HA.out
   have hlt:x8_1.toNat < l0.length:=by omega
   have hcons:l0.drop x8_1.toNat=l0[x8_1.toNat] :: l0.drop (x8_1.toNat + 1):=List.drop_eq_getElem_cons hlt
   rw [hcons] at H
   obtain ⟨ad,e,hx0,hx1,hx2⟩:=at_T86 HRr.out x8_1 p124 c3
   cases e
   have hrd:rd_T86 l0 x8_1=l0[x8_1.toNat]:=by unfold rd_T86;rw [List.getD_eq_getElem?_getD,List.getElem?_eq_getElem hlt];rfl
   rw [hrd] at hx0 hx1 hx2
   have hcall:=hp wr l0[x8_1.toNat] HB.out
   clear hcons hrd
   generalize l0[x8_1.toNat]=x at H hx0 hx1 hx2 hcall
   have H':=Aside0.mk H
   have hw:wrap64 (x8_1 + 1)=x8_1 + 1:=by have:=HL.out;unfold wrap64;omega
   have HW:=Aside0.mk hw
   have HX:=Aside0.mk hlt
   clear H hp HRr hw hlt HA
   replace p124:=eq_true p124
   replace c3:=eq_true c3
   cases hq:p x with
   | true =>
    rw [hq] at hcall
    have HQ:=Aside0.mk hq
    clear hq
    go_wp2_with fail
    refine hcall.mono ?_
    rintro e w' ⟨rfl,hb'⟩
    go_wp2
    go_ret
    exact ⟨by rw [H'.out,findI,if_pos HQ.out];rfl,below_step HB.out hb'⟩
   | false =>
    rw [hq] at hcall
    have HQ:=Aside0.mk hq
    clear hq
    go_wp2_with fail
    refine hcall.mono ?_
    rintro e w' ⟨rfl,hb'⟩
    go_wp2
    go_roundg (l0.length - (x8_1.toNat + 1))
    case measure=>have:=HG.out;have:=HX.out;omega
    case rel=>exact ⟨wrap64 (x8_1 + 1),rfl,⟨by have:=HG.out;have:=HX.out;rw [HW.out];omega⟩,⟨by rw [H'.out,findI,if_neg (by rw [HQ.out];decide),HW.out,show (x8_1 + 1).toNat=x8_1.toNat + 1 by have:=HG.out;omega]⟩,⟨below_step HB.out hb'⟩⟩
  ·have hd:decide (x8_1 < (l0.length:Int))=false:=decide_eq_false c3
   have H:=HA.out
   rw [List.drop_eq_nil_of_le (by omega)] at H
   have H':=Aside0.mk H
   clear H hp c3
   go_wp2
   go_ret
   exact ⟨by rw [H'.out];rfl,HB.out⟩

/-! ### impl_Heap_place: function 68 -/
theorem impl_Heap_place.test (b0:Int) (b1:Int) (b2:Int) (x:Int) (g:Nat) (w:World) (hc:w.cell? ⟨g,0,none⟩=some (.int .i64 x)) (hg:g < w.heap.size) :
  Calls Try.prog 101 #[.agg #[.int .i64 b0,.int .i64 b1,.int .i64 b2],.pointer (some ⟨g,0,none⟩)] w fun e w'=>e = .returned (.bool (b2 == x))∧Below w.heap.size w w':=by
 have hu:=Try.underlying86
 go_enter Try.func101,Try.ntmps101
 go_wp2
 go_ret
 exact ⟨rfl,(Below.refl _ _).alloc (Nat.le_refl _) _⟩
def impl_Heap_place.f (l0_0:List (S86)) (a0_1:Int) (a1:Int):Option (Int):=some (findI (fun d:S86=>d.f2 == a1) l0_0 0)
set_option maxHeartbeats 8000000 in
set_option maxRecDepth 100000 in
theorem impl_Heap_place.calls (A0_0:Option Addr) (c0_0:Nat) (l0_0:List (S86)) (a0_1:Int) (a1:Int) (r:Int) (w:World) (hr0_0:Kd.C k86 w A0_0 l0_0.length l0_0) (hc0_0:l0_0.length≤c0_0) (h:impl_Heap_place.f l0_0 a0_1 a1=some r) :
  Calls Try.prog 68 #[.agg #[.slice A0_0 l0_0.length c0_0,.int .i64 a0_1],.int .i64 a1] w fun e w'=>e = .returned (.int .i64 r)∧Below w.heap.size w w':=by
 obtain rfl:=Option.some.inj h
 have hu28:=Try.underlying44
 have HR0:=Aside0.mk hr0_0
 have HC0:=Aside0.mk hc0_0
 clear hr0_0 hc0_0 h
 go_enter Try.func68,Try.ntmps68
 go_wp2_with fail
 refine (impl_Due.any (fun d:S86=>d.f2 == a1) 101 #[.pointer (some ⟨w.heap.size + 1,0,none⟩)] A0_0 c0_0 l0_0 _ (by repeat (first|exact HR0.out|(with_reducible refine Kd.C_alloc ?_ _))) HC0.out (enters_of' Try.func101 (by kernel_rfl) rfl) (fun W x hb=>(impl_Heap_place.test x.f0 x.f1 x.f2 a1 (w.heap.size + 1) W ?cell ?lt))).mono ?_
 case cell=>exact (hb.cell (p:=⟨w.heap.size + 1,0,none⟩) (by simp)).trans (by simp)
 case lt=>have:=hb.size;simp at this;omega
 rintro e w' ⟨rfl,hb⟩
 go_wp2
 go_ret
 exact ⟨rfl,((((Below.refl _ _).alloc (Nat.le_refl _) _).alloc (by simp) _).trans (hb.mono (by simp;omega)))⟩

/-! ### impl_LineOk: function 22 -/
mutual
def impl_LineOk.j0:Nat→Bool→List (S97)→Int→Int→Int→Int→List (S86)→Int→Option (Bool)
 | 0,_,_,_,_,_,_,_,_=>none
 | k + 1,x24,x312000,x312001,x312002,x312003,x312004,x312005,x312006=>if x24=true then (some false) else ((impl_ListQueue.f k x312000 x312001 x312002 x312003 x312004).bind fun t314=>(impl_LineOk.l0 k t314 (t314.length:Int) 0 x312000 x312001 x312002 x312003 x312004 x312005 x312006))
def impl_LineOk.l0:Nat→List Int→Int→Int→List (S97)→Int→Int→Int→Int→List (S86)→Int→Option (Bool)
 | 0,_,_,_,_,_,_,_,_,_,_=>none
 | k + 1,x27,x28,x29,x312000,x312001,x312002,x312003,x312004,x312005,x312006=>if x29 < x28 then (if 0≤x29 then (if x29 < (x27.length:Int) then ((impl_Heap_place.f x312005 x312006 (rd x27 x29)).bind fun t318=>(if t318 < 0 then (some false) else (impl_LineOk.l0 k x27 x28 (wrap64 (x29 + 1)) x312000 x312001 x312002 x312003 x312004 x312005 x312006))) else (none)) else (none)) else (some true)
end
def impl_LineOk.f (k:Nat) (l0_0:List (S97)) (a0_1:Int) (a0_2:Int) (a0_3:Int) (a0_4:Int) (l0_5:List (S86)) (a0_6:Int):Option (Bool):=(impl_QueueOk.f k l0_0 a0_1 a0_2 a0_3 a0_4).bind fun t312=>(if t312=true then ((impl_HeapOk.f k l0_5 a0_6).bind fun t313=>(if t313=true then (impl_LineOk.j0 k ((l0_5.length:Int) != a0_4) l0_0 a0_1 a0_2 a0_3 a0_4 l0_5 a0_6) else (impl_LineOk.j0 k true l0_0 a0_1 a0_2 a0_3 a0_4 l0_5 a0_6))) else (impl_LineOk.j0 k true l0_0 a0_1 a0_2 a0_3 a0_4 l0_5 a0_6))
theorem impl_LineOk.mono_l:∀ k,(∀ y0 y1 y2 y3 y4 y5 y6 y7,LeO (impl_LineOk.j0 k y0 y1 y2 y3 y4 y5 y6 y7) (impl_LineOk.j0 (k + 1) y0 y1 y2 y3 y4 y5 y6 y7))∧(∀ y0 y1 y2 y3 y4 y5 y6 y7 y8 y9,LeO (impl_LineOk.l0 k y0 y1 y2 y3 y4 y5 y6 y7 y8 y9) (impl_LineOk.l0 (k + 1) y0 y1 y2 y3 y4 y5 y6 y7 y8 y9))
 | 0=>⟨fun _ _ _ _ _ _ _ _ r h=>by simp [impl_LineOk.j0] at h,fun _ _ _ _ _ _ _ _ _ _ r h=>by simp [impl_LineOk.l0] at h⟩
 | k + 1=>by
  obtain ⟨ih0,ih1⟩:=impl_LineOk.mono_l k
  refine ⟨?_,?_⟩
  ·intro y0 y1 y2 y3 y4 y5 y6 y7
   unfold impl_LineOk.j0
   repeat' first
   | (with_reducible exact ih0 _ _ _ _ _ _ _ _)
   | (with_reducible exact ih1 _ _ _ _ _ _ _ _ _ _)
   | (with_reducible exact impl_HeapOk.mono _ _ _)
   | (with_reducible exact impl_ListQueue.mono _ _ _ _ _ _)
   | (with_reducible exact impl_QueueOk.mono _ _ _ _ _ _)
   | (with_reducible exact LeO.refl _)
   | (with_reducible exact LeO.none _)
   | (with_reducible refine LeO.ite ?_ ?_)
   | (with_reducible refine LeO.bind ?_ (fun _=>?_))
   | exact ih0 _ _ _ _ _ _ _ _
   | exact ih1 _ _ _ _ _ _ _ _ _ _
   | exact impl_HeapOk.mono _ _ _
   | exact impl_ListQueue.mono _ _ _ _ _ _
   | exact impl_QueueOk.mono _ _ _ _ _ _
   | exact LeO.none _
   | refine LeO.ite ?_ ?_
   | refine LeO.bind ?_ (fun _=>?_)
  ·intro y0 y1 y2 y3 y4 y5 y6 y7 y8 y9
   unfold impl_LineOk.l0
   repeat' first
   | (with_reducible exact ih0 _ _ _ _ _ _ _ _)
   | (with_reducible exact ih1 _ _ _ _ _ _ _ _ _ _)
   | (with_reducible exact impl_HeapOk.mono _ _ _)
   | (with_reducible exact impl_ListQueue.mono _ _ _ _ _ _)
   | (with_reducible exact impl_QueueOk.mono _ _ _ _ _ _)
   | (with_reducible exact LeO.refl _)
   | (with_reducible exact LeO.none _)
   | (with_reducible refine LeO.ite ?_ ?_)
   | (with_reducible refine LeO.bind ?_ (fun _=>?_))
   | exact ih0 _ _ _ _ _ _ _ _
   | exact ih1 _ _ _ _ _ _ _ _ _ _
   | exact impl_HeapOk.mono _ _ _
   | exact impl_ListQueue.mono _ _ _ _ _ _
   | exact impl_QueueOk.mono _ _ _ _ _ _
   | exact LeO.none _
   | refine LeO.ite ?_ ?_
   | refine LeO.bind ?_ (fun _=>?_)
theorem impl_LineOk.mono:∀ a0 a1 a2 a3 a4 a5 a6 k,LeO (impl_LineOk.f k a0 a1 a2 a3 a4 a5 a6) (impl_LineOk.f (k + 1) a0 a1 a2 a3 a4 a5 a6):=by
 intro a0 a1 a2 a3 a4 a5 a6 k
 obtain ⟨ih0,ih1⟩:=impl_LineOk.mono_l k
 unfold impl_LineOk.f
 repeat' first
   | (with_reducible exact ih0 _ _ _ _ _ _ _ _)
   | (with_reducible exact ih1 _ _ _ _ _ _ _ _ _ _)
   | (with_reducible exact impl_HeapOk.mono _ _ _)
   | (with_reducible exact impl_ListQueue.mono _ _ _ _ _ _)
   | (with_reducible exact impl_QueueOk.mono _ _ _ _ _ _)
   | (with_reducible exact LeO.refl _)
   | (with_reducible exact LeO.none _)
   | (with_reducible refine LeO.ite ?_ ?_)
   | (with_reducible refine LeO.bind ?_ (fun _=>?_))
   | exact ih0 _ _ _ _ _ _ _ _
   | exact ih1 _ _ _ _ _ _ _ _ _ _
   | exact impl_HeapOk.mono _ _ _
   | exact impl_ListQueue.mono _ _ _ _ _ _
   | exact impl_QueueOk.mono _ _ _ _ _ _
   | exact LeO.none _
   | refine LeO.ite ?_ ?_
   | refine LeO.bind ?_ (fun _=>?_)
set_option maxHeartbeats 8000000 in
set_option maxRecDepth 100000 in
theorem impl_LineOk.calls (k:Nat) (A0_0:Option Addr) (c0_0:Nat) (l0_0:List (S97)) (a0_1:Int) (a0_2:Int) (a0_3:Int) (a0_4:Int) (A0_5:Option Addr) (c0_5:Nat) (l0_5:List (S86)) (a0_6:Int) (r:Bool) (w:World) (hr0_0:Kd.C k97 w A0_0 l0_0.length l0_0) (hc0_0:l0_0.length≤c0_0) (hr0_5:Kd.C k86 w A0_5 l0_5.length l0_5) (hc0_5:l0_5.length≤c0_5) (h:impl_LineOk.f k l0_0 a0_1 a0_2 a0_3 a0_4 l0_5 a0_6=some r) :
  Calls Try.prog 22 #[.agg #[.slice A0_0 l0_0.length c0_0,.int .i64 a0_1,.int .i64 a0_2,.int .i64 a0_3,.int .i64 a0_4,.slice A0_5 l0_5.length c0_5,.int .i64 a0_6]] w fun e w'=>e = .returned (.bool r)∧Below w.heap.size w w':=by
 have hu46:=Try.underlying46
 have hu28:=Try.underlying28
 have hu44:=Try.underlying44
 have HR0_0:=Aside0.mk hr0_0
 have HC0_0:=Aside0.mk hc0_0
 clear hr0_0 hc0_0
 have HR0_5:=Aside0.mk hr0_5
 have HC0_5:=Aside0.mk hc0_5
 clear hr0_5 hc0_5
 have HB:=Aside0.mk (Below.refl w.heap.size w)
 have H:((impl_QueueOk.f k l0_0 a0_1 a0_2 a0_3 a0_4).bind fun t312=>(if t312=true then ((impl_HeapOk.f k l0_5 a0_6).bind fun t313=>(if t313=true then (impl_LineOk.j0 k ((l0_5.length:Int) != a0_4) l0_0 a0_1 a0_2 a0_3 a0_4 l0_5 a0_6) else (impl_LineOk.j0 k true l0_0 a0_1 a0_2 a0_3 a0_4 l0_5 a0_6))) else (impl_LineOk.j0 k true l0_0 a0_1 a0_2 a0_3 a0_4 l0_5 a0_6)))=some r:=h
 clear h
 have HC2:=Aside0.mk H
 clear H
 go_enter Try.func22,Try.ntmps22
 go_upto_region 1 with (first|((with_reducible refine gate_dst (N:=1) rfl ?_);(try (refine gate_guard (by rfl) ?_;dsimp only));refine box_event ?hg (N:=1) ?hd (cs:=#[.slice A0_0 l0_0.length c0_0,.int .i64 a0_1,.int .i64 a0_2,.int .i64 a0_3,.int .i64 a0_4,.slice A0_5 l0_5.length c0_5,.int .i64 a0_6]) (t:=46) ?hr ?_;(case hd=>rfl);(case hg=>rfl);(case hr=>first|(go_simp;done)|(go_simp;rfl));intro gb311 hg w3 hbox hb;have BK311:=Aside0.mk (hbox);have GW311:=Aside0.mk ((by rw [hg];exact (below_size bl):w.heap.size≤gb311));have GE311:=GW311;replace HB:=Aside0.mk (below_step bl hb);clear hb hbox hg))
 (try simp only [Act.put,List.setIfInBounds_toArray,List.set_cons_zero,List.set_cons_succ])
 go_cut [24] (fun v24 wc=>∃ (kq:Nat) (x24_1:Bool),v24 = .bool x24_1∧Aside0 (impl_LineOk.j0 kq x24_1 l0_0 a0_1 a0_2 a0_3 a0_4 l0_5 a0_6=some r)∧Aside0 (kq≤k)∧Aside0 (wc.heap[gb311]? = some (.cells #[(.slice A0_0 l0_0.length c0_0),.int .i64 a0_1,.int .i64 a0_2,.int .i64 a0_3,.int .i64 a0_4,(.slice A0_5 l0_5.length c0_5),.int .i64 a0_6] 46 (0,0)))∧Aside0 (Below w.heap.size w wc))
 case first =>
  have H:=HC2.out
  clear HC2
  replace H:=Option.bind_eq_some_iff.mp H
  obtain ⟨t312,A40,H⟩:=H
  have A4:=Aside0.mk A40
  clear A40
  by_cases c5:t312=true
  ·subst c5
   rw [if_pos rfl] at H
   replace H:=Option.bind_eq_some_iff.mp H
   obtain ⟨t313,A60,H⟩:=H
   have A6:=Aside0.mk A60
   clear A60
   by_cases c7:t313=true
   ·subst c7
    rw [if_pos rfl] at H
    have H':=Aside0.mk H
    clear H
    obtain ⟨hcz8_0,hcz8_1,hcz8_2,hcz8_3,hcz8_4,hcz8_5,hcz8_6,hfz8_0,hfz8_1,hfz8_2,hfz8_3,hfz8_4,hfz8_5,hfz8_6⟩:=ck7 BK311.out
    go_wp2_with (first|((with_reducible refine gate_callee (f:=65) rfl ?_);refine goesL_ (some 7) rfl rfl Try.func65 (by kernel_rfl) rfl #[.agg #[.slice A0_0 l0_0.length c0_0,.int .i64 a0_1,.int .i64 a0_2,.int .i64 a0_3,.int .i64 a0_4]] rfl (by (try simp only [List.map_toArray,List.map_cons,List.map_nil]);first|done|rfl|(simp only [List.length_drop,List.length_take];rfl)) ?_;(with_reducible refine (impl_QueueOk.calls k _ _ l0_0 a0_1 a0_2 a0_3 a0_4 true _ ?side1 ?side2 A4.out).mono ?_);(case side1=>repeat (first|exact (Kd.C_below HR0_0.out HB.out)|(with_reducible refine Kd.C_alloc ?_ _)|(with_reducible refine Kd.C_drewN ?_ _)|(with_reducible refine Kd.C_drew ?_)));(case side2=>exact HC0_0.out);rintro e w9 ⟨rfl,hb⟩;refine ⟨_,rfl,?_⟩;have n0_:=Aside0.mk (blk_below (bk BK311) hb);have n1_:=Aside0.mk (below_step bl hb);clear BK311;clear HB;have BK311:=n0_;have HB:=n1_;clear n0_ n1_;(try clear hb);(try clear hb2);(try clear hk);(try clear hi);have hcz10_0:w9.cell? ⟨gb311,0,none⟩=some (.slice A0_0 l0_0.length c0_0):=(blk_cell BK311.out 0).trans rfl;have hcz10_1:w9.cell? ⟨gb311,1,none⟩=some (.int .i64 a0_1):=(blk_cell BK311.out 1).trans rfl;have hcz10_2:w9.cell? ⟨gb311,2,none⟩=some (.int .i64 a0_2):=(blk_cell BK311.out 2).trans rfl;have hcz10_3:w9.cell? ⟨gb311,3,none⟩=some (.int .i64 a0_3):=(blk_cell BK311.out 3).trans rfl;have hcz10_4:w9.cell? ⟨gb311,4,none⟩=some (.int .i64 a0_4):=(blk_cell BK311.out 4).trans rfl;have hcz10_5:w9.cell? ⟨gb311,5,none⟩=some (.slice A0_5 l0_5.length c0_5):=(blk_cell BK311.out 5).trans rfl;have hcz10_6:w9.cell? ⟨gb311,6,none⟩=some (.int .i64 a0_6):=(blk_cell BK311.out 6).trans rfl;have hfz10_0:=blk_frozen BK311.out 0;have hfz10_1:=blk_frozen BK311.out 1;have hfz10_2:=blk_frozen BK311.out 2;have hfz10_3:=blk_frozen BK311.out 3;have hfz10_4:=blk_frozen BK311.out 4;have hfz10_5:=blk_frozen BK311.out 5;have hfz10_6:=blk_frozen BK311.out 6)|(go_at_call 66;(with_reducible refine (impl_HeapOk.calls k _ _ l0_5 a0_6 true _ ?side1 ?side2 A6.out).mono ?_);(case side1=>repeat (first|exact (Kd.C_below HR0_5.out HB.out)|(with_reducible refine Kd.C_alloc ?_ _)|(with_reducible refine Kd.C_drewN ?_ _)|(with_reducible refine Kd.C_drew ?_)));(case side2=>exact HC0_5.out);rintro e w11 ⟨rfl,hb⟩;have n0_:=Aside0.mk (blk_below (bk BK311) hb);have n1_:=Aside0.mk (below_step bl hb);clear BK311;clear HB;have BK311:=n0_;have HB:=n1_;clear n0_ n1_;(try clear hb);(try clear hb2);(try clear hk);(try clear hi);have hcz12_0:w11.cell? ⟨gb311,0,none⟩=some (.slice A0_0 l0_0.length c0_0):=(blk_cell BK311.out 0).trans rfl;have hcz12_1:w11.cell? ⟨gb311,1,none⟩=some (.int .i64 a0_1):=(blk_cell BK311.out 1).trans rfl;have hcz12_2:w11.cell? ⟨gb311,2,none⟩=some (.int .i64 a0_2):=(blk_cell BK311.out 2).trans rfl;have hcz12_3:w11.cell? ⟨gb311,3,none⟩=some (.int .i64 a0_3):=(blk_cell BK311.out 3).trans rfl;have hcz12_4:w11.cell? ⟨gb311,4,none⟩=some (.int .i64 a0_4):=(blk_cell BK311.out 4).trans rfl;have hcz12_5:w11.cell? ⟨gb311,5,none⟩=some (.slice A0_5 l0_5.length c0_5):=(blk_cell BK311.out 5).trans rfl;have hcz12_6:w11.cell? ⟨gb311,6,none⟩=some (.int .i64 a0_6):=(blk_cell BK311.out 6).trans rfl;have hfz12_0:=blk_frozen BK311.out 0;have hfz12_1:=blk_frozen BK311.out 1;have hfz12_2:=blk_frozen BK311.out 2;have hfz12_3:=blk_frozen BK311.out 3;have hfz12_4:=blk_frozen BK311.out 4;have hfz12_5:=blk_frozen BK311.out 5;have hfz12_6:=blk_frozen BK311.out 6))
    go_meet
    case rel=>exact ⟨_,(((l0_5.length:Int) != a0_4)),(by first|rfl|(simp;done)|(simp [*];done)),H',⟨by first|omega|exact Nat.le_refl _⟩,⟨bk BK311⟩,⟨bl⟩⟩
   ·replace c7:=Bool.eq_false_iff.mpr c7
    subst c7
    rw [if_neg nft] at H
    have H':=Aside0.mk H
    clear H
    obtain ⟨hcz13_0,hcz13_1,hcz13_2,hcz13_3,hcz13_4,hcz13_5,hcz13_6,hfz13_0,hfz13_1,hfz13_2,hfz13_3,hfz13_4,hfz13_5,hfz13_6⟩:=ck7 BK311.out
    go_wp2_with (first|((with_reducible refine gate_callee (f:=65) rfl ?_);refine goesL_ (some 7) rfl rfl Try.func65 (by kernel_rfl) rfl #[.agg #[.slice A0_0 l0_0.length c0_0,.int .i64 a0_1,.int .i64 a0_2,.int .i64 a0_3,.int .i64 a0_4]] rfl (by (try simp only [List.map_toArray,List.map_cons,List.map_nil]);first|done|rfl|(simp only [List.length_drop,List.length_take];rfl)) ?_;(with_reducible refine (impl_QueueOk.calls k _ _ l0_0 a0_1 a0_2 a0_3 a0_4 true _ ?side1 ?side2 A4.out).mono ?_);(case side1=>repeat (first|exact (Kd.C_below HR0_0.out HB.out)|(with_reducible refine Kd.C_alloc ?_ _)|(with_reducible refine Kd.C_drewN ?_ _)|(with_reducible refine Kd.C_drew ?_)));(case side2=>exact HC0_0.out);rintro e w14 ⟨rfl,hb⟩;refine ⟨_,rfl,?_⟩;have n0_:=Aside0.mk (blk_below (bk BK311) hb);have n1_:=Aside0.mk (below_step bl hb);clear BK311;clear HB;have BK311:=n0_;have HB:=n1_;clear n0_ n1_;(try clear hb);(try clear hb2);(try clear hk);(try clear hi);have hcz15_0:w14.cell? ⟨gb311,0,none⟩=some (.slice A0_0 l0_0.length c0_0):=(blk_cell BK311.out 0).trans rfl;have hcz15_1:w14.cell? ⟨gb311,1,none⟩=some (.int .i64 a0_1):=(blk_cell BK311.out 1).trans rfl;have hcz15_2:w14.cell? ⟨gb311,2,none⟩=some (.int .i64 a0_2):=(blk_cell BK311.out 2).trans rfl;have hcz15_3:w14.cell? ⟨gb311,3,none⟩=some (.int .i64 a0_3):=(blk_cell BK311.out 3).trans rfl;have hcz15_4:w14.cell? ⟨gb311,4,none⟩=some (.int .i64 a0_4):=(blk_cell BK311.out 4).trans rfl;have hcz15_5:w14.cell? ⟨gb311,5,none⟩=some (.slice A0_5 l0_5.length c0_5):=(blk_cell BK311.out 5).trans rfl;have hcz15_6:w14.cell? ⟨gb311,6,none⟩=some (.int .i64 a0_6):=(blk_cell BK311.out 6).trans rfl;have hfz15_0:=blk_frozen BK311.out 0;have hfz15_1:=blk_frozen BK311.out 1;have hfz15_2:=blk_frozen BK311.out 2;have hfz15_3:=blk_frozen BK311.out 3;have hfz15_4:=blk_frozen BK311.out 4;have hfz15_5:=blk_frozen BK311.out 5;have hfz15_6:=blk_frozen BK311.out 6)|(go_at_call 66;(with_reducible refine (impl_HeapOk.calls k _ _ l0_5 a0_6 false _ ?side1 ?side2 A6.out).mono ?_);(case side1=>repeat (first|exact (Kd.C_below HR0_5.out HB.out)|(with_reducible refine Kd.C_alloc ?_ _)|(with_reducible refine Kd.C_drewN ?_ _)|(with_reducible refine Kd.C_drew ?_)));(case side2=>exact HC0_5.out);rintro e w16 ⟨rfl,hb⟩;have n0_:=Aside0.mk (blk_below (bk BK311) hb);have n1_:=Aside0.mk (below_step bl hb);clear BK311;clear HB;have BK311:=n0_;have HB:=n1_;clear n0_ n1_;(try clear hb);(try clear hb2);(try clear hk);(try clear hi)))
    go_meet
    case rel=>exact ⟨_,(true),(by first|rfl|(simp;done)|(simp [*];done)),H',⟨by first|omega|exact Nat.le_refl _⟩,⟨bk BK311⟩,⟨bl⟩⟩
  ·replace c5:=Bool.eq_false_iff.mpr c5
   subst c5
   rw [if_neg nft] at H
   have H':=Aside0.mk H
   clear H
   obtain ⟨hcz17_0,hcz17_1,hcz17_2,hcz17_3,hcz17_4,hcz17_5,hcz17_6,hfz17_0,hfz17_1,hfz17_2,hfz17_3,hfz17_4,hfz17_5,hfz17_6⟩:=ck7 BK311.out
   go_wp2_with (first|((with_reducible refine gate_callee (f:=65) rfl ?_);refine goesL_ (some 7) rfl rfl Try.func65 (by kernel_rfl) rfl #[.agg #[.slice A0_0 l0_0.length c0_0,.int .i64 a0_1,.int .i64 a0_2,.int .i64 a0_3,.int .i64 a0_4]] rfl (by (try simp only [List.map_toArray,List.map_cons,List.map_nil]);first|done|rfl|(simp only [List.length_drop,List.length_take];rfl)) ?_;(with_reducible refine (impl_QueueOk.calls k _ _ l0_0 a0_1 a0_2 a0_3 a0_4 false _ ?side1 ?side2 A4.out).mono ?_);(case side1=>repeat (first|exact (Kd.C_below HR0_0.out HB.out)|(with_reducible refine Kd.C_alloc ?_ _)|(with_reducible refine Kd.C_drewN ?_ _)|(with_reducible refine Kd.C_drew ?_)));(case side2=>exact HC0_0.out);rintro e w18 ⟨rfl,hb⟩;refine ⟨_,rfl,?_⟩;have n0_:=Aside0.mk (blk_below (bk BK311) hb);have n1_:=Aside0.mk (below_step bl hb);clear BK311;clear HB;have BK311:=n0_;have HB:=n1_;clear n0_ n1_;(try clear hb);(try clear hb2);(try clear hk);(try clear hi)))
   go_meet
   case rel=>exact ⟨_,(true),(by first|rfl|(simp;done)|(simp [*];done)),H',⟨by first|omega|exact Nat.le_refl _⟩,⟨bk BK311⟩,⟨bl⟩⟩
 case rest =>
  clear HC2
  try clear c2
  try clear p2
  try clear c5
  try clear c6
  try clear c7
  try clear hcz10_0
  try clear hcz10_1
  try clear hcz10_2
  try clear hcz10_3
  try clear hcz10_4
  try clear hcz10_5
  try clear hcz10_6
  try clear hcz12_0
  try clear hcz12_1
  try clear hcz12_2
  try clear hcz12_3
  try clear hcz12_4
  try clear hcz12_5
  try clear hcz12_6
  try clear hcz13_0
  try clear hcz13_1
  try clear hcz13_2
  try clear hcz13_3
  try clear hcz13_4
  try clear hcz13_5
  try clear hcz13_6
  try clear hcz15_0
  try clear hcz15_1
  try clear hcz15_2
  try clear hcz15_3
  try clear hcz15_4
  try clear hcz15_5
  try clear hcz15_6
  try clear hcz17_0
  try clear hcz17_1
  try clear hcz17_2
  try clear hcz17_3
  try clear hcz17_4
  try clear hcz17_5
  try clear hcz17_6
  try clear hcz8_0
  try clear hcz8_1
  try clear hcz8_2
  try clear hcz8_3
  try clear hcz8_4
  try clear hcz8_5
  try clear hcz8_6
  try clear hfz10_0
  try clear hfz10_1
  try clear hfz10_2
  try clear hfz10_3
  try clear hfz10_4
  try clear hfz10_5
  try clear hfz10_6
  try clear hfz12_0
  try clear hfz12_1
  try clear hfz12_2
  try clear hfz12_3
  try clear hfz12_4
  try clear hfz12_5
  try clear hfz12_6
  try clear hfz13_0
  try clear hfz13_1
  try clear hfz13_2
  try clear hfz13_3
  try clear hfz13_4
  try clear hfz13_5
  try clear hfz13_6
  try clear hfz15_0
  try clear hfz15_1
  try clear hfz15_2
  try clear hfz15_3
  try clear hfz15_4
  try clear hfz15_5
  try clear hfz15_6
  try clear hfz17_0
  try clear hfz17_1
  try clear hfz17_2
  try clear hfz17_3
  try clear hfz17_4
  try clear hfz17_5
  try clear hfz17_6
  try clear hfz8_0
  try clear hfz8_1
  try clear hfz8_2
  try clear hfz8_3
  try clear hfz8_4
  try clear hfz8_5
  try clear hfz8_6
  obtain ⟨kq,x24_1,rfl,HA,HJ1,BK311,HB⟩:=hcut
  cases kq with
  | zero=>exact absurd HA.out (by simp [impl_LineOk.j0])
  | succ kj1 =>
   have H:=HA.out
   clear HA
   simp only [impl_LineOk.j0] at H
   by_cases c19:x24_1=true
   ·subst c19
    rw [if_pos rfl] at H
    obtain rfl:=Option.some.inj H
    go_wp2
    go_ret
    exact ⟨by first|rfl|(simp [errW_none,errW_some] <;> rfl)|(simp [*,errW_none,errW_some] <;> rfl),bl⟩
   ·replace c19:=Bool.eq_false_iff.mpr c19
    subst c19
    rw [if_neg nft] at H
    replace H:=Option.bind_eq_some_iff.mp H
    obtain ⟨t314,A200,H⟩:=H
    have A20:=Aside0.mk A200
    clear A200
    have H':=Aside0.mk H
    clear H
    obtain ⟨hcz21_0,hcz21_1,hcz21_2,hcz21_3,hcz21_4,hcz21_5,hcz21_6,hfz21_0,hfz21_1,hfz21_2,hfz21_3,hfz21_4,hfz21_5,hfz21_6⟩:=ck7 BK311.out
    go_wp2_with (first|((with_reducible refine gate_callee (f:=67) rfl ?_);refine goesL_ (some 27) rfl rfl Try.func67 (by kernel_rfl) rfl #[.agg #[.slice A0_0 l0_0.length c0_0,.int .i64 a0_1,.int .i64 a0_2,.int .i64 a0_3,.int .i64 a0_4]] rfl (by (try simp only [List.map_toArray,List.map_cons,List.map_nil]);first|done|rfl|(simp only [List.length_drop,List.length_take];rfl)) ?_;(with_reducible refine (impl_ListQueue.calls kj1 _ _ l0_0 a0_1 a0_2 a0_3 a0_4 t314 _ ?side1 ?side2 A20.out).mono ?_);(case side1=>repeat (first|exact (Kd.C_below HR0_0.out HB.out)|(with_reducible refine Kd.C_alloc ?_ _)|(with_reducible refine Kd.C_drewN ?_ _)|(with_reducible refine Kd.C_drew ?_)));(case side2=>exact HC0_0.out);rintro e w22 ⟨v315,rfl,ho0,hb⟩;refine ⟨_,rfl,?_⟩;have n0_:=Aside0.mk (Kd.R_lower ho0 (below_size bl));have n1_:=Aside0.mk (blk_below (bk BK311) hb);have n2_:=Aside0.mk (below_step bl hb);clear BK311;clear HB;have HO316:=n0_;have BK311:=n1_;have HB:=n2_;clear n0_ n1_ n2_;(try clear hb);(try clear hb2);(try clear hk);(try clear hi);(try clear ho0);obtain ⟨Ao23,co23,eo23⟩:=Kd.R_slice HO316.out;subst eo23))
    go_loopg [29] kj1 (fun kq v29 w'=>∃ (x29_2:Int),v29 = .int .i64 x29_2∧Aside0 (impl_LineOk.l0 kq t314 (t314.length:Int) x29_2 l0_0 a0_1 a0_2 a0_3 a0_4 l0_5 a0_6=some r)∧Aside0 (kq≤kj1)∧Aside0 (Kd.R (Kd.int .i64) 3 w' w.heap.size (fun _=>True) (.slice Ao23 t314.length co23) t314)∧Aside0 (w'.heap[gb311]? = some (.cells #[(.slice A0_0 l0_0.length c0_0),.int .i64 a0_1,.int .i64 a0_2,.int .i64 a0_3,.int .i64 a0_4,(.slice A0_5 l0_5.length c0_5),.int .i64 a0_6] 46 (0,0)))∧Aside0 (Below w.heap.size w w'))
    case atStart=>exact ⟨(0),(by first|rfl|(simp;done)|(simp [*];done)),H',⟨Nat.le_refl _⟩,⟨by (with_reducible repeat (first|apply Kd.R_alloc|apply Kd.R_drewN|apply Kd.R_drew));exact HO316.out⟩,⟨bk BK311⟩,⟨bl⟩⟩
    case round =>
     clear H'
     try clear c1
     try clear c2
     try clear p2
     try clear c5
     try clear c6
     try clear c7
     try clear c19
     try clear c22
     try clear hcz10_0
     try clear hcz10_1
     try clear hcz10_2
     try clear hcz10_3
     try clear hcz10_4
     try clear hcz10_5
     try clear hcz10_6
     try clear hcz12_0
     try clear hcz12_1
     try clear hcz12_2
     try clear hcz12_3
     try clear hcz12_4
     try clear hcz12_5
     try clear hcz12_6
     try clear hcz13_0
     try clear hcz13_1
     try clear hcz13_2
     try clear hcz13_3
     try clear hcz13_4
     try clear hcz13_5
     try clear hcz13_6
     try clear hcz15_0
     try clear hcz15_1
     try clear hcz15_2
     try clear hcz15_3
     try clear hcz15_4
     try clear hcz15_5
     try clear hcz15_6
     try clear hcz17_0
     try clear hcz17_1
     try clear hcz17_2
     try clear hcz17_3
     try clear hcz17_4
     try clear hcz17_5
     try clear hcz17_6
     try clear hcz21_0
     try clear hcz21_1
     try clear hcz21_2
     try clear hcz21_3
     try clear hcz21_4
     try clear hcz21_5
     try clear hcz21_6
     try clear hcz8_0
     try clear hcz8_1
     try clear hcz8_2
     try clear hcz8_3
     try clear hcz8_4
     try clear hcz8_5
     try clear hcz8_6
     try clear hfz10_0
     try clear hfz10_1
     try clear hfz10_2
     try clear hfz10_3
     try clear hfz10_4
     try clear hfz10_5
     try clear hfz10_6
     try clear hfz12_0
     try clear hfz12_1
     try clear hfz12_2
     try clear hfz12_3
     try clear hfz12_4
     try clear hfz12_5
     try clear hfz12_6
     try clear hfz13_0
     try clear hfz13_1
     try clear hfz13_2
     try clear hfz13_3
     try clear hfz13_4
     try clear hfz13_5
     try clear hfz13_6
     try clear hfz15_0
     try clear hfz15_1
     try clear hfz15_2
     try clear hfz15_3
     try clear hfz15_4
     try clear hfz15_5
     try clear hfz15_6
     try clear hfz17_0
     try clear hfz17_1
     try clear hfz17_2
     try clear hfz17_3
     try clear hfz17_4
     try clear hfz17_5
     try clear hfz17_6
     try clear hfz21_0
     try clear hfz21_1
     try clear hfz21_2
     try clear hfz21_3
     try clear hfz21_4
     try clear hfz21_5
     try clear hfz21_6
     try clear hfz8_0
     try clear hfz8_1
     try clear hfz8_2
     try clear hfz8_3
     try clear hfz8_4
     try clear hfz8_5
     try clear hfz8_6
     try clear p2
     obtain ⟨x29_2,rfl,HA,HK2,HO_27,BK311,HB⟩:=hrel
     cases gk with
     | zero=>exact absurd HA.out (by simp [impl_LineOk.l0])
     | succ k2 =>
      have H:=HA.out
      clear HA
      simp only [impl_LineOk.l0] at H
      by_cases c24:x29_2 < (t314.length:Int)
      ·rw [if_pos c24] at H
       have c24b0:decide (x29_2 < (t314.length:Int))=true:=decide_eq_true c24
       clear c24
       by_cases c25:0≤x29_2
       ·rw [if_pos c25] at H
        have c25b0:decide (0≤x29_2)=true:=decide_eq_true c25
        clear c25
        by_cases c26:x29_2 < (t314.length:Int)
        ·rw [if_pos c26] at H
         have c26b0:decide (x29_2 < (t314.length:Int))=true:=decide_eq_true c26
         clear c26
         replace H:=Option.bind_eq_some_iff.mp H
         obtain ⟨t318,A270,H⟩:=H
         have A27:=Aside0.mk A270
         clear A270
         by_cases c28:t318 < 0
         ·rw [if_pos c28] at H
          have c28b0:decide (t318 < 0)=true:=decide_eq_true c28
          clear c28
          obtain rfl:=Option.some.inj H
          have p317:0≤(x29_2:Int):=of_decide_eq_true (by first|(with_reducible assumption)|assumption)
          have q317:x29_2 < (t314.length:Int):=of_decide_eq_true (by first|(with_reducible assumption)|assumption)
          obtain ⟨ad317,e317,hx317_0⟩:=Kd.at_int (Kd.R_reads' HO_27.out).2.2 x29_2 p317 q317
          cases e317
          replace p317:=eq_true p317
          replace q317:=eq_true q317
          obtain ⟨hcz29_0,hcz29_1,hcz29_2,hcz29_3,hcz29_4,hcz29_5,hcz29_6,hfz29_0,hfz29_1,hfz29_2,hfz29_3,hfz29_4,hfz29_5,hfz29_6⟩:=ck7 BK311.out
          go_wp2_with (first|((with_reducible refine gate_callee (f:=68) rfl ?_);refine goesL_ (some 36) rfl rfl Try.func68 (by kernel_rfl) rfl #[.agg #[.slice A0_5 l0_5.length c0_5,.int .i64 a0_6],.int .i64 (rd t314 x29_2)] rfl (by (try simp only [List.map_toArray,List.map_cons,List.map_nil]);first|done|rfl|(simp only [List.length_drop,List.length_take];rfl)) ?_;(with_reducible refine (impl_Heap_place.calls _ _ l0_5 a0_6 (rd t314 x29_2) t318 _ ?side1 ?side2 A27.out).mono ?_);(case side1=>repeat (first|exact (Kd.C_below HR0_5.out HB.out)|(with_reducible refine Kd.C_alloc ?_ _)|(with_reducible refine Kd.C_drewN ?_ _)|(with_reducible refine Kd.C_drew ?_)));(case side2=>exact HC0_5.out);rintro e w30 ⟨rfl,hb⟩;refine ⟨_,rfl,?_⟩;have n0_:=Aside0.mk (Kd.R_below (by (with_reducible repeat (first|apply Kd.R_alloc|apply Kd.R_drewN|apply Kd.R_drew));exact HO_27.out) hb);have n1_:=Aside0.mk (blk_below (bk BK311) hb);have n2_:=Aside0.mk (below_step bl hb);clear HO_27;clear BK311;clear HB;have HO_27:=n0_;have BK311:=n1_;have HB:=n2_;clear n0_ n1_ n2_;(try clear hb);(try clear hb2);(try clear hk);(try clear hi)))
          go_ret
          exact ⟨by first|rfl|(simp [errW_none,errW_some] <;> rfl)|(simp [*,errW_none,errW_some] <;> rfl),bl⟩
         ·rw [if_neg c28] at H
          have c28b0:decide (t318 < 0)=false:=decide_eq_false c28
          clear c28
          have H':=Aside0.mk H
          clear H
          have p317:0≤(x29_2:Int):=of_decide_eq_true (by first|(with_reducible assumption)|assumption)
          have q317:x29_2 < (t314.length:Int):=of_decide_eq_true (by first|(with_reducible assumption)|assumption)
          obtain ⟨ad317,e317,hx317_0⟩:=Kd.at_int (Kd.R_reads' HO_27.out).2.2 x29_2 p317 q317
          cases e317
          replace p317:=eq_true p317
          replace q317:=eq_true q317
          obtain ⟨hcz31_0,hcz31_1,hcz31_2,hcz31_3,hcz31_4,hcz31_5,hcz31_6,hfz31_0,hfz31_1,hfz31_2,hfz31_3,hfz31_4,hfz31_5,hfz31_6⟩:=ck7 BK311.out
          go_wp2_with (first|((with_reducible refine gate_callee (f:=68) rfl ?_);refine goesL_ (some 36) rfl rfl Try.func68 (by kernel_rfl) rfl #[.agg #[.slice A0_5 l0_5.length c0_5,.int .i64 a0_6],.int .i64 (rd t314 x29_2)] rfl (by (try simp only [List.map_toArray,List.map_cons,List.map_nil]);first|done|rfl|(simp only [List.length_drop,List.length_take];rfl)) ?_;(with_reducible refine (impl_Heap_place.calls _ _ l0_5 a0_6 (rd t314 x29_2) t318 _ ?side1 ?side2 A27.out).mono ?_);(case side1=>repeat (first|exact (Kd.C_below HR0_5.out HB.out)|(with_reducible refine Kd.C_alloc ?_ _)|(with_reducible refine Kd.C_drewN ?_ _)|(with_reducible refine Kd.C_drew ?_)));(case side2=>exact HC0_5.out);rintro e w32 ⟨rfl,hb⟩;refine ⟨_,rfl,?_⟩;have n0_:=Aside0.mk (Kd.R_below (by (with_reducible repeat (first|apply Kd.R_alloc|apply Kd.R_drewN|apply Kd.R_drew));exact HO_27.out) hb);have n1_:=Aside0.mk (blk_below (bk BK311) hb);have n2_:=Aside0.mk (below_step bl hb);clear HO_27;clear BK311;clear HB;have HO_27:=n0_;have BK311:=n1_;have HB:=n2_;clear n0_ n1_ n2_;(try clear hb);(try clear hb2);(try clear hk);(try clear hi)))
          go_roundg k2
          case measure=>have:=HJ1.out;have:=HK2.out;omega
          case rel=>exact ⟨(wrap64 (x29_2 + 1)),(by first|rfl|(simp;done)|(simp [*];done)),H',⟨by have:=HJ1.out;have:=HK2.out;omega⟩,⟨by (with_reducible repeat (first|apply Kd.R_alloc|apply Kd.R_drewN|apply Kd.R_drew));exact HO_27.out⟩,⟨bk BK311⟩,⟨bl⟩⟩
        ·rw [if_neg c26] at H
         exact absurd H (by simp)
       ·rw [if_neg c25] at H
        exact absurd H (by simp)
      ·rw [if_neg c24] at H
       have c24b0:decide (x29_2 < (t314.length:Int))=false:=decide_eq_false c24
       clear c24
       obtain rfl:=Option.some.inj H
       go_wp2
       go_ret
       exact ⟨by first|rfl|(simp [errW_none,errW_some] <;> rfl)|(simp [*,errW_none,errW_some] <;> rfl),bl⟩

/-! ### impl_LineList: function 27 -/
def impl_LineList.f (k:Nat) (l0_0:List (S97)) (a0_1:Int) (a0_2:Int) (a0_3:Int) (a0_4:Int) (l0_5:List (S86)) (a0_6:Int):Option (List Int):=(impl_LineOk.f k l0_0 a0_1 a0_2 a0_3 a0_4 l0_5 a0_6).bind fun t320=>(if t320=true then ((impl_ListQueue.f k l0_0 a0_1 a0_2 a0_3 a0_4).bind fun t321=>(some t321)) else (some ([]:List Int)))
theorem impl_LineList.mono:∀ a0 a1 a2 a3 a4 a5 a6 k,LeO (impl_LineList.f k a0 a1 a2 a3 a4 a5 a6) (impl_LineList.f (k + 1) a0 a1 a2 a3 a4 a5 a6):=by
 intro a0 a1 a2 a3 a4 a5 a6 k
 unfold impl_LineList.f
 repeat' first
   | (with_reducible exact impl_LineOk.mono _ _ _ _ _ _ _ _)
   | (with_reducible exact impl_ListQueue.mono _ _ _ _ _ _)
   | (with_reducible exact LeO.refl _)
   | (with_reducible exact LeO.none _)
   | (with_reducible refine LeO.ite ?_ ?_)
   | (with_reducible refine LeO.bind ?_ (fun _=>?_))
   | exact impl_LineOk.mono _ _ _ _ _ _ _ _
   | exact impl_ListQueue.mono _ _ _ _ _ _
   | exact LeO.none _
   | refine LeO.ite ?_ ?_
   | refine LeO.bind ?_ (fun _=>?_)
set_option maxHeartbeats 8000000 in
set_option maxRecDepth 100000 in
theorem impl_LineList.calls (k:Nat) (A0_0:Option Addr) (c0_0:Nat) (l0_0:List (S97)) (a0_1:Int) (a0_2:Int) (a0_3:Int) (a0_4:Int) (A0_5:Option Addr) (c0_5:Nat) (l0_5:List (S86)) (a0_6:Int) (r:List Int) (w:World) (hr0_0:Kd.C k97 w A0_0 l0_0.length l0_0) (hc0_0:l0_0.length≤c0_0) (hr0_5:Kd.C k86 w A0_5 l0_5.length l0_5) (hc0_5:l0_5.length≤c0_5) (h:impl_LineList.f k l0_0 a0_1 a0_2 a0_3 a0_4 l0_5 a0_6=some r) :
  Calls Try.prog 27 #[.agg #[.slice A0_0 l0_0.length c0_0,.int .i64 a0_1,.int .i64 a0_2,.int .i64 a0_3,.int .i64 a0_4,.slice A0_5 l0_5.length c0_5,.int .i64 a0_6]] w fun e w'=>∃ v0_:Value,e = .returned (v0_)∧Kd.R (Kd.int .i64) 3 w' w.heap.size (fun _=>True) v0_ r∧Below w.heap.size w w':=by
 have hu46:=Try.underlying46
 have hu28:=Try.underlying28
 have HR0_0:=Aside0.mk hr0_0
 have HC0_0:=Aside0.mk hc0_0
 clear hr0_0 hc0_0
 have HR0_5:=Aside0.mk hr0_5
 have HC0_5:=Aside0.mk hc0_5
 clear hr0_5 hc0_5
 have HB:=Aside0.mk (Below.refl w.heap.size w)
 have H:((impl_LineOk.f k l0_0 a0_1 a0_2 a0_3 a0_4 l0_5 a0_6).bind fun t320=>(if t320=true then ((impl_ListQueue.f k l0_0 a0_1 a0_2 a0_3 a0_4).bind fun t321=>(some t321)) else (some ([]:List Int))))=some r:=h
 clear h
 replace H:=Option.bind_eq_some_iff.mp H
 obtain ⟨t320,A20,H⟩:=H
 have A2:=Aside0.mk A20
 clear A20
 by_cases c3:t320=true
 ·subst c3
  rw [if_pos rfl] at H
  replace H:=Option.bind_eq_some_iff.mp H
  obtain ⟨t321,A40,H⟩:=H
  have A4:=Aside0.mk A40
  clear A40
  obtain rfl:=Option.some.inj H
  go_enter Try.func27,Try.ntmps27
  go_wp2_with (first|((with_reducible refine gate_dst (N:=1) rfl ?_);refine box_event ?hg (N:=1) ?hd (cs:=#[.slice A0_0 l0_0.length c0_0,.int .i64 a0_1,.int .i64 a0_2,.int .i64 a0_3,.int .i64 a0_4,.slice A0_5 l0_5.length c0_5,.int .i64 a0_6]) (t:=46) ?hr ?_;(case hd=>rfl);(case hg=>rfl);(case hr=>first|(go_simp;done)|(go_simp;rfl));intro gb319 hg w5 hbox hb;have BK319:=Aside0.mk (hbox);have GW319:=Aside0.mk ((by rw [hg];exact (below_size bl):w.heap.size≤gb319));have GE319:=GW319;replace HB:=Aside0.mk (below_step bl hb);clear hb hbox hg;obtain ⟨hcz6_0,hcz6_1,hcz6_2,hcz6_3,hcz6_4,hcz6_5,hcz6_6,hfz6_0,hfz6_1,hfz6_2,hfz6_3,hfz6_4,hfz6_5,hfz6_6⟩:=ck7 BK319.out)|((with_reducible refine gate_callee (f:=22) rfl ?_);refine goesL_ (some 4) rfl rfl Try.func22 (by kernel_rfl) rfl #[.agg #[.slice A0_0 l0_0.length c0_0,.int .i64 a0_1,.int .i64 a0_2,.int .i64 a0_3,.int .i64 a0_4,.slice A0_5 l0_5.length c0_5,.int .i64 a0_6]] rfl (by (try simp only [List.map_toArray,List.map_cons,List.map_nil]);first|done|rfl|(simp only [List.length_drop,List.length_take];rfl)) ?_;(with_reducible refine (impl_LineOk.calls k _ _ l0_0 a0_1 a0_2 a0_3 a0_4 _ _ l0_5 a0_6 true _ ?side1 ?side2 ?side3 ?side4 A2.out).mono ?_);(case side1=>repeat (first|exact (Kd.C_below HR0_0.out HB.out)|(with_reducible refine Kd.C_alloc ?_ _)|(with_reducible refine Kd.C_drewN ?_ _)|(with_reducible refine Kd.C_drew ?_)));(case side2=>exact HC0_0.out);(case side3=>repeat (first|exact (Kd.C_below HR0_5.out HB.out)|(with_reducible refine Kd.C_alloc ?_ _)|(with_reducible refine Kd.C_drewN ?_ _)|(with_reducible refine Kd.C_drew ?_)));(case side4=>exact HC0_5.out);rintro e w7 ⟨rfl,hb⟩;refine ⟨_,rfl,?_⟩;replace BK319:=Aside0.mk (blk_below (bk BK319) hb);replace HB:=Aside0.mk (below_step bl hb);(try clear hb);(try clear hb2);(try clear hk);(try clear hi);obtain ⟨hcz8_0,hcz8_1,hcz8_2,hcz8_3,hcz8_4,hcz8_5,hcz8_6,hfz8_0,hfz8_1,hfz8_2,hfz8_3,hfz8_4,hfz8_5,hfz8_6⟩:=ck7 BK319.out)|((with_reducible refine gate_callee (f:=67) rfl ?_);refine goesL_ (some 8) rfl rfl Try.func67 (by kernel_rfl) rfl #[.agg #[.slice A0_0 l0_0.length c0_0,.int .i64 a0_1,.int .i64 a0_2,.int .i64 a0_3,.int .i64 a0_4]] rfl (by (try simp only [List.map_toArray,List.map_cons,List.map_nil]);first|done|rfl|(simp only [List.length_drop,List.length_take];rfl)) ?_;(with_reducible refine (impl_ListQueue.calls k _ _ l0_0 a0_1 a0_2 a0_3 a0_4 t321 _ ?side1 ?side2 A4.out).mono ?_);(case side1=>repeat (first|exact (Kd.C_below HR0_0.out HB.out)|(with_reducible refine Kd.C_alloc ?_ _)|(with_reducible refine Kd.C_drewN ?_ _)|(with_reducible refine Kd.C_drew ?_)));(case side2=>exact HC0_0.out);rintro e w9 ⟨v322,rfl,ho0,hb⟩;refine ⟨_,rfl,?_⟩;have HO323:=Aside0.mk (Kd.R_lower ho0 (below_size bl));replace BK319:=Aside0.mk (blk_below (bk BK319) hb);replace HB:=Aside0.mk (below_step bl hb);(try clear hb);(try clear hb2);(try clear hk);(try clear hi);(try clear ho0)))
  go_ret
  exact ⟨_,by first|rfl|(simp [errW_none,errW_some] <;> rfl)|(simp [*,errW_none,errW_some] <;> rfl),by (with_reducible repeat (first|apply Kd.R_alloc|apply Kd.R_drewN|apply Kd.R_drew));exact HO323.out,bl⟩
 ·replace c3:=Bool.eq_false_iff.mpr c3
  subst c3
  rw [if_neg nft] at H
  obtain rfl:=Option.some.inj H
  go_enter Try.func27,Try.ntmps27
  go_wp2_with (first|((with_reducible refine gate_dst (N:=1) rfl ?_);refine box_event ?hg (N:=1) ?hd (cs:=#[.slice A0_0 l0_0.length c0_0,.int .i64 a0_1,.int .i64 a0_2,.int .i64 a0_3,.int .i64 a0_4,.slice A0_5 l0_5.length c0_5,.int .i64 a0_6]) (t:=46) ?hr ?_;(case hd=>rfl);(case hg=>rfl);(case hr=>first|(go_simp;done)|(go_simp;rfl));intro gb319 hg w10 hbox hb;have BK319:=Aside0.mk (hbox);have GW319:=Aside0.mk ((by rw [hg];exact (below_size bl):w.heap.size≤gb319));have GE319:=GW319;replace HB:=Aside0.mk (below_step bl hb);clear hb hbox hg;obtain ⟨hcz11_0,hcz11_1,hcz11_2,hcz11_3,hcz11_4,hcz11_5,hcz11_6,hfz11_0,hfz11_1,hfz11_2,hfz11_3,hfz11_4,hfz11_5,hfz11_6⟩:=ck7 BK319.out)|((with_reducible refine gate_callee (f:=22) rfl ?_);refine goesL_ (some 4) rfl rfl Try.func22 (by kernel_rfl) rfl #[.agg #[.slice A0_0 l0_0.length c0_0,.int .i64 a0_1,.int .i64 a0_2,.int .i64 a0_3,.int .i64 a0_4,.slice A0_5 l0_5.length c0_5,.int .i64 a0_6]] rfl (by (try simp only [List.map_toArray,List.map_cons,List.map_nil]);first|done|rfl|(simp only [List.length_drop,List.length_take];rfl)) ?_;(with_reducible refine (impl_LineOk.calls k _ _ l0_0 a0_1 a0_2 a0_3 a0_4 _ _ l0_5 a0_6 false _ ?side1 ?side2 ?side3 ?side4 A2.out).mono ?_);(case side1=>repeat (first|exact (Kd.C_below HR0_0.out HB.out)|(with_reducible refine Kd.C_alloc ?_ _)|(with_reducible refine Kd.C_drewN ?_ _)|(with_reducible refine Kd.C_drew ?_)));(case side2=>exact HC0_0.out);(case side3=>repeat (first|exact (Kd.C_below HR0_5.out HB.out)|(with_reducible refine Kd.C_alloc ?_ _)|(with_reducible refine Kd.C_drewN ?_ _)|(with_reducible refine Kd.C_drew ?_)));(case side4=>exact HC0_5.out);rintro e w12 ⟨rfl,hb⟩;refine ⟨_,rfl,?_⟩;replace BK319:=Aside0.mk (blk_below (bk BK319) hb);replace HB:=Aside0.mk (below_step bl hb);(try clear hb);(try clear hb2);(try clear hk);(try clear hi)))
  go_ret
  exact ⟨_,by first|rfl|(simp [errW_none,errW_some] <;> rfl)|(simp [*,errW_none,errW_some] <;> rfl),by first|exact Kd.R_nil _ _ _ _ _|exact Kd.N_nil _ _ _ _ _|exact Kd.V_nil _ _ _ _ _|exact Kd.Q_nil _ _ _ _ _|exact Kd.S_nil _ _ _ _ _,bl⟩

end Go.Proofs.Ytnkpjpfmjkiidaa.PFnExactLineList
