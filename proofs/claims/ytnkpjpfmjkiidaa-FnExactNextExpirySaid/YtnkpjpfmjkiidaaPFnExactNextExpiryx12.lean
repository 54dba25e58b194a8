/- Contracts of functions of the given program: what each call answers. Written by a program of this session, out of the text of the functions. -/
import Derived.Test.YtnkpjpfmjkiidaaPFnExactNextExpiryx0
import Derived.Test.YtnkpjpfmjkiidaaPFnExactNextExpiryx8
import Derived.Test.YtnkpjpfmjkiidaaPFnExactNextExpiryx9
import Derived.Test.YtnkpjpfmjkiidaaPFnExactNextExpiryx11
import Derived.Test.YtnkpjpfmjkiidaaZFnExactNextExpiry
namespace Go.Proofs.Ytnkpjpfmjkiidaa.PFnExactNextExpiry
open Go.RowKit Go.Proofs.YtnkpjpfmjkiidaaW.PrintWords Go.Proofs.YtnkpjpfmjkiidaaW.PrintLast Go.Proofs.YtnkpjpfmjkiidaaW.PrintMore Go.Proofs.Ytnkpjpfmjkiidaa.Giv Go.Proofs.Ytnkpjpfmjkiidaa.Prs
attribute [local go_sem] max2_int min2_int max_two min_two max_three min_three max_four min_four   -- for this text's walks alone
set_option linter.unusedVariables false
set_option linter.unusedSimpArgs false

/-! ### impl_ListQueue: function 67 -/
def impl_ListQueue.l0:Nat→List Int→List Int→Int→Int→List (S97)→Int→Int→Int→Int→Option (List Int)
 | 0,_,_,_,_,_,_,_,_,_=>none
 | k + 1,x5,x18,x19,x20,x307000,x307001,x307002,x307003,x307004=>if x20 < x19 then (if 0≤x20 then (if x20 < (x18.length:Int) then (if 0≤(rd x18 x20) then (if (rd x18 x20) < (x307000.length:Int) then (if x5.length < 17592186044416 then (impl_ListQueue.l0 k (x5 ++ [(rd_T97 x307000 (rd x18 x20)).f0]) x18 x19 (wrap64 (x20 + 1)) x307000 x307001 x307002 x307003 x307004) else (none)) else (none)) else (none)) else (none)) else (none)) else (some x5)
def impl_ListQueue.f (k:Nat) (l0_0:List (S97)) (a0_1:Int) (a0_2:Int) (a0_3:Int) (a0_4:Int):Option (List Int):=(impl_QueueOk.f k l0_0 a0_1 a0_2 a0_3 a0_4).bind fun t307=>(if t307=true then ((impl_Queue_walk.f k l0_0 a0_1 a0_2 a0_3 a0_4 a0_1).bind fun bt308=>(impl_ListQueue.l0 k ([]:List Int) bt308.1 (bt308.1.length:Int) 0 l0_0 a0_1 a0_2 a0_3 a0_4)) else (some ([]:List Int)))
theorem impl_ListQueue.mono_l:∀ k,(∀ y0 y1 y2 y3 y4 y5 y6 y7 y8,LeO (impl_ListQueue.l0 k y0 y1 y2 y3 y4 y5 y6 y7 y8) (impl_ListQueue.l0 (k + 1) y0 y1 y2 y3 y4 y5 y6 y7 y8))
 | 0=>fun _ _ _ _ _ _ _ _ _ r h=>by simp [impl_ListQueue.l0] at h
 | k + 1=>by
  have ih0:=impl_ListQueue.mono_l k
  ·intro y0 y1 y2 y3 y4 y5 y6 y7 y8
   unfold impl_ListQueue.l0
   repeat' first
   | (with_reducible exact ih0 _ _ _ _ _ _ _ _ _)
   | (with_reducible exact impl_QueueOk.mono _ _ _ _ _ _)
   | (with_reducible exact impl_Queue_walk.mono _ _ _ _ _ _ _)
   | (with_reducible exact LeO.refl _)
   | (with_reducible exact LeO.none _)
   | (with_reducible refine LeO.ite ?_ ?_)
   | (with_reducible refine LeO.bind ?_ (fun _=>?_))
   | exact ih0 _ _ _ _ _ _ _ _ _
   | exact impl_QueueOk.mono _ _ _ _ _ _
   | exact impl_Queue_walk.mono _ _ _ _ _ _ _
   | exact LeO.none _
   | refine LeO.ite ?_ ?_
   | refine LeO.bind ?_ (fun _=>?_)
theorem impl_ListQueue.mono:∀ a0 a1 a2 a3 a4 k,LeO (impl_ListQueue.f k a0 a1 a2 a3 a4) (impl_ListQueue.f (k + 1) a0 a1 a2 a3 a4):=by
 intro a0 a1 a2 a3 a4 k
 have ih0:=impl_ListQueue.mono_l k
 unfold impl_ListQueue.f
 repeat' first
   | (with_reducible exact ih0 _ _ _ _ _ _ _ _ _)
   | (with_reducible exact impl_QueueOk.mono _ _ _ _ _ _)
   | (with_reducible exact impl_Queue_walk.mono _ _ _ _ _ _ _)
   | (with_reducible exact LeO.refl _)
   | (with_reducible exact LeO.none _)
   | (with_reducible refine LeO.ite ?_ ?_)
   | (with_reducible refine LeO.bind ?_ (fun _=>?_))
   | exact ih0 _ _ _ _ _ _ _ _ _
   | exact impl_QueueOk.mono _ _ _ _ _ _
   | exact impl_Queue_walk.mono _ _ _ _ _ _ _
   | exact LeO.none _
   | refine LeO.ite ?_ ?_
   | refine LeO.bind ?_ (fun _=>?_)
set_option maxHeartbeats 8000000 in
set_option maxRecDepth 100000 in
theorem impl_ListQueue.calls (k:Nat) (A0_0:Option Addr) (c0_0:Nat) (l0_0:List (S97)) (a0_1:Int) (a0_2:Int) (a0_3:Int) (a0_4:Int) (r:List Int) (w:World) (hr0_0:Kd.C k97 w A0_0 l0_0.length l0_0) (hc0_0:l0_0.length≤c0_0) (h:impl_ListQueue.f k l0_0 a0_1 a0_2 a0_3 a0_4=some r) :
  Calls Try.prog 67 #[.agg #[.slice A0_0 l0_0.length c0_0,.int .i64 a0_1,.int .i64 a0_2,.int .i64 a0_3,.int .i64 a0_4]] w fun e w'=>∃ v0_:Value,e = .returned (v0_)∧Kd.R (Kd.int .i64) 3 w' w.heap.size (fun _=>True) v0_ r∧Below w.heap.size w w':=by
 have hu28:=Try.underlying28
 have HR0_0:=Aside0.mk hr0_0
 have HC0_0:=Aside0.mk hc0_0
 clear hr0_0 hc0_0
 have HB:=Aside0.mk (Below.refl w.heap.size w)
 have H:((impl_QueueOk.f k l0_0 a0_1 a0_2 a0_3 a0_4).bind fun t307=>(if t307=true then ((impl_Queue_walk.f k l0_0 a0_1 a0_2 a0_3 a0_4 a0_1).bind fun bt308=>(impl_ListQueue.l0 k ([]:List Int) bt308.1 (bt308.1.length:Int) 0 l0_0 a0_1 a0_2 a0_3 a0_4)) else (some ([]:List Int))))=some r:=h
 clear h
 replace H:=Option.bind_eq_some_iff.mp H
 obtain ⟨t307,A20,H⟩:=H
 have A2:=Aside0.mk A20
 clear A20
 by_cases c3:t307=true
 ·subst c3
  rw [if_pos rfl] at H
  replace H:=Option.bind_eq_some_iff.mp H
  obtain ⟨⟨t308,t311⟩,A40,H⟩:=H
  replace H:(impl_ListQueue.l0 k ([]:List Int) t308 (t308.length:Int) 0 l0_0 a0_1 a0_2 a0_3 a0_4)=some r:=H
  have A4:=Aside0.mk A40
  clear A40
  have H':=Aside0.mk H
  clear H
  go_enter Try.func67,Try.ntmps67
  go_wp2_with (first|((with_reducible refine gate_dst (N:=1) rfl ?_);refine bx 1 #[.slice A0_0 l0_0.length c0_0,.int .i64 a0_1,.int .i64 a0_2,.int .i64 a0_3,.int .i64 a0_4] 28 ?_;intro gb306 hg w5 hbox hb;have BK306:=Aside0.mk (hbox);have GW306:=Aside0.mk (bz hg:w.heap.size≤gb306);have GE306:=GW306;replace HB:=Aside0.mk (below_step bl hb);clear hb hbox hg;obtain ⟨hcz6_0,hcz6_1,hcz6_2,hcz6_3,hcz6_4,hfz6_0,hfz6_1,hfz6_2,hfz6_3,hfz6_4⟩:=ck5 BK306.out)|((with_reducible refine gate_callee (f:=65) rfl ?_);refine gl (some 9) Try.func65 #[.agg #[.slice A0_0 l0_0.length c0_0,.int .i64 a0_1,.int .i64 a0_2,.int .i64 a0_3,.int .i64 a0_4]] ?_;(with_reducible refine (impl_QueueOk.calls k _ _ l0_0 a0_1 a0_2 a0_3 a0_4 true _ ?side1 ?side2 A2.out).mono ?_);(case side1=>exact kc HR0_0);(case side2=>exact HC0_0.out);rintro e w7 ⟨rfl,hb⟩;refine ⟨_,rfl,?_⟩;replace BK306:=Aside0.mk (blk_below (bk BK306) hb);replace HB:=Aside0.mk (below_step bl hb);(try clear hb);(try clear hb2);(try clear hk);(try clear hi);obtain ⟨hcz8_0,hcz8_1,hcz8_2,hcz8_3,hcz8_4,hfz8_0,hfz8_1,hfz8_2,hfz8_3,hfz8_4⟩:=ck5 BK306.out)|((with_reducible refine gate_callee (f:=96) rfl ?_);refine gl (some 15) Try.func96 #[.agg #[.slice A0_0 l0_0.length c0_0,.int .i64 a0_1,.int .i64 a0_2,.int .i64 a0_3,.int .i64 a0_4],.int .i64 a0_1] ?_;(with_reducible refine (impl_Queue_walk.calls k _ _ l0_0 a0_1 a0_2 a0_3 a0_4 a0_1 t308 t311 _ ?side1 ?side2 A4.out).mono ?_);(case side1=>exact kc HR0_0);(case side2=>exact HC0_0.out);rintro e w9 ⟨v309,rfl,ho0,hb⟩;refine ⟨_,rfl,?_⟩;have HO310:=Aside0.mk (Kd.R_lower ho0 (below_size bl));replace BK306:=Aside0.mk (blk_below (bk BK306) hb);replace HB:=Aside0.mk (below_step bl hb);(try clear hb);(try clear hb2);(try clear hk);(try clear hi);(try clear ho0);obtain ⟨Ao10,co10,eo10⟩:=Kd.R_slice HO310.out;subst eo10))
  go_loopg [5,20] k (fun kq v5 v20 w'=>∃ (x5_1:List Int) (x20_1:Int),v20 = .int .i64 x20_1∧Aside0 (impl_ListQueue.l0 kq x5_1 t308 (t308.length:Int) x20_1 l0_0 a0_1 a0_2 a0_3 a0_4=some r)∧Aside0 (kq≤k)∧Aside0 (Kd.R (Kd.int .i64) 3 w' w.heap.size (fun k_=>some k_≠((.slice Ao10 t308.length co10):Value).ownBlock) v5 x5_1)∧Aside0 (Kd.R (Kd.int .i64) 3 w' w.heap.size (fun k_=>some k_≠(v5:Value).ownBlock) (.slice Ao10 t308.length co10) t308)∧Aside0 (w'.heap[gb306]? = some (.cells #[(.slice A0_0 l0_0.length c0_0),.int .i64 a0_1,.int .i64 a0_2,.int .i64 a0_3,.int .i64 a0_4] 28 (0,0)))∧Aside0 (Below w.heap.size w w'))
  case atStart=>exact ⟨(([]:List Int)),(0),(by first|rfl|(simp;done)|(simp [*];done)),H',⟨Nat.le_refl _⟩,⟨by first|exact Kd.R_nil _ _ _ _ _|exact Kd.N_nil _ _ _ _ _|exact Kd.V_nil _ _ _ _ _|exact Kd.Q_nil _ _ _ _ _|exact Kd.S_nil _ _ _ _ _⟩,⟨by (with_reducible repeat (first|apply Kd.R_alloc|apply Kd.R_drewN|apply Kd.R_drew));exact Kd.R_mono HO310.out (fun _ hk=>(by simp [Value.ownBlock]))⟩,⟨bk BK306⟩,⟨bl⟩⟩
  case round =>
   clear H'
   try clear p2
   try clear c3
   try clear c6
   try clear c9
   try clear hcz6_0
   try clear hcz6_1
   try clear hcz6_2
   try clear hcz6_3
   try clear hcz6_4
   try clear hcz8_0
   try clear hcz8_1
   try clear hcz8_2
   try clear hcz8_3
   try clear hcz8_4
   try clear hfz6_0
   try clear hfz6_1
   try clear hfz6_2
   try clear hfz6_3
   try clear hfz6_4
   try clear hfz8_0
   try clear hfz8_1
   try clear hfz8_2
   try clear hfz8_3
   try clear hfz8_4
   obtain ⟨x5_1,x20_1,rfl,HA,HK1,HO_5,HO_18,BK306,HB⟩:=hrel
   cases gk with
   | zero=>exact absurd HA.out (by simp [impl_ListQueue.l0])
   | succ k1 =>
    have H:=HA.out
    clear HA
    simp only [impl_ListQueue.l0] at H
    by_cases c11:x20_1 < (t308.length:Int)
    ·rw [if_pos c11] at H
     have c11b0:decide (x20_1 < (t308.length:Int))=true:=decide_eq_true c11
     clear c11
     by_cases c12:0≤x20_1
     case neg =>
      rw [if_neg c12] at H
      exact absurd H (by simp)
     rw [if_pos c12] at H
     have c12b0:decide (0≤x20_1)=true:=decide_eq_true c12
     clear c12
     by_cases c13:x20_1 < (t308.length:Int)
     case neg =>
      rw [if_neg c13] at H
      exact absurd H (by simp)
     rw [if_pos c13] at H
     have c13b0:decide (x20_1 < (t308.length:Int))=true:=decide_eq_true c13
     clear c13
     by_cases c14:0≤(rd t308 x20_1)
     case neg =>
      rw [if_neg c14] at H
      exact absurd H (by simp)
     rw [if_pos c14] at H
     have c14b0:decide (0≤(rd t308 x20_1))=true:=decide_eq_true c14
     clear c14
     by_cases c15:(rd t308 x20_1) < (l0_0.length:Int)
     case neg =>
      rw [if_neg c15] at H
      exact absurd H (by simp)
     rw [if_pos c15] at H
     have c15b0:decide ((rd t308 x20_1) < (l0_0.length:Int))=true:=decide_eq_true c15
     clear c15
     by_cases c16:x5_1.length < 17592186044416
     case neg =>
      rw [if_neg c16] at H
      exact absurd H (by simp)
     rw [if_pos c16] at H
     have LMc16:=Aside0.mk c16
     clear c16
     obtain ⟨y314,hy314⟩:∃ y_:List Int,y_=(x5_1 ++ [(rd_T97 l0_0 (rd t308 x20_1)).f0]):=⟨_,rfl⟩
     replace H:(impl_ListQueue.l0 k1 y314 t308 (t308.length:Int) (wrap64 (x20_1 + 1)) l0_0 a0_1 a0_2 a0_3 a0_4)=some r:=by first|(rw [hy314];with_reducible exact H)|(have H2_:=(Option.bind_some _ _).symm.trans H;rw [hy314];with_reducible exact H2_)|(have H2_:=(Option.bind_some _ _).symm.trans H;with_reducible exact H2_)|with_reducible exact H|(rw [hy314];exact H)|exact H
     have Ny314:=Aside0.mk hy314
     clear hy314
     have H':=Aside0.mk H
     clear H
     have p312:0≤(x20_1:Int):=od
     have q312:x20_1 < (t308.length:Int):=od
     obtain ⟨ad312,e312,hx312_0⟩:=Kd.at_int (Kd.R_reads' HO_18.out).2.2 x20_1 p312 q312
     cases e312
     replace p312:=eq_true p312
     replace q312:=eq_true q312
     obtain ⟨hcz17_0,hcz17_1,hcz17_2,hcz17_3,hcz17_4,hfz17_0,hfz17_1,hfz17_2,hfz17_3,hfz17_4⟩:=ck5 BK306.out
     have p313:0≤((rd t308 x20_1):Int):=od
     have q313:(rd t308 x20_1) < (l0_0.length:Int):=od
     obtain ⟨ad313,e313,hx313_0,hx313_1,hx313_2,hx313_3⟩:=at_T97 HR0_0.out (rd t308 x20_1) p313 q313
     cases e313
     replace hx313_0:=cl HB hx313_0
     replace hx313_1:=cl HB hx313_1
     replace hx313_2:=cl HB hx313_2
     replace hx313_3:=cl HB hx313_3
     replace p313:=eq_true p313
     replace q313:=eq_true q313
     go_wp2_with (first|((with_reducible refine gate_builtin (b:=.append) (xs:=#[.tmp 24,.tmp 31]) rfl ?_);at_builtin;refine Kd.R_append (Kd.int .i64) (w0:=w) w.heap.size rfl (.tmp 24) (.tmp 31) 51 3 (.int .i64 0) 8 rfl Try.underlying51 info3 rfl (by decide) (by omega) u5 x5_1 ((rd_T97 l0_0 (rd t308 x20_1)).f0) [.int .i64 ((rd_T97 l0_0 (rd t308 x20_1)).f0)] (fun k_=>some k_≠(.slice (some ad312) t308.length co10:Value).ownBlock) (fun _=>False) rfl rfl ?aP (fun _ hk=>hk.elim) ?aF ?aO ?aB ?aS ?aL ?_;(case aP=>exact rfl);(case aB=>exact bl);(case aF=>exact (fun k_ hk=>Kd.fresh' (Kd.R_lt (kr HO_18)) k_ hk));(case aO=>exact (kr HO_5));(case aS=>exact (below_size bl));(case aL=>have:=LMc16.out;omega);intro v315 w18 ho hb hg hat;rw [← Ny314.out] at ho;replace HO_18:=Aside0.mk (Kd.R_after (ok:=(fun _=>True)) (by (with_reducible repeat (first|apply Kd.R_alloc|apply Kd.R_drewN|apply Kd.R_drew));exact Kd.R_mono HO_18.out (fun _ hk=>⟨trivial,hk⟩)) hg hat);replace BK306:=Aside0.mk (blk_grown (bk BK306) hg (Kd.R_ne HO_5.out BK306.out (by decide)));replace HB:=Aside0.mk (hb);have HO316:=Aside0.mk (ho);clear HO_5;clear ho hb hg hat))
     go_roundg k1
     case measure=>have:=HK1.out;omega
     case rel=>exact ⟨(y314),(wrap64 (x20_1 + 1)),(by first|rfl|(simp;done)|(simp [*];done)),H',⟨by have:=HK1.out;omega⟩,⟨kr HO316⟩,⟨by (with_reducible repeat (first|apply Kd.R_alloc|apply Kd.R_drewN|apply Kd.R_drew));exact Kd.R_mono HO_18.out (fun _ hk=>hk.2)⟩,⟨bk BK306⟩,⟨bl⟩⟩
    ·rw [if_neg c11] at H
     have c11b0:decide (x20_1 < (t308.length:Int))=false:=decide_eq_false c11
     clear c11
     obtain rfl:=Option.some.inj H
     go_wp2
     go_ret
     exact ⟨_,er,by (with_reducible repeat (first|apply Kd.R_alloc|apply Kd.R_drewN|apply Kd.R_drew));exact Kd.R_mono HO_5.out (fun _ hk=>trivial),bl⟩
 ·replace c3:=Bool.eq_false_iff.mpr c3
  subst c3
  rw [if_neg nft] at H
  obtain rfl:=Option.some.inj H
  go_enter Try.func67,Try.ntmps67
  go_wp2_with (first|((with_reducible refine gate_dst (N:=1) rfl ?_);refine bx 1 #[.slice A0_0 l0_0.length c0_0,.int .i64 a0_1,.int .i64 a0_2,.int .i64 a0_3,.int .i64 a0_4] 28 ?_;intro gb306 hg w19 hbox hb;have BK306:=Aside0.mk (hbox);have GW306:=Aside0.mk (bz hg:w.heap.size≤gb306);have GE306:=GW306;replace HB:=Aside0.mk (below_step bl hb);clear hb hbox hg;obtain ⟨hcz20_0,hcz20_1,hcz20_2,hcz20_3,hcz20_4,hfz20_0,hfz20_1,hfz20_2,hfz20_3,hfz20_4⟩:=ck5 BK306.out)|((with_reducible refine gate_callee (f:=65) rfl ?_);refine gl (some 9) Try.func65 #[.agg #[.slice A0_0 l0_0.length c0_0,.int .i64 a0_1,.int .i64 a0_2,.int .i64 a0_3,.int .i64 a0_4]] ?_;(with_reducible refine (impl_QueueOk.calls k _ _ l0_0 a0_1 a0_2 a0_3 a0_4 false _ ?side1 ?side2 A2.out).mono ?_);(case side1=>exact kc HR0_0);(case side2=>exact HC0_0.out);rintro e w21 ⟨rfl,hb⟩;refine ⟨_,rfl,?_⟩;replace BK306:=Aside0.mk (blk_below (bk BK306) hb);replace HB:=Aside0.mk (below_step bl hb);(try clear hb);(try clear hb2);(try clear hk);(try clear hi)))
  go_ret
  exact ⟨_,er,by first|exact Kd.R_nil _ _ _ _ _|exact Kd.N_nil _ _ _ _ _|exact Kd.V_nil _ _ _ _ _|exact Kd.Q_nil _ _ _ _ _|exact Kd.S_nil _ _ _ _ _,bl⟩

/-! ### impl_Due: function 100: the first place that a test takes -/
set_option maxHeartbeats 8000000 in
set_option maxRecDepth 100000 in
theorem impl_Due.any (p:S86→Bool) (fn:Nat) (lb:Array Value) (A0:Option Addr) (c0:Nat) (l0:List S86) (w:World) (hr0:Kd.C k86 w A0 l0.length l0) (hc0:l0.length≤c0)
  (eg:∀ args w,(callFunc fn args).run Try.prog w = .ok (.enter fn args) w)
  (hp:∀ (W:World) (x:S86),Below w.heap.size w W→Calls Try.prog fn (#[.agg #[.int .i64 x.f0,.int .i64 x.f1,.int .i64 x.f2]] ++ lb) W fun e w'=>e = .returned (.bool (p x))∧Below W.heap.size W w') :
  Calls Try.prog 100 #[.slice A0 l0.length c0,.func (.func fn) #[] lb] w fun e w'=>e = .returned (.int .i64 (findI p l0 0))∧Below w.heap.size w w':=by
 have HR0:=Aside0.mk hr0
 have HC0:=Aside0.mk hc0
 have hlen:l0.length≤9223372036854775807:=hr0.2.1
 clear hr0 hc0
 obtain ⟨R,hR⟩:∃ R,R=findI p l0 0:=⟨_,rfl⟩
 rw [← hR]
 have HR':=Aside0.mk hR
 clear hR
 go_enter Try.func100,Try.ntmps100
 go_wp2
 go_loopg [5,8] l0.length (fun gg _ v8 w'=>∃ x8_1:Int,v8 = .int .i64 x8_1∧Aside0 (0≤x8_1∧x8_1≤l0.length∧l0.length - x8_1.toNat≤gg)∧Aside0 (R=findI p (l0.drop x8_1.toNat) x8_1)∧Aside0 (Below w.heap.size w w'))
 case atStart=>exact ⟨0,rfl,⟨by omega,by omega,by omega⟩,⟨HR'.out⟩,⟨Below.refl _ _⟩⟩
 case round =>
  clear HR'
  obtain ⟨x8_1,rfl,HG,HA,HB⟩:=hrel
  have HL:=Aside0.mk hlen
  clear hlen
  by_cases c3:x8_1 < (l0.length:Int)
  ·have c3b0:decide (x8_1 < (l0.length:Int))=true:=decide_eq_true c3
   have p124:0≤x8_1:=HG.out.1
   have HRr:=Aside0.mk (Kd.C_below HR0.out HB.out)
   have H:=HA.out
   have hlt:x8_1.toNat < l0.length:=by omega
   have hcons:l0.drop x8_1.toNat=l0[x8_1.toNat] :: l0.drop (x8_1.toNat + 1):=List.drop_eq_getElem_cons hlt
   rw [hcons] at H
   obtain ⟨ad,e,hx0,hx1,hx2⟩:=at_T86 HRr.out x8_1 p124 c3
   cases e
   have hrd:rd_T86 l0 x8_1=l0[x8_1.toNat]:=by unfold rd_T86;rw [List.getD_eq_getElem?_getD,List.getElem?_eq_getElem hlt];rfl
   rw [hrd] at hx0 hx1 hx2
   have hcall:=hp wr l0[x8_1.toNat] HB.out
   clear hcons hrd
   generalize l0[x8_1.toNat]=x at H hx0 hx1 hx2 hcall
   have H':=Aside0.mk H
   have hw:wrap64 (x8_1 + 1)=x8_1 + 1:=by have:=HL.out;unfold wrap64;omega
   have HW:=Aside0.mk hw
   have HX:=Aside0.mk hlt
   clear H hp HRr hw hlt HA
   replace p124:=eq_true p124
   replace c3:=eq_true c3
   cases hq:p x with
   | true =>
    rw [hq] at hcall
    have HQ:=Aside0.mk hq
    clear hq
    go_wp2_with fail
    refine hcall.mono ?_
    rintro e w' ⟨rfl,hb'⟩
    go_wp2
    go_ret
    exact ⟨by rw [H'.out,findI,if_pos HQ.out];rfl,below_step HB.out hb'⟩
   | false =>
    rw [hq] at hcall
    have HQ:=Aside0.mk hq
    clear hq
    go_wp2_with fail
    refine hcall.mono ?_
    rintro e w' ⟨rfl,hb'⟩
    go_wp2
    go_roundg (l0.length - (x8_1.toNat + 1))
    case measure=>have:=HG.out;have:=HX.out;omega
    case rel=>exact ⟨wrap64 (x8_1 + 1),rfl,⟨by have:=HG.out;have:=HX.out;rw [HW.out];omega⟩,⟨by rw [H'.out,findI,if_neg (by rw [HQ.out];decide),HW.out,show (x8_1 + 1).toNat=x8_1.toNat + 1 by have:=HG.out;omega]⟩,⟨below_step HB.out hb'⟩⟩
  ·have hd:decide (x8_1 < (l0.length:Int))=false:=decide_eq_false c3
   have H:=HA.out
   rw [List.drop_eq_nil_of_le (by omega)] at H
   have H':=Aside0.mk H
   clear H hp c3
   go_wp2
   go_ret
   exact ⟨by rw [H'.out];rfl,HB.out⟩

/-! ### impl_Heap_place: function 68 -/
theorem impl_Heap_place.test (b0:Int) (b1:Int) (b2:Int) (x:Int) (g:Nat) (w:World) (hc:w.cell? ⟨g,0,none⟩=some (.int .i64 x)) (hg:g < w.heap.size) :
  Calls Try.prog 101 #[.agg #[.int .i64 b0,.int .i64 b1,.int .i64 b2],.pointer (some ⟨g,0,none⟩)] w fun e w'=>e = .returned (.bool (b2 == x))∧Below w.heap.size w w':=by
 have hu:=Try.underlying86
 go_enter Try.func101,Try.ntmps101
 go_wp2
 go_ret
 exact ⟨rfl,(Below.refl _ _).alloc (Nat.le_refl _) _⟩
def impl_Heap_place.f (l0_0:List (S86)) (a0_1:Int) (a1:Int):Option (Int):=some (findI (fun d:S86=>d.f2 == a1) l0_0 0)
set_option maxHeartbeats 8000000 in
set_option maxRecDepth 100000 in
theorem impl_Heap_place.calls (A0_0:Option Addr) (c0_0:Nat) (l0_0:List (S86)) (a0_1:Int) (a1:Int) (r:Int) (w:World) (hr0_0:Kd.C k86 w A0_0 l0_0.length l0_0) (hc0_0:l0_0.length≤c0_0) (h:impl_Heap_place.f l0_0 a0_1 a1=some r) :
  Calls Try.prog 68 #[.agg #[.slice A0_0 l0_0.length c0_0,.int .i64 a0_1],.int .i64 a1] w fun e w'=>e = .returned (.int .i64 r)∧Below w.heap.size w w':=by
 obtain rfl:=Option.some.inj h
 have hu28:=Try.underlying44
 have HR0:=Aside0.mk hr0_0
 have HC0:=Aside0.mk hc0_0
 clear hr0_0 hc0_0 h
 go_enter Try.func68,Try.ntmps68
 go_wp2_with fail
 refine (impl_Due.any (fun d:S86=>d.f2 == a1) 101 #[.pointer (some ⟨w.heap.size + 1,0,none⟩)] A0_0 c0_0 l0_0 _ (by repeat (first|exact HR0.out|(with_reducible refine Kd.C_alloc ?_ _))) HC0.out (enters_of' Try.func101 (by kernel_rfl) rfl) (fun W x hb=>(impl_Heap_place.test x.f0 x.f1 x.f2 a1 (w.heap.size + 1) W ?cell ?lt))).mono ?_
 case cell=>exact (hb.cell (p:=⟨w.heap.size + 1,0,none⟩) (by simp)).trans (by simp)
 case lt=>have:=hb.size;simp at this;omega
 rintro e w' ⟨rfl,hb⟩
 go_wp2
 go_ret
 exact ⟨rfl,((((Below.refl _ _).alloc (Nat.le_refl _) _).alloc (by simp) _).trans (hb.mono (by simp;omega)))⟩

/-! ### impl_LineOk: function 22 -/
mutual
def impl_LineOk.j0:Nat→Bool→List (S97)→Int→Int→Int→Int→List (S86)→Int→Option (Bool)
 | 0,_,_,_,_,_,_,_,_=>none
 | k + 1,x24,x318000,x318001,x318002,x318003,x318004,x318005,x318006=>if x24=true then (some false) else ((impl_ListQueue.f k x318000 x318001 x318002 x318003 x318004).bind fun t320=>(impl_LineOk.l0 k t320 (t320.length:Int) 0 x318000 x318001 x318002 x318003 x318004 x318005 x318006))
def impl_LineOk.l0:Nat→List Int→Int→Int→List (S97)→Int→Int→Int→Int→List (S86)→Int→Option (Bool)
 | 0,_,_,_,_,_,_,_,_,_,_=>none
 | k + 1,x27,x28,x29,x318000,x318001,x318002,x318003,x318004,x318005,x318006=>if x29 < x28 then (if 0≤x29 then (if x29 < (x27.length:Int) then ((impl_Heap_place.f x318005 x318006 (rd x27 x29)).bind fun t324=>(if t324 < 0 then (some false) else (impl_LineOk.l0 k x27 x28 (wrap64 (x29 + 1)) x318000 x318001 x318002 x318003 x318004 x318005 x318006))) else (none)) else (none)) else (some true)
end
def impl_LineOk.f (k:Nat) (l0_0:List (S97)) (a0_1:Int) (a0_2:Int) (a0_3:Int) (a0_4:Int) (l0_5:List (S86)) (a0_6:Int):Option (Bool):=(impl_QueueOk.f k l0_0 a0_1 a0_2 a0_3 a0_4).bind fun t318=>(if t318=true then ((impl_HeapOk.f k l0_5 a0_6).bind fun t319=>(if t319=true then (impl_LineOk.j0 k ((l0_5.length:Int) != a0_4) l0_0 a0_1 a0_2 a0_3 a0_4 l0_5 a0_6) else (impl_LineOk.j0 k true l0_0 a0_1 a0_2 a0_3 a0_4 l0_5 a0_6))) else (impl_LineOk.j0 k true l0_0 a0_1 a0_2 a0_3 a0_4 l0_5 a0_6))
theorem impl_LineOk.mono_l:∀ k,(∀ y0 y1 y2 y3 y4 y5 y6 y7,LeO (impl_LineOk.j0 k y0 y1 y2 y3 y4 y5 y6 y7) (impl_LineOk.j0 (k + 1) y0 y1 y2 y3 y4 y5 y6 y7))∧(∀ y0 y1 y2 y3 y4 y5 y6 y7 y8 y9,LeO (impl_LineOk.l0 k y0 y1 y2 y3 y4 y5 y6 y7 y8 y9) (impl_LineOk.l0 (k + 1) y0 y1 y2 y3 y4 y5 y6 y7 y8 y9))
 | 0=>⟨fun _ _ _ _ _ _ _ _ r h=>by simp [impl_LineOk.j0] at h,fun _ _ _ _ _ _ _ _ _ _ r h=>by simp [impl_LineOk.l0] at h⟩
 | k + 1=>by
  obtain ⟨ih0,ih1⟩:=impl_LineOk.mono_l k
  refine ⟨?_,?_⟩
  ·intro y0 y1 y2 y3 y4 y5 y6 y7
   unfold impl_LineOk.j0
   repeat' first
   | (with_reducible exact ih0 _ _ _ _ _ _ _ _)
   | (with_reducible exact ih1 _ _ _ _ _ _ _ _ _ _)
   | (with_reducible exact impl_HeapOk.mono _ _ _)
   | (with_reducible exact impl_ListQueue.mono _ _ _ _ _ _)
   | (with_reducible exact impl_QueueOk.mono _ _ _ _ _ _)
   | (with_reducible exact LeO.refl _)
   | (with_reducible exact LeO.none _)
   | (with_reducible refine LeO.ite ?_ ?_)
   | (with_reducible refine LeO.bind ?_ (fun _=>?_))
   | exact ih0 _ _ _ _ _ _ _ _
   | exact ih1 _ _ _ _ _ _ _ _ _ _
   | exact impl_HeapOk.mono _ _ _
   | exact impl_ListQueue.mono _ _ _ _ _ _
   | exact impl_QueueOk.mono _ _ _ _ _ _
   | exact LeO.none _
   | refine LeO.ite ?_ ?_
   | refine LeO.bind ?_ (fun _=>?_)
  ·intro y0 y1 y2 y3 y4 y5 y6 y7 y8 y9
   unfold impl_LineOk.l0
   repeat' first
   | (with_reducible exact ih0 _ _ _ _ _ _ _ _)
   | (with_reducible exact ih1 _ _ _ _ _ _ _ _ _ _)
   | (with_reducible exact impl_HeapOk.mono _ _ _)
   | (with_reducible exact impl_ListQueue.mono _ _ _ _ _ _)
   | (with_reducible exact impl_QueueOk.mono _ _ _ _ _ _)
   | (with_reducible exact LeO.refl _)
   | (with_reducible exact LeO.none _)
   | (with_reducible refine LeO.ite ?_ ?_)
   | (with_reducible refine LeO.bind ?_ (fun _=>?_))
   | exact ih0 _ _ _ _ _ _ _ _
   | exact ih1 _ _ _ _ _ _ _ _ _ _
   | exact impl_HeapOk.mono _ _ _
   | exact impl_ListQueue.mono _ _ _ _ _ _
   | exact impl_QueueOk.mono _ _ _ _ _ _
   | exact LeO.none _
   | refine LeO.ite ?_ ?_
   | refine LeO.bind ?_ (fun _=>?_)
theorem impl_LineOk.mono:∀ a0 a1 a2 a3 a4 a5 a6 k,LeO (impl_LineOk.f k a0 a1 a2 a3 a4 a5 a6) (impl_LineOk.f (k + 1) a0 a1 a2 a3 a4 a5 a6):=by
 intro a0 a1 a2 a3 a4 a5 a6 k
 obtain ⟨ih0,ih1⟩:=impl_LineOk.mono_l k
 unfold impl_LineOk.f
 repeat' first
   | (with_reducible exact ih0 _ _ _ _ _ _ _ _)
   | (with_reducible exact ih1 _ _ _ _ _ _ _ _ _ _)
   | (with_reducible exact impl_HeapOk.mono _ _ _)
   | (with_reducible exact impl_ListQueue.mono _ _ _ _ _ _)
   | (with_reducible exact impl_QueueOk.mono _ _ _ _ _ _)
   | (with_reducible exact LeO.refl _)
   | (with_reducible exact LeO.none _)
   | (with_reducible refine LeO.ite ?_ ?_)
   | (with_reducible refine LeO.bind ?_ (fun _=>?_))
   | exact ih0 _ _ _ _ _ _ _ _
   | exact ih1 _ _ _ _ _ _ _ _ _ _
   | exact impl_HeapOk.mono _ _ _
   | exact impl_ListQueue.mono _ _ _ _ _ _
   | exact impl_QueueOk.mono _ _ _ _ _ _
   | exact LeO.none _
   | refine LeO.ite ?_ ?_
   | refine LeO.bind ?_ (fun _=>?_)
set_option maxHeartbeats 8000000 in
set_option maxRecDepth 100000 in
theorem impl_LineOk.calls (k:Nat) (A0_0:Option Addr) (c0_0:Nat) (l0_0:List (S97)) (a0_1:Int) (a0_2:Int) (a0_3:Int) (a0_4:Int) (A0_5:Option Addr) (c0_5:Nat) (l0_5:List (S86)) (a0_6:Int) (r:Bool) (w:World) (hr0_0:Kd.C k97 w A0_0 l0_0.length l0_0) (hc0_0:l0_0.length≤c0_0) (hr0_5:Kd.C k86 w A0_5 l0_5.length l0_5) (hc0_5:l0_5.length≤c0_5) (h:impl_LineOk.f k l0_0 a0_1 a0_2 a0_3 a0_4 l0_5 a0_6=some r) :
  Calls Try.prog 22 #[.agg #[.slice A0_0 l0_0.length c0_0,.int .i64 a0_1,.int .i64 a0_2,.int .i64 a0_3,.int .i64 a0_4,.slice A0_5 l0_5.length c0_5,.int .i64 a0_6]] w fun e w'=>e = .returned (.bool r)∧Below w.heap.size w w':=by
 have hu46:=Try.underlying46
 have hu28:=Try.underlying28
 have hu44:=Try.underlying44
 have HR0_0:=Aside0.mk hr0_0
 have HC0_0:=Aside0.mk hc0_0
 clear hr0_0 hc0_0
 have HR0_5:=Aside0.mk hr0_5
 have HC0_5:=Aside0.mk hc0_5
 clear hr0_5 hc0_5
 have HB:=Aside0.mk (Below.refl w.heap.size w)
 have H:((impl_QueueOk.f k l0_0 a0_1 a0_2 a0_3 a0_4).bind fun t318=>(if t318=true then ((impl_HeapOk.f k l0_5 a0_6).bind fun t319=>(if t319=true then (impl_LineOk.j0 k ((l0_5.length:Int) != a0_4) l0_0 a0_1 a0_2 a0_3 a0_4 l0_5 a0_6) else (impl_LineOk.j0 k true l0_0 a0_1 a0_2 a0_3 a0_4 l0_5 a0_6))) else (impl_LineOk.j0 k true l0_0 a0_1 a0_2 a0_3 a0_4 l0_5 a0_6)))=some r:=h
 clear h
 have HC2:=Aside0.mk H
 clear H
 go_enter Try.func22,Try.ntmps22
 go_upto_region 1 with (first|((with_reducible refine gate_dst (N:=1) rfl ?_);(try (refine gate_guard (by rfl) ?_;dsimp only));refine bx 1 #[.slice A0_0 l0_0.length c0_0,.int .i64 a0_1,.int .i64 a0_2,.int .i64 a0_3,.int .i64 a0_4,.slice A0_5 l0_5.length c0_5,.int .i64 a0_6] 46 ?_;intro gb317 hg w3 hbox hb;have BK317:=Aside0.mk (hbox);have GW317:=Aside0.mk (bz hg:w.heap.size≤gb317);have GE317:=GW317;replace HB:=Aside0.mk (below_step bl hb);clear hb hbox hg))
 (try simp only [Act.put,List.setIfInBounds_toArray,List.set_cons_zero,List.set_cons_succ])
 go_cut [24] (fun v24 wc=>∃ (kq:Nat) (x24_1:Bool),v24 = .bool x24_1∧Aside0 (impl_LineOk.j0 kq x24_1 l0_0 a0_1 a0_2 a0_3 a0_4 l0_5 a0_6=some r)∧Aside0 (kq≤k)∧Aside0 (wc.heap[gb317]? = some (.cells #[(.slice A0_0 l0_0.length c0_0),.int .i64 a0_1,.int .i64 a0_2,.int .i64 a0_3,.int .i64 a0_4,(.slice A0_5 l0_5.length c0_5),.int .i64 a0_6] 46 (0,0)))∧Aside0 (Below w.heap.size w wc))
 case first =>
  have H:=HC2.out
  clear HC2
  replace H:=Option.bind_eq_some_iff.mp H
  obtain ⟨t318,A40,H⟩:=H
  have A4:=Aside0.mk A40
  clear A40
  by_cases c5:t318=true
  ·subst c5
   rw [if_pos rfl] at H
   replace H:=Option.bind_eq_some_iff.mp H
   obtain ⟨t319,A60,H⟩:=H
   have A6:=Aside0.mk A60
   clear A60
   by_cases c7:t319=true
   ·subst c7
    rw [if_pos rfl] at H
    have H':=Aside0.mk H
    clear H
    obtain ⟨hcz8_0,hcz8_1,hcz8_2,hcz8_3,hcz8_4,hcz8_5,hcz8_6,hfz8_0,hfz8_1,hfz8_2,hfz8_3,hfz8_4,hfz8_5,hfz8_6⟩:=ck7 BK317.out
    go_wp2_with (first|((with_reducible refine gate_callee (f:=65) rfl ?_);refine gl (some 7) Try.func65 #[.agg #[.slice A0_0 l0_0.length c0_0,.int .i64 a0_1,.int .i64 a0_2,.int .i64 a0_3,.int .i64 a0_4]] ?_;(with_reducible refine (impl_QueueOk.calls k _ _ l0_0 a0_1 a0_2 a0_3 a0_4 true _ ?side1 ?side2 A4.out).mono ?_);(case side1=>exact kc HR0_0);(case side2=>exact HC0_0.out);rintro e w9 ⟨rfl,hb⟩;refine ⟨_,rfl,?_⟩;replace BK317:=Aside0.mk (blk_below (bk BK317) hb);replace HB:=Aside0.mk (below_step bl hb);(try clear hb);(try clear hb2);(try clear hk);(try clear hi);obtain ⟨hcz10_0,hcz10_1,hcz10_2,hcz10_3,hcz10_4,hcz10_5,hcz10_6,hfz10_0,hfz10_1,hfz10_2,hfz10_3,hfz10_4,hfz10_5,hfz10_6⟩:=ck7 BK317.out)|(go_at_call 66;(with_reducible refine (impl_HeapOk.calls k _ _ l0_5 a0_6 true _ ?side1 ?side2 A6.out).mono ?_);(case side1=>exact kc HR0_5);(case side2=>exact HC0_5.out);rintro e w11 ⟨rfl,hb⟩;replace BK317:=Aside0.mk (blk_below (bk BK317) hb);replace HB:=Aside0.mk (below_step bl hb);(try clear hb);(try clear hb2);(try clear hk);(try clear hi);obtain ⟨hcz12_0,hcz12_1,hcz12_2,hcz12_3,hcz12_4,hcz12_5,hcz12_6,hfz12_0,hfz12_1,hfz12_2,hfz12_3,hfz12_4,hfz12_5,hfz12_6⟩:=ck7 BK317.out))
    go_meet
    case rel=>exact ⟨_,(((l0_5.length:Int) != a0_4)),(by first|rfl|(simp;done)|(simp [*];done)),H',⟨by first|omega|exact Nat.le_refl _⟩,⟨bk BK317⟩,⟨bl⟩⟩
   ·replace c7:=Bool.eq_false_iff.mpr c7
    subst c7
    rw [if_neg nft] at H
    have H':=Aside0.mk H
    clear H
    obtain ⟨hcz13_0,hcz13_1,hcz13_2,hcz13_3,hcz13_4,hcz13_5,hcz13_6,hfz13_0,hfz13_1,hfz13_2,hfz13_3,hfz13_4,hfz13_5,hfz13_6⟩:=ck7 BK317.out
    go_wp2_with (first|((with_reducible refine gate_callee (f:=65) rfl ?_);refine gl (some 7) Try.func65 #[.agg #[.slice A0_0 l0_0.length c0_0,.int .i64 a0_1,.int .i64 a0_2,.int .i64 a0_3,.int .i64 a0_4]] ?_;(with_reducible refine (impl_QueueOk.calls k _ _ l0_0 a0_1 a0_2 a0_3 a0_4 true _ ?side1 ?side2 A4.out).mono ?_);(case side1=>exact kc HR0_0);(case side2=>exact HC0_0.out);rintro e w14 ⟨rfl,hb⟩;refine ⟨_,rfl,?_⟩;replace BK317:=Aside0.mk (blk_below (bk BK317) hb);replace HB:=Aside0.mk (below_step bl hb);(try clear hb);(try clear hb2);(try clear hk);(try clear hi);obtain ⟨hcz15_0,hcz15_1,hcz15_2,hcz15_3,hcz15_4,hcz15_5,hcz15_6,hfz15_0,hfz15_1,hfz15_2,hfz15_3,hfz15_4,hfz15_5,hfz15_6⟩:=ck7 BK317.out)|(go_at_call 66;(with_reducible refine (impl_HeapOk.calls k _ _ l0_5 a0_6 false _ ?side1 ?side2 A6.out).mono ?_);(case side1=>exact kc HR0_5);(case side2=>exact HC0_5.out);rintro e w16 ⟨rfl,hb⟩;replace BK317:=Aside0.mk (blk_below (bk BK317) hb);replace HB:=Aside0.mk (below_step bl hb);(try clear hb);(try clear hb2);(try clear hk);(try clear hi)))
    go_meet
    case rel=>exact ⟨_,(true),(by first|rfl|(simp;done)|(simp [*];done)),H',⟨by first|omega|exact Nat.le_refl _⟩,⟨bk BK317⟩,⟨bl⟩⟩
  ·replace c5:=Bool.eq_false_iff.mpr c5
   subst c5
   rw [if_neg nft] at H
   have H':=Aside0.mk H
   clear H
   obtain ⟨hcz17_0,hcz17_1,hcz17_2,hcz17_3,hcz17_4,hcz17_5,hcz17_6,hfz17_0,hfz17_1,hfz17_2,hfz17_3,hfz17_4,hfz17_5,hfz17_6⟩:=ck7 BK317.out
   go_wp2_with (first|((with_reducible refine gate_callee (f:=65) rfl ?_);refine gl (some 7) Try.func65 #[.agg #[.slice A0_0 l0_0.length c0_0,.int .i64 a0_1,.int .i64 a0_2,.int .i64 a0_3,.int .i64 a0_4]] ?_;(with_reducible refine (impl_QueueOk.calls k _ _ l0_0 a0_1 a0_2 a0_3 a0_4 false _ ?side1 ?side2 A4.out).mono ?_);(case side1=>exact kc HR0_0);(case side2=>exact HC0_0.out);rintro e w18 ⟨rfl,hb⟩;refine ⟨_,rfl,?_⟩;replace BK317:=Aside0.mk (blk_below (bk BK317) hb);replace HB:=Aside0.mk (below_step bl hb);(try clear hb);(try clear hb2);(try clear hk);(try clear hi)))
   go_meet
   case rel=>exact ⟨_,(true),(by first|rfl|(simp;done)|(simp [*];done)),H',⟨by first|omega|exact Nat.le_refl _⟩,⟨bk BK317⟩,⟨bl⟩⟩
 case rest =>
  clear HC2
  try clear c2
  try clear p2
  try clear c5
  try clear c6
  try clear c7
  try clear hcz10_0
  try clear hcz10_1
  try clear hcz10_2
  try clear hcz10_3
  try clear hcz10_4
  try clear hcz10_5
  try clear hcz10_6
  try clear hcz12_0
  try clear hcz12_1
  try clear hcz12_2
  try clear hcz12_3
  try clear hcz12_4
  try clear hcz12_5
  try clear hcz12_6
  try clear hcz13_0
  try clear hcz13_1
  try clear hcz13_2
  try clear hcz13_3
  try clear hcz13_4
  try clear hcz13_5
  try clear hcz13_6
  try clear hcz15_0
  try clear hcz15_1
  try clear hcz15_2
  try clear hcz15_3
  try clear hcz15_4
  try clear hcz15_5
  try clear hcz15_6
  try clear hcz17_0
  try clear hcz17_1
  try clear hcz17_2
  try clear hcz17_3
  try clear hcz17_4
  try clear hcz17_5
  try clear hcz17_6
  try clear hcz8_0
  try clear hcz8_1
  try clear hcz8_2
  try clear hcz8_3
  try clear hcz8_4
  try clear hcz8_5
  try clear hcz8_6
  try clear hfz10_0
  try clear hfz10_1
  try clear hfz10_2
  try clear hfz10_3
  try clear hfz10_4
  try clear hfz10_5
  try clear hfz10_6
  try clear hfz12_0
  try clear hfz12_1
  try clear hfz12_2
  try clear hfz12_3
  try clear hfz12_4
  try clear hfz12_5
  try clear hfz12_6
  try clear hfz13_0
  try clear hfz13_1
  try clear hfz13_2
  try clear hfz13_3
  try clear hfz13_4
  try clear hfz13_5
  try clear hfz13_6
  try clear hfz15_0
  try clear hfz15_1
  try clear hfz15_2
  try clear hfz15_3
  try clear hfz15_4
  try clear hfz15_5
  try clear hfz15_6
  try clear hfz17_0
  try clear hfz17_1
  try clear hfz17_2
  try clear hfz17_3
  try clear hfz17_4
  try clear hfz17_5
  try clear hfz17_6
  try clear hfz8_0
  try clear hfz8_1
  try clear hfz8_2
  try clear hfz8_3
  try clear hfz8_4
  try clear hfz8_5
  try clear hfz8_6
  obtain ⟨kq,x24_1,rfl,HA,HJ1,BK317,HB⟩:=hcut
  cases kq with
  | zero=>exact absurd HA.out (by simp [impl_LineOk.j0])
  | succ kj1 =>
   have H:=HA.out
   clear HA
   simp only [impl_LineOk.j0] at H
   by_cases c19:x24_1=true
   ·subst c19
    rw [if_pos rfl] at H
    obtain rfl:=Option.some.inj H
    go_wp2
    go_ret
    exact ⟨er,bl⟩
   ·replace c19:=Bool.eq_false_iff.mpr c19
    subst c19
    rw [if_neg nft] at H
    replace H:=Option.bind_eq_some_iff.mp H
    obtain ⟨t320,A200,H⟩:=H
    have A20:=Aside0.mk A200
    clear A200
    have H':=Aside0.mk H
    clear H
    obtain ⟨hcz21_0,hcz21_1,hcz21_2,hcz21_3,hcz21_4,hcz21_5,hcz21_6,hfz21_0,hfz21_1,hfz21_2,hfz21_3,hfz21_4,hfz21_5,hfz21_6⟩:=ck7 BK317.out
    go_wp2_with (first|((with_reducible refine gate_callee (f:=67) rfl ?_);refine gl (some 27) Try.func67 #[.agg #[.slice A0_0 l0_0.length c0_0,.int .i64 a0_1,.int .i64 a0_2,.int .i64 a0_3,.int .i64 a0_4]] ?_;(with_reducible refine (impl_ListQueue.calls kj1 _ _ l0_0 a0_1 a0_2 a0_3 a0_4 t320 _ ?side1 ?side2 A20.out).mono ?_);(case side1=>exact kc HR0_0);(case side2=>exact HC0_0.out);rintro e w22 ⟨v321,rfl,ho0,hb⟩;refine ⟨_,rfl,?_⟩;have HO322:=Aside0.mk (Kd.R_lower ho0 (below_size bl));replace BK317:=Aside0.mk (blk_below (bk BK317) hb);replace HB:=Aside0.mk (below_step bl hb);(try clear hb);(try clear hb2);(try clear hk);(try clear hi);(try clear ho0);obtain ⟨Ao23,co23,eo23⟩:=Kd.R_slice HO322.out;subst eo23))
    go_loopg [29] kj1 (fun kq v29 w'=>∃ (x29_2:Int),v29 = .int .i64 x29_2∧Aside0 (impl_LineOk.l0 kq t320 (t320.length:Int) x29_2 l0_0 a0_1 a0_2 a0_3 a0_4 l0_5 a0_6=some r)∧Aside0 (kq≤kj1)∧Aside0 (Kd.R (Kd.int .i64) 3 w' w.heap.size (fun _=>True) (.slice Ao23 t320.length co23) t320)∧Aside0 (w'.heap[gb317]? = some (.cells #[(.slice A0_0 l0_0.length c0_0),.int .i64 a0_1,.int .i64 a0_2,.int .i64 a0_3,.int .i64 a0_4,(.slice A0_5 l0_5.length c0_5),.int .i64 a0_6] 46 (0,0)))∧Aside0 (Below w.heap.size w w'))
    case atStart=>exact ⟨(0),(by first|rfl|(simp;done)|(simp [*];done)),H',⟨Nat.le_refl _⟩,⟨kr HO322⟩,⟨bk BK317⟩,⟨bl⟩⟩
    case round =>
     clear H'
     try clear c1
     try clear c2
     try clear p2
     try clear c5
     try clear c6
     try clear c7
     try clear c19
     try clear c22
     try clear hcz10_0
     try clear hcz10_1
     try clear hcz10_2
     try clear hcz10_3
     try clear hcz10_4
     try clear hcz10_5
     try clear hcz10_6
     try clear hcz12_0
     try clear hcz12_1
     try clear hcz12_2
     try clear hcz12_3
     try clear hcz12_4
     try clear hcz12_5
     try clear hcz12_6
     try clear hcz13_0
     try clear hcz13_1
     try clear hcz13_2
     try clear hcz13_3
     try clear hcz13_4
     try clear hcz13_5
     try clear hcz13_6
     try clear hcz15_0
     try clear hcz15_1
     try clear hcz15_2
     try clear hcz15_3
     try clear hcz15_4
     try clear hcz15_5
     try clear hcz15_6
     try clear hcz17_0
     try clear hcz17_1
     try clear hcz17_2
     try clear hcz17_3
     try clear hcz17_4
     try clear hcz17_5
     try clear hcz17_6
     try clear hcz21_0
     try clear hcz21_1
     try clear hcz21_2
     try clear hcz21_3
     try clear hcz21_4
     try clear hcz21_5
     try clear hcz21_6
     try clear hcz8_0
     try clear hcz8_1
     try clear hcz8_2
     try clear hcz8_3
     try clear hcz8_4
     try clear hcz8_5
     try clear hcz8_6
     try clear hfz10_0
     try clear hfz10_1
     try clear hfz10_2
     try clear hfz10_3
     try clear hfz10_4
     try clear hfz10_5
     try clear hfz10_6
     try clear hfz12_0
     try clear hfz12_1
     try clear hfz12_2
     try clear hfz12_3
     try clear hfz12_4
     try clear hfz12_5
     try clear hfz12_6
     try clear hfz13_0
     try clear hfz13_1
     try clear hfz13_2
     try clear hfz13_3
     try clear hfz13_4
     try clear hfz13_5
     try clear hfz13_6
     try clear hfz15_0
     try clear hfz15_1
     try clear hfz15_2
     try clear hfz15_3
     try clear hfz15_4
     try clear hfz15_5
     try clear hfz15_6
     try clear hfz17_0
     try clear hfz17_1
     try clear hfz17_2
     try clear hfz17_3
     try clear hfz17_4
     try clear hfz17_5
     try clear hfz17_6
     try clear hfz21_0
     try clear hfz21_1
     try clear hfz21_2
     try clear hfz21_3
     try clear hfz21_4
     try clear hfz21_5
     try clear hfz21_6
     try clear hfz8_0
     try clear hfz8_1
     try clear hfz8_2
     try clear hfz8_3
     try clear hfz8_4
     try clear hfz8_5
     try clear hfz8_6
     try clear p2
     obtain ⟨x29_2,rfl,HA,HK2,HO_27,BK317,HB⟩:=hrel
     cases gk with
     | zero=>exact absurd HA.out (by simp [impl_LineOk.l0])
     | succ k2 =>
      have H:=HA.out
      clear HA
      simp only [impl_LineOk.l0] at H
      by_cases c24:x29_2 < (t320.length:Int)
      ·rw [if_pos c24] at H
       have c24b0:decide (x29_2 < (t320.length:Int))=true:=decide_eq_true c24
       clear c24
       by_cases c25:0≤x29_2
       case neg =>
        rw [if_neg c25] at H
        exact absurd H (by simp)
       rw [if_pos c25] at H
       have c25b0:decide (0≤x29_2)=true:=decide_eq_true c25
       clear c25
       by_cases c26:x29_2 < (t320.length:Int)
       case neg =>
        rw [if_neg c26] at H
        exact absurd H (by simp)
       rw [if_pos c26] at H
       have c26b0:decide (x29_2 < (t320.length:Int))=true:=decide_eq_true c26
       clear c26
       replace H:=Option.bind_eq_some_iff.mp H
       obtain ⟨t324,A270,H⟩:=H
       have A27:=Aside0.mk A270
       clear A270
       by_cases c28:t324 < 0
       ·rw [if_pos c28] at H
        have c28b0:decide (t324 < 0)=true:=decide_eq_true c28
        clear c28
        obtain rfl:=Option.some.inj H
        have p323:0≤(x29_2:Int):=od
        have q323:x29_2 < (t320.length:Int):=od
        obtain ⟨ad323,e323,hx323_0⟩:=Kd.at_int (Kd.R_reads' HO_27.out).2.2 x29_2 p323 q323
        cases e323
        replace p323:=eq_true p323
        replace q323:=eq_true q323
        obtain ⟨hcz29_0,hcz29_1,hcz29_2,hcz29_3,hcz29_4,hcz29_5,hcz29_6,hfz29_0,hfz29_1,hfz29_2,hfz29_3,hfz29_4,hfz29_5,hfz29_6⟩:=ck7 BK317.out
        go_wp2_with (first|((with_reducible refine gate_callee (f:=68) rfl ?_);refine gl (some 36) Try.func68 #[.agg #[.slice A0_5 l0_5.length c0_5,.int .i64 a0_6],.int .i64 (rd t320 x29_2)] ?_;(with_reducible refine (impl_Heap_place.calls _ _ l0_5 a0_6 (rd t320 x29_2) t324 _ ?side1 ?side2 A27.out).mono ?_);(case side1=>exact kc HR0_5);(case side2=>exact HC0_5.out);rintro e w30 ⟨rfl,hb⟩;refine ⟨_,rfl,?_⟩;replace HO_27:=Aside0.mk (Kd.R_below (kr HO_27) hb);replace BK317:=Aside0.mk (blk_below (bk BK317) hb);replace HB:=Aside0.mk (below_step bl hb);(try clear hb);(try clear hb2);(try clear hk);(try clear hi)))
        go_ret
        exact ⟨er,bl⟩
       ·rw [if_neg c28] at H
        have c28b0:decide (t324 < 0)=false:=decide_eq_false c28
        clear c28
        have H':=Aside0.mk H
        clear H
        have p323:0≤(x29_2:Int):=od
        have q323:x29_2 < (t320.length:Int):=od
        obtain ⟨ad323,e323,hx323_0⟩:=Kd.at_int (Kd.R_reads' HO_27.out).2.2 x29_2 p323 q323
        cases e323
        replace p323:=eq_true p323
        replace q323:=eq_true q323
        obtain ⟨hcz31_0,hcz31_1,hcz31_2,hcz31_3,hcz31_4,hcz31_5,hcz31_6,hfz31_0,hfz31_1,hfz31_2,hfz31_3,hfz31_4,hfz31_5,hfz31_6⟩:=ck7 BK317.out
        go_wp2_with (first|((with_reducible refine gate_callee (f:=68) rfl ?_);refine gl (some 36) Try.func68 #[.agg #[.slice A0_5 l0_5.length c0_5,.int .i64 a0_6],.int .i64 (rd t320 x29_2)] ?_;(with_reducible refine (impl_Heap_place.calls _ _ l0_5 a0_6 (rd t320 x29_2) t324 _ ?side1 ?side2 A27.out).mono ?_);(case side1=>exact kc HR0_5);(case side2=>exact HC0_5.out);rintro e w32 ⟨rfl,hb⟩;refine ⟨_,rfl,?_⟩;replace HO_27:=Aside0.mk (Kd.R_below (kr HO_27) hb);replace BK317:=Aside0.mk (blk_below (bk BK317) hb);replace HB:=Aside0.mk (below_step bl hb);(try clear hb);(try clear hb2);(try clear hk);(try clear hi)))
        go_roundg k2
        case measure=>have:=HJ1.out;have:=HK2.out;omega
        case rel=>exact ⟨(wrap64 (x29_2 + 1)),(by first|rfl|(simp;done)|(simp [*];done)),H',⟨by have:=HJ1.out;have:=HK2.out;omega⟩,⟨kr HO_27⟩,⟨bk BK317⟩,⟨bl⟩⟩
      ·rw [if_neg c24] at H
       have c24b0:decide (x29_2 < (t320.length:Int))=false:=decide_eq_false c24
       clear c24
       obtain rfl:=Option.some.inj H
       go_wp2
       go_ret
       exact ⟨er,bl⟩

end Go.Proofs.Ytnkpjpfmjkiidaa.PFnExactNextExpiry
