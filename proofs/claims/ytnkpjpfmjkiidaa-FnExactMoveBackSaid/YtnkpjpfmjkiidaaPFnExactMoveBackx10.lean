/- Contracts of functions of the given program: what each call answers. Written by a program of this session, out of the text of the functions. -/
import Derived.Test.YtnkpjpfmjkiidaaPFnExactMoveBackx0
import Derived.Test.YtnkpjpfmjkiidaaPFnExactMoveBackx5
import Derived.Test.YtnkpjpfmjkiidaaPFnExactMoveBackx7
import Derived.Test.YtnkpjpfmjkiidaaPFnExactMoveBackx8
import Derived.Test.YtnkpjpfmjkiidaaPFnExactMoveBackx9
import Derived.Test.YtnkpjpfmjkiidaaZFnExactMoveBack
namespace Go.Proofs.Ytnkpjpfmjkiidaa.PFnExactMoveBack
open Go.RowKit Go.Proofs.YtnkpjpfmjkiidaaW.PrintWords Go.Proofs.YtnkpjpfmjkiidaaW.PrintLast Go.Proofs.YtnkpjpfmjkiidaaW.PrintMore Go.Proofs.Ytnkpjpfmjkiidaa.Giv Go.Proofs.Ytnkpjpfmjkiidaa.Prs
attribute [local go_sem] max2_int min2_int max_two min_two max_three min_three max_four min_four   -- for this text's walks alone
set_option linter.unusedVariables false
set_option linter.unusedSimpArgs false

/-! ### impl_PushBack: function 55 -/
def impl_PushBack.j0:Nat→Int→Bool→List (S97)→Int→Int→Int→Int→List (S97)→Int→Int→Int→Int→Option ((List (S97)) × Int × Int × Int × Int × Int)
 | 0,_,_,_,_,_,_,_,_,_,_,_,_=>none
 | k + 1,x1,x28,x286000,x286001,x286002,x286003,x286004,x295000,x295001,x295002,x295003,x295004=>if x28=true then (some (x295000,x295001,x295002,x295003,x295004,(-1))) else (if 0≤x286003 then (if x286003 < (x286000.length:Int) then (if x286003 < (x295000.length:Int) then ((some (x295000.set (x286003:Int).toNat (⟨x1,x286002,(-1),true⟩:S97):List (S97))).bind fun y299=>(if x286002 ≥ 0 then (if 0≤x286002 then (if x286002 < (x295000.length:Int) then (some ((y299.set (x286002:Int).toNat (⟨(rd_T97 y299 x286002).f0,(rd_T97 y299 x286002).f1,x286003,(rd_T97 y299 x286002).f3⟩:S97)),x295001,x286003,(rd_T97 x286000 x286003).f2,wrap64 (x295004 + 1),x286003)) else (none)) else (none)) else (some (y299,x286003,x286003,(rd_T97 x286000 x286003).f2,wrap64 (x295004 + 1),x286003)))) else (none)) else (none)) else (none))
def impl_PushBack.f (k:Nat) (l0_0:List (S97)) (a0_1:Int) (a0_2:Int) (a0_3:Int) (a0_4:Int) (a1:Int):Option ((List (S97)) × Int × Int × Int × Int × Int):=(impl_ownQueue.f l0_0 a0_1 a0_2 a0_3 a0_4).bind fun bt287=>((impl_QueueOk.f k l0_0 a0_1 a0_2 a0_3 a0_4).bind fun t295=>(if t295=true then (if a0_3 < 0 then (impl_PushBack.j0 k a1 true l0_0 a0_1 a0_2 a0_3 a0_4 bt287.1 bt287.2.1 bt287.2.2.1 bt287.2.2.2.1 bt287.2.2.2.2) else ((impl_isId.f a1).bind fun t296=>(if t296=true then ((impl_PlaceOf.f k l0_0 a0_1 a0_2 a0_3 a0_4 a1).bind fun t297=>(impl_PushBack.j0 k a1 (decide (t297 ≥ 0)) l0_0 a0_1 a0_2 a0_3 a0_4 bt287.1 bt287.2.1 bt287.2.2.1 bt287.2.2.2.1 bt287.2.2.2.2)) else (impl_PushBack.j0 k a1 true l0_0 a0_1 a0_2 a0_3 a0_4 bt287.1 bt287.2.1 bt287.2.2.1 bt287.2.2.2.1 bt287.2.2.2.2)))) else (impl_PushBack.j0 k a1 true l0_0 a0_1 a0_2 a0_3 a0_4 bt287.1 bt287.2.1 bt287.2.2.1 bt287.2.2.2.1 bt287.2.2.2.2)))
theorem impl_PushBack.mono_l:∀ k,(∀ y0 y1 y2 y3 y4 y5 y6 y7 y8 y9 y10 y11,LeO (impl_PushBack.j0 k y0 y1 y2 y3 y4 y5 y6 y7 y8 y9 y10 y11) (impl_PushBack.j0 (k + 1) y0 y1 y2 y3 y4 y5 y6 y7 y8 y9 y10 y11))
 | 0=>fun _ _ _ _ _ _ _ _ _ _ _ _ r h=>by simp [impl_PushBack.j0] at h
 | k + 1=>by
  have ih0:=impl_PushBack.mono_l k
  ·intro y0 y1 y2 y3 y4 y5 y6 y7 y8 y9 y10 y11
   unfold impl_PushBack.j0
   repeat' first
   | (with_reducible exact ih0 _ _ _ _ _ _ _ _ _ _ _ _)
   | (with_reducible exact impl_PlaceOf.mono _ _ _ _ _ _ _)
   | (with_reducible exact impl_QueueOk.mono _ _ _ _ _ _)
   | (with_reducible exact LeO.refl _)
   | (with_reducible exact LeO.none _)
   | (with_reducible refine LeO.ite ?_ ?_)
   | (with_reducible refine LeO.bind ?_ (fun _=>?_))
   | exact ih0 _ _ _ _ _ _ _ _ _ _ _ _
   | exact impl_PlaceOf.mono _ _ _ _ _ _ _
   | exact impl_QueueOk.mono _ _ _ _ _ _
   | exact LeO.none _
   | refine LeO.ite ?_ ?_
   | refine LeO.bind ?_ (fun _=>?_)
theorem impl_PushBack.mono:∀ a0 a1 a2 a3 a4 a5 k,LeO (impl_PushBack.f k a0 a1 a2 a3 a4 a5) (impl_PushBack.f (k + 1) a0 a1 a2 a3 a4 a5):=by
 intro a0 a1 a2 a3 a4 a5 k
 have ih0:=impl_PushBack.mono_l k
 unfold impl_PushBack.f
 repeat' first
   | (with_reducible exact ih0 _ _ _ _ _ _ _ _ _ _ _ _)
   | (with_reducible exact impl_PlaceOf.mono _ _ _ _ _ _ _)
   | (with_reducible exact impl_QueueOk.mono _ _ _ _ _ _)
   | (with_reducible exact LeO.refl _)
   | (with_reducible exact LeO.none _)
   | (with_reducible refine LeO.ite ?_ ?_)
   | (with_reducible refine LeO.bind ?_ (fun _=>?_))
   | exact ih0 _ _ _ _ _ _ _ _ _ _ _ _
   | exact impl_PlaceOf.mono _ _ _ _ _ _ _
   | exact impl_QueueOk.mono _ _ _ _ _ _
   | exact LeO.none _
   | refine LeO.ite ?_ ?_
   | refine LeO.bind ?_ (fun _=>?_)
set_option maxHeartbeats 8000000 in
set_option maxRecDepth 100000 in
theorem impl_PushBack.calls (k:Nat) (A0_0:Option Addr) (c0_0:Nat) (l0_0:List (S97)) (a0_1:Int) (a0_2:Int) (a0_3:Int) (a0_4:Int) (a1:Int) (r1:List (S97)) (r2:Int) (r3:Int) (r4:Int) (r5:Int) (r6:Int) (w:World) (hr0_0:Kd.C k97 w A0_0 l0_0.length l0_0) (hc0_0:l0_0.length≤c0_0) (h:impl_PushBack.f k l0_0 a0_1 a0_2 a0_3 a0_4 a1=some (r1,r2,r3,r4,r5,r6)) :
  Calls Try.prog 55 #[.agg #[.slice A0_0 l0_0.length c0_0,.int .i64 a0_1,.int .i64 a0_2,.int .i64 a0_3,.int .i64 a0_4],.int .i64 a1] w fun e w'=>∃ v0_:Value,e = .returned (.tuple #[.agg #[v0_,.int .i64 r2,.int .i64 r3,.int .i64 r4,.int .i64 r5],.int .i64 r6])∧Kd.R k97 97 w' w.heap.size (fun _=>True) v0_ r1∧Below w.heap.size w w':=by
 have hu28:=Try.underlying28
 have hu97:=Try.underlying97
 have HR0_0:=Aside0.mk hr0_0
 have HC0_0:=Aside0.mk hc0_0
 clear hr0_0 hc0_0
 have HB:=Aside0.mk (Below.refl w.heap.size w)
 have H:((impl_ownQueue.f l0_0 a0_1 a0_2 a0_3 a0_4).bind fun bt287=>((impl_QueueOk.f k l0_0 a0_1 a0_2 a0_3 a0_4).bind fun t295=>(if t295=true then (if a0_3 < 0 then (impl_PushBack.j0 k a1 true l0_0 a0_1 a0_2 a0_3 a0_4 bt287.1 bt287.2.1 bt287.2.2.1 bt287.2.2.2.1 bt287.2.2.2.2) else ((impl_isId.f a1).bind fun t296=>(if t296=true then ((impl_PlaceOf.f k l0_0 a0_1 a0_2 a0_3 a0_4 a1).bind fun t297=>(impl_PushBack.j0 k a1 (decide (t297 ≥ 0)) l0_0 a0_1 a0_2 a0_3 a0_4 bt287.1 bt287.2.1 bt287.2.2.1 bt287.2.2.2.1 bt287.2.2.2.2)) else (impl_PushBack.j0 k a1 true l0_0 a0_1 a0_2 a0_3 a0_4 bt287.1 bt287.2.1 bt287.2.2.1 bt287.2.2.2.1 bt287.2.2.2.2)))) else (impl_PushBack.j0 k a1 true l0_0 a0_1 a0_2 a0_3 a0_4 bt287.1 bt287.2.1 bt287.2.2.1 bt287.2.2.2.1 bt287.2.2.2.2))))=some (r1,r2,r3,r4,r5,r6):=h
 clear h
 replace H:=Option.bind_eq_some_iff.mp H
 obtain ⟨⟨t287,t290,t291,t292,t293⟩,A30,H⟩:=H
 replace H:((impl_QueueOk.f k l0_0 a0_1 a0_2 a0_3 a0_4).bind fun t295=>(if t295=true then (if a0_3 < 0 then (impl_PushBack.j0 k a1 true l0_0 a0_1 a0_2 a0_3 a0_4 t287 t290 t291 t292 t293) else ((impl_isId.f a1).bind fun t296=>(if t296=true then ((impl_PlaceOf.f k l0_0 a0_1 a0_2 a0_3 a0_4 a1).bind fun t297=>(impl_PushBack.j0 k a1 (decide (t297 ≥ 0)) l0_0 a0_1 a0_2 a0_3 a0_4 t287 t290 t291 t292 t293)) else (impl_PushBack.j0 k a1 true l0_0 a0_1 a0_2 a0_3 a0_4 t287 t290 t291 t292 t293)))) else (impl_PushBack.j0 k a1 true l0_0 a0_1 a0_2 a0_3 a0_4 t287 t290 t291 t292 t293)))=some (r1,r2,r3,r4,r5,r6):=H
 have A3:=Aside0.mk A30
 clear A30
 have HC4:=Aside0.mk H
 clear H
 go_enter Try.func55,Try.ntmps55
 go_upto_region 2 with (first|((with_reducible refine gate_dst (N:=2) rfl ?_);refine bx 2 #[.slice A0_0 l0_0.length c0_0,.int .i64 a0_1,.int .i64 a0_2,.int .i64 a0_3,.int .i64 a0_4] 28 ?_;intro gb285 hg w5 hbox hb;have BK285:=Aside0.mk (hbox);have GW285:=Aside0.mk (bz hg:w.heap.size≤gb285);have GE285:=GW285;replace HB:=Aside0.mk (below_step bl hb);clear hb hbox hg)|((with_reducible refine gate_dst (N:=4) rfl ?_);refine bx 4 #[.slice none 0 0,.int .i64 0,.int .i64 0,.int .i64 0,.int .i64 0] 28 ?_;intro gb286 hg w6 hbox hb;have BK286:=Aside0.mk (hbox);have GW286:=Aside0.mk (bz hg:w.heap.size≤gb286);have GE286:=GW286;replace HB:=Aside0.mk (below_step bl hb);have NB285_286:=Aside0.mk (nl hg BK285:gb285≠gb286);have NB286_285:=Aside0.mk (nr hg BK285:gb286≠gb285);replace BK285:=Aside0.mk (blk_below (bk BK285) hb);clear hb hbox hg;have hnb7:=NB285_286.out;have hnc7:=NB286_285.out;obtain ⟨hcz8_0,hcz8_1,hcz8_2,hcz8_3,hcz8_4,hfz8_0,hfz8_1,hfz8_2,hfz8_3,hfz8_4⟩:=ck5 BK285.out)|((with_reducible refine gate_callee (f:=53) rfl ?_);refine gl Try.func53 #[.agg #[.slice A0_0 l0_0.length c0_0,.int .i64 a0_1,.int .i64 a0_2,.int .i64 a0_3,.int .i64 a0_4]] ?_;(with_reducible refine (impl_ownQueue.calls _ _ l0_0 a0_1 a0_2 a0_3 a0_4 t287 t290 t291 t292 t293 _ ?side1 ?side2 A3.out).mono ?_);(case side1=>exact kc HR0_0);(case side2=>exact HC0_0.out);rintro e w9 ⟨v288,rfl,ho0,hb⟩;refine ⟨_,rfl,?_⟩;have HO289:=Aside0.mk (Kd.R_lower ho0 (below_size bl));replace BK285:=Aside0.mk (blk_below (bk BK285) hb);replace BK286:=Aside0.mk (blk_below (bk BK286) hb);replace HB:=Aside0.mk (below_step bl hb);(try clear hb);(try clear hb2);(try clear hk);(try clear hi);(try clear ho0))|((with_reducible refine gate_dst (N:=6) rfl ?_);refine bx 6 #[.slice none 0 0,.int .i64 0,.int .i64 0,.int .i64 0,.int .i64 0] 28 ?_;intro gb294 hg w10 hbox hb;replace HO289:=Aside0.mk (Kd.R_below (kr HO289) hb);have BK294:=Aside0.mk (hbox);have GW294:=Aside0.mk (bz hg:w.heap.size≤gb294);have GE294:=GW294;replace HB:=Aside0.mk (below_step bl hb);have NB285_294:=Aside0.mk (nl hg BK285:gb285≠gb294);have NB294_285:=Aside0.mk (nr hg BK285:gb294≠gb285);replace BK285:=Aside0.mk (blk_below (bk BK285) hb);have NB286_294:=Aside0.mk (nl hg BK286:gb286≠gb294);have NB294_286:=Aside0.mk (nr hg BK286:gb294≠gb286);replace BK286:=Aside0.mk (blk_below (bk BK286) hb);clear hb hbox hg;obtain ⟨Ao11,co11,eo11⟩:=Kd.R_slice HO289.out;subst eo11;have hnb12:=NB294_285.out;have hnc12:=NB285_294.out;have hnb13:=NB294_286.out;have hnc13:=NB286_294.out;obtain ⟨hcz14_0,hcz14_1,hcz14_2,hcz14_3,hcz14_4,hfz14_0,hfz14_1,hfz14_2,hfz14_3,hfz14_4⟩:=ck5 BK294.out))
 (try simp only [Act.put,List.setIfInBounds_toArray,List.set_cons_zero,List.set_cons_succ])
 go_cut [28] (fun v28 wc=>∃ (kq:Nat) (x28_3:Bool),v28 = .bool x28_3∧Aside0 (impl_PushBack.j0 kq a1 x28_3 l0_0 a0_1 a0_2 a0_3 a0_4 t287 t290 t291 t292 t293=some (r1,r2,r3,r4,r5,r6))∧Aside0 (kq≤k)∧Aside0 (Kd.R k97 97 wc w.heap.size (fun _=>True) (.slice Ao11 t287.length co11) t287)∧Aside0 (wc.heap[gb285]? = some (.cells #[(.slice A0_0 l0_0.length c0_0),.int .i64 a0_1,.int .i64 a0_2,.int .i64 a0_3,.int .i64 a0_4] 28 (0,0)))∧Aside0 (wc.heap[gb286]? = some (.cells #[(.slice none 0 0),.int .i64 0,.int .i64 0,.int .i64 0,.int .i64 0] 28 (0,0)))∧Aside0 (wc.heap[gb294]? = some (.cells #[(.slice Ao11 t287.length co11),.int .i64 t290,.int .i64 t291,.int .i64 t292,.int .i64 t293] 28 (0,0)))∧Aside0 (Below w.heap.size w wc))
 case first =>
  have H:=HC4.out
  clear HC4
  replace H:=Option.bind_eq_some_iff.mp H
  obtain ⟨t295,A150,H⟩:=H
  have A15:=Aside0.mk A150
  clear A150
  by_cases c16:t295=true
  ·subst c16
   rw [if_pos rfl] at H
   by_cases c17:a0_3 < 0
   ·rw [if_pos c17] at H
    have c17b0:decide (a0_3 < 0)=true:=decide_eq_true c17
    clear c17
    (first|rw [c17b0]|(simp only [i64_w,i32_w];rw [c17b0])|skip)
    have H':=Aside0.mk H
    clear H
    have hnb18:=NB285_286.out
    have hnc18:=NB286_285.out
    have hnb19:=NB285_294.out
    have hnc19:=NB294_285.out
    obtain ⟨hcz20_0,hcz20_1,hcz20_2,hcz20_3,hcz20_4,hfz20_0,hfz20_1,hfz20_2,hfz20_3,hfz20_4⟩:=ck5 BK285.out
    go_wp2_with (first|((with_reducible refine gate_callee (f:=65) rfl ?_);refine gl Try.func65 #[.agg #[.slice A0_0 l0_0.length c0_0,.int .i64 a0_1,.int .i64 a0_2,.int .i64 a0_3,.int .i64 a0_4]] ?_;(with_reducible refine (impl_QueueOk.calls k _ _ l0_0 a0_1 a0_2 a0_3 a0_4 true _ ?side1 ?side2 A15.out).mono ?_);(case side1=>exact Kd.C_below HR0_0.out bl);(case side2=>exact HC0_0.out);rintro e w21 ⟨rfl,hb⟩;refine ⟨_,rfl,?_⟩;replace HO289:=Aside0.mk (Kd.R_below (by (with_reducible repeat (first|apply Kd.R_alloc|apply Kd.R_drewN|apply Kd.R_drew));exact (Kd.R_mono (Kd.R_far (p:=⟨gb294,4,none⟩) (Kd.R_far (p:=⟨gb294,3,none⟩) (Kd.R_far (p:=⟨gb294,2,none⟩) (Kd.R_far (p:=⟨gb294,1,none⟩) (Kd.R_far (p:=⟨gb294,0,none⟩) (Kd.R_types HO289.out BK294.out (by decide)) (fun _ hk=>hk.2) (.slice Ao11 t287.length co11)) (fun _ hk=>hk.2) (.int .i64 t290)) (fun _ hk=>hk.2) (.int .i64 t291)) (fun _ hk=>hk.2) (.int .i64 t292)) (fun _ hk=>hk.2) (.int .i64 t293)) (fun _ h_=>h_.1))) hb);replace BK285:=Aside0.mk (blk_below (g:=gb285) (o:=.cells #[.slice A0_0 l0_0.length c0_0,.int .i64 a0_1,.int .i64 a0_2,.int .i64 a0_3,.int .i64 a0_4] 28 (0,0)) (bf BK285) hb);replace BK286:=Aside0.mk (blk_below (g:=gb286) (o:=.cells #[.slice none 0 0,.int .i64 0,.int .i64 0,.int .i64 0,.int .i64 0] 28 (0,0)) (bf BK286) hb);replace BK294:=Aside0.mk (blk_below (g:=gb294) (o:=.cells #[.slice Ao11 t287.length co11,.int .i64 t290,.int .i64 t291,.int .i64 t292,.int .i64 t293] 28 (0,0)) (by (with_reducible repeat (first|refine blk_drewN ?_ _|refine blk_drew ?_|refine blk_alloc ?_ _));refine blk_put (cs:=#[.slice Ao11 t287.length co11,.int .i64 t290,.int .i64 t291,.int .i64 t292,.int .i64 0]) ?_ 4 _ rfl;(with_reducible repeat (first|refine blk_drewN ?_ _|refine blk_drew ?_|refine blk_alloc ?_ _));refine blk_put (cs:=#[.slice Ao11 t287.length co11,.int .i64 t290,.int .i64 t291,.int .i64 0,.int .i64 0]) ?_ 3 _ rfl;(with_reducible repeat (first|refine blk_drewN ?_ _|refine blk_drew ?_|refine blk_alloc ?_ _));refine blk_put (cs:=#[.slice Ao11 t287.length co11,.int .i64 t290,.int .i64 0,.int .i64 0,.int .i64 0]) ?_ 2 _ rfl;(with_reducible repeat (first|refine blk_drewN ?_ _|refine blk_drew ?_|refine blk_alloc ?_ _));refine blk_put (cs:=#[.slice Ao11 t287.length co11,.int .i64 0,.int .i64 0,.int .i64 0,.int .i64 0]) ?_ 1 _ rfl;(with_reducible repeat (first|refine blk_drewN ?_ _|refine blk_drew ?_|refine blk_alloc ?_ _));refine blk_put (cs:=#[.slice none 0 0,.int .i64 0,.int .i64 0,.int .i64 0,.int .i64 0]) ?_ 0 _ rfl;(with_reducible repeat (first|refine blk_drewN ?_ _|refine blk_drew ?_|refine blk_alloc ?_ _));exact BK294.out) hb);replace HB:=Aside0.mk (below_step bl hb);(try clear hb);(try clear hb2);(try clear hk);(try clear hi);obtain ⟨hcz22_0,hcz22_1,hcz22_2,hcz22_3,hcz22_4,hfz22_0,hfz22_1,hfz22_2,hfz22_3,hfz22_4⟩:=ck5 BK285.out))
    go_meet
    case rel=>exact ⟨_,(true),(by first|rfl|(simp;done)|(simp [*];done)),H',⟨by first|omega|exact Nat.le_refl _⟩,⟨kr HO289⟩,⟨bk BK285⟩,⟨bk BK286⟩,⟨bk BK294⟩,⟨bl⟩⟩
   ·rw [if_neg c17] at H
    have c17b0:decide (a0_3 < 0)=false:=decide_eq_false c17
    clear c17
    (first|rw [c17b0]|(simp only [i64_w,i32_w];rw [c17b0])|skip)
    replace H:=Option.bind_eq_some_iff.mp H
    obtain ⟨t296,A230,H⟩:=H
    have A23:=Aside0.mk A230
    clear A230
    by_cases c24:t296=true
    ·subst c24
     rw [if_pos rfl] at H
     replace H:=Option.bind_eq_some_iff.mp H
     obtain ⟨t297,A250,H⟩:=H
     have A25:=Aside0.mk A250
     clear A250
     have H':=Aside0.mk H
     clear H
     have hnb26:=NB285_286.out
     have hnc26:=NB286_285.out
     have hnb27:=NB285_294.out
     have hnc27:=NB294_285.out
     obtain ⟨hcz28_0,hcz28_1,hcz28_2,hcz28_3,hcz28_4,hfz28_0,hfz28_1,hfz28_2,hfz28_3,hfz28_4⟩:=ck5 BK285.out
     go_wp2_with (first|((with_reducible refine gate_callee (f:=65) rfl ?_);refine gl Try.func65 #[.agg #[.slice A0_0 l0_0.length c0_0,.int .i64 a0_1,.int .i64 a0_2,.int .i64 a0_3,.int .i64 a0_4]] ?_;(with_reducible refine (impl_QueueOk.calls k _ _ l0_0 a0_1 a0_2 a0_3 a0_4 true _ ?side1 ?side2 A15.out).mono ?_);(case side1=>exact Kd.C_below HR0_0.out bl);(case side2=>exact HC0_0.out);rintro e w29 ⟨rfl,hb⟩;refine ⟨_,rfl,?_⟩;replace HO289:=Aside0.mk (Kd.R_below (by (with_reducible repeat (first|apply Kd.R_alloc|apply Kd.R_drewN|apply Kd.R_drew));exact (Kd.R_mono (Kd.R_far (p:=⟨gb294,4,none⟩) (Kd.R_far (p:=⟨gb294,3,none⟩) (Kd.R_far (p:=⟨gb294,2,none⟩) (Kd.R_far (p:=⟨gb294,1,none⟩) (Kd.R_far (p:=⟨gb294,0,none⟩) (Kd.R_types HO289.out BK294.out (by decide)) (fun _ hk=>hk.2) (.slice Ao11 t287.length co11)) (fun _ hk=>hk.2) (.int .i64 t290)) (fun _ hk=>hk.2) (.int .i64 t291)) (fun _ hk=>hk.2) (.int .i64 t292)) (fun _ hk=>hk.2) (.int .i64 t293)) (fun _ h_=>h_.1))) hb);replace BK285:=Aside0.mk (blk_below (g:=gb285) (o:=.cells #[.slice A0_0 l0_0.length c0_0,.int .i64 a0_1,.int .i64 a0_2,.int .i64 a0_3,.int .i64 a0_4] 28 (0,0)) (bf BK285) hb);replace BK286:=Aside0.mk (blk_below (g:=gb286) (o:=.cells #[.slice none 0 0,.int .i64 0,.int .i64 0,.int .i64 0,.int .i64 0] 28 (0,0)) (bf BK286) hb);replace BK294:=Aside0.mk (blk_below (g:=gb294) (o:=.cells #[.slice Ao11 t287.length co11,.int .i64 t290,.int .i64 t291,.int .i64 t292,.int .i64 t293] 28 (0,0)) (by (with_reducible repeat (first|refine blk_drewN ?_ _|refine blk_drew ?_|refine blk_alloc ?_ _));refine blk_put (cs:=#[.slice Ao11 t287.length co11,.int .i64 t290,.int .i64 t291,.int .i64 t292,.int .i64 0]) ?_ 4 _ rfl;(with_reducible repeat (first|refine blk_drewN ?_ _|refine blk_drew ?_|refine blk_alloc ?_ _));refine blk_put (cs:=#[.slice Ao11 t287.length co11,.int .i64 t290,.int .i64 t291,.int .i64 0,.int .i64 0]) ?_ 3 _ rfl;(with_reducible repeat (first|refine blk_drewN ?_ _|refine blk_drew ?_|refine blk_alloc ?_ _));refine blk_put (cs:=#[.slice Ao11 t287.length co11,.int .i64 t290,.int .i64 0,.int .i64 0,.int .i64 0]) ?_ 2 _ rfl;(with_reducible repeat (first|refine blk_drewN ?_ _|refine blk_drew ?_|refine blk_alloc ?_ _));refine blk_put (cs:=#[.slice Ao11 t287.length co11,.int .i64 0,.int .i64 0,.int .i64 0,.int .i64 0]) ?_ 1 _ rfl;(with_reducible repeat (first|refine blk_drewN ?_ _|refine blk_drew ?_|refine blk_alloc ?_ _));refine blk_put (cs:=#[.slice none 0 0,.int .i64 0,.int .i64 0,.int .i64 0,.int .i64 0]) ?_ 0 _ rfl;(with_reducible repeat (first|refine blk_drewN ?_ _|refine blk_drew ?_|refine blk_alloc ?_ _));exact BK294.out) hb);replace HB:=Aside0.mk (below_step bl hb);(try clear hb);(try clear hb2);(try clear hk);(try clear hi);obtain ⟨hcz30_0,hcz30_1,hcz30_2,hcz30_3,hcz30_4,hfz30_0,hfz30_1,hfz30_2,hfz30_3,hfz30_4⟩:=ck5 BK285.out)|(go_at_call 89;(with_reducible refine (impl_isId.calls a1 true _ A23.out).mono ?_);rintro e w' ⟨rfl,⟨nd,rfl⟩⟩)|(go_at_call 52;(with_reducible refine (impl_PlaceOf.calls k _ _ l0_0 a0_1 a0_2 a0_3 a0_4 a1 t297 _ ?side1 ?side2 A25.out).mono ?_);(case side1=>repeat (first|exact (Kd.C_below HR0_0.out bl)|(with_reducible refine Kd.C_alloc ?_ _)|(with_reducible refine Kd.C_drewN ?_ _)|(with_reducible refine Kd.C_drew ?_)));(case side2=>exact HC0_0.out);rintro e w31 ⟨rfl,hb⟩;replace HO289:=Aside0.mk (Kd.R_below (kr HO289) hb);replace BK285:=Aside0.mk (blk_below (bk BK285) hb);replace BK286:=Aside0.mk (blk_below (bk BK286) hb);replace BK294:=Aside0.mk (blk_below (bk BK294) hb);replace HB:=Aside0.mk (below_step bl hb);(try clear hb);(try clear hb2);(try clear hk);(try clear hi)))
     go_meet
     case rel=>exact ⟨_,(decide (t297 ≥ 0)),(by first|rfl|(simp;done)|(simp [*];done)),H',⟨by first|omega|exact Nat.le_refl _⟩,⟨kr HO289⟩,⟨bk BK285⟩,⟨bk BK286⟩,⟨bk BK294⟩,⟨bl⟩⟩
    ·replace c24:=Bool.eq_false_iff.mpr c24
     subst c24
     rw [if_neg nft] at H
     have H':=Aside0.mk H
     clear H
     have hnb32:=NB285_286.out
     have hnc32:=NB286_285.out
     have hnb33:=NB285_294.out
     have hnc33:=NB294_285.out
     obtain ⟨hcz34_0,hcz34_1,hcz34_2,hcz34_3,hcz34_4,hfz34_0,hfz34_1,hfz34_2,hfz34_3,hfz34_4⟩:=ck5 BK285.out
     go_wp2_with (first|((with_reducible refine gate_callee (f:=65) rfl ?_);refine gl Try.func65 #[.agg #[.slice A0_0 l0_0.length c0_0,.int .i64 a0_1,.int .i64 a0_2,.int .i64 a0_3,.int .i64 a0_4]] ?_;(with_reducible refine (impl_QueueOk.calls k _ _ l0_0 a0_1 a0_2 a0_3 a0_4 true _ ?side1 ?side2 A15.out).mono ?_);(case side1=>exact Kd.C_below HR0_0.out bl);(case side2=>exact HC0_0.out);rintro e w35 ⟨rfl,hb⟩;refine ⟨_,rfl,?_⟩;replace HO289:=Aside0.mk (Kd.R_below (by (with_reducible repeat (first|apply Kd.R_alloc|apply Kd.R_drewN|apply Kd.R_drew));exact (Kd.R_mono (Kd.R_far (p:=⟨gb294,4,none⟩) (Kd.R_far (p:=⟨gb294,3,none⟩) (Kd.R_far (p:=⟨gb294,2,none⟩) (Kd.R_far (p:=⟨gb294,1,none⟩) (Kd.R_far (p:=⟨gb294,0,none⟩) (Kd.R_types HO289.out BK294.out (by decide)) (fun _ hk=>hk.2) (.slice Ao11 t287.length co11)) (fun _ hk=>hk.2) (.int .i64 t290)) (fun _ hk=>hk.2) (.int .i64 t291)) (fun _ hk=>hk.2) (.int .i64 t292)) (fun _ hk=>hk.2) (.int .i64 t293)) (fun _ h_=>h_.1))) hb);replace BK285:=Aside0.mk (blk_below (g:=gb285) (o:=.cells #[.slice A0_0 l0_0.length c0_0,.int .i64 a0_1,.int .i64 a0_2,.int .i64 a0_3,.int .i64 a0_4] 28 (0,0)) (bf BK285) hb);replace BK286:=Aside0.mk (blk_below (g:=gb286) (o:=.cells #[.slice none 0 0,.int .i64 0,.int .i64 0,.int .i64 0,.int .i64 0] 28 (0,0)) (bf BK286) hb);replace BK294:=Aside0.mk (blk_below (g:=gb294) (o:=.cells #[.slice Ao11 t287.length co11,.int .i64 t290,.int .i64 t291,.int .i64 t292,.int .i64 t293] 28 (0,0)) (by (with_reducible repeat (first|refine blk_drewN ?_ _|refine blk_drew ?_|refine blk_alloc ?_ _));refine blk_put (cs:=#[.slice Ao11 t287.length co11,.int .i64 t290,.int .i64 t291,.int .i64 t292,.int .i64 0]) ?_ 4 _ rfl;(with_reducible repeat (first|refine blk_drewN ?_ _|refine blk_drew ?_|refine blk_alloc ?_ _));refine blk_put (cs:=#[.slice Ao11 t287.length co11,.int .i64 t290,.int .i64 t291,.int .i64 0,.int .i64 0]) ?_ 3 _ rfl;(with_reducible repeat (first|refine blk_drewN ?_ _|refine blk_drew ?_|refine blk_alloc ?_ _));refine blk_put (cs:=#[.slice Ao11 t287.length co11,.int .i64 t290,.int .i64 0,.int .i64 0,.int .i64 0]) ?_ 2 _ rfl;(with_reducible repeat (first|refine blk_drewN ?_ _|refine blk_drew ?_|refine blk_alloc ?_ _));refine blk_put (cs:=#[.slice Ao11 t287.length co11,.int .i64 0,.int .i64 0,.int .i64 0,.int .i64 0]) ?_ 1 _ rfl;(with_reducible repeat (first|refine blk_drewN ?_ _|refine blk_drew ?_|refine blk_alloc ?_ _));refine blk_put (cs:=#[.slice none 0 0,.int .i64 0,.int .i64 0,.int .i64 0,.int .i64 0]) ?_ 0 _ rfl;(with_reducible repeat (first|refine blk_drewN ?_ _|refine blk_drew ?_|refine blk_alloc ?_ _));exact BK294.out) hb);replace HB:=Aside0.mk (below_step bl hb);(try clear hb);(try clear hb2);(try clear hk);(try clear hi);obtain ⟨hcz36_0,hcz36_1,hcz36_2,hcz36_3,hcz36_4,hfz36_0,hfz36_1,hfz36_2,hfz36_3,hfz36_4⟩:=ck5 BK285.out)|(go_at_call 89;(with_reducible refine (impl_isId.calls a1 false _ A23.out).mono ?_);rintro e w' ⟨rfl,⟨nd,rfl⟩⟩))
     go_meet
     case rel=>exact ⟨_,(true),(by first|rfl|(simp;done)|(simp [*];done)),H',⟨by first|omega|exact Nat.le_refl _⟩,⟨kr HO289⟩,⟨bk BK285⟩,⟨bk BK286⟩,⟨bk BK294⟩,⟨bl⟩⟩
  ·replace c16:=Bool.eq_false_iff.mpr c16
   subst c16
   rw [if_neg nft] at H
   have H':=Aside0.mk H
   clear H
   have hnb37:=NB285_286.out
   have hnc37:=NB286_285.out
   have hnb38:=NB285_294.out
   have hnc38:=NB294_285.out
   obtain ⟨hcz39_0,hcz39_1,hcz39_2,hcz39_3,hcz39_4,hfz39_0,hfz39_1,hfz39_2,hfz39_3,hfz39_4⟩:=ck5 BK285.out
   go_wp2_with (first|((with_reducible refine gate_callee (f:=65) rfl ?_);refine gl Try.func65 #[.agg #[.slice A0_0 l0_0.length c0_0,.int .i64 a0_1,.int .i64 a0_2,.int .i64 a0_3,.int .i64 a0_4]] ?_;(with_reducible refine (impl_QueueOk.calls k _ _ l0_0 a0_1 a0_2 a0_3 a0_4 false _ ?side1 ?side2 A15.out).mono ?_);(case side1=>exact Kd.C_below HR0_0.out bl);(case side2=>exact HC0_0.out);rintro e w40 ⟨rfl,hb⟩;refine ⟨_,rfl,?_⟩;replace HO289:=Aside0.mk (Kd.R_below (by (with_reducible repeat (first|apply Kd.R_alloc|apply Kd.R_drewN|apply Kd.R_drew));exact (Kd.R_mono (Kd.R_far (p:=⟨gb294,4,none⟩) (Kd.R_far (p:=⟨gb294,3,none⟩) (Kd.R_far (p:=⟨gb294,2,none⟩) (Kd.R_far (p:=⟨gb294,1,none⟩) (Kd.R_far (p:=⟨gb294,0,none⟩) (Kd.R_types HO289.out BK294.out (by decide)) (fun _ hk=>hk.2) (.slice Ao11 t287.length co11)) (fun _ hk=>hk.2) (.int .i64 t290)) (fun _ hk=>hk.2) (.int .i64 t291)) (fun _ hk=>hk.2) (.int .i64 t292)) (fun _ hk=>hk.2) (.int .i64 t293)) (fun _ h_=>h_.1))) hb);replace BK285:=Aside0.mk (blk_below (g:=gb285) (o:=.cells #[.slice A0_0 l0_0.length c0_0,.int .i64 a0_1,.int .i64 a0_2,.int .i64 a0_3,.int .i64 a0_4] 28 (0,0)) (bf BK285) hb);replace BK286:=Aside0.mk (blk_below (g:=gb286) (o:=.cells #[.slice none 0 0,.int .i64 0,.int .i64 0,.int .i64 0,.int .i64 0] 28 (0,0)) (bf BK286) hb);replace BK294:=Aside0.mk (blk_below (g:=gb294) (o:=.cells #[.slice Ao11 t287.length co11,.int .i64 t290,.int .i64 t291,.int .i64 t292,.int .i64 t293] 28 (0,0)) (by (with_reducible repeat (first|refine blk_drewN ?_ _|refine blk_drew ?_|refine blk_alloc ?_ _));refine blk_put (cs:=#[.slice Ao11 t287.length co11,.int .i64 t290,.int .i64 t291,.int .i64 t292,.int .i64 0]) ?_ 4 _ rfl;(with_reducible repeat (first|refine blk_drewN ?_ _|refine blk_drew ?_|refine blk_alloc ?_ _));refine blk_put (cs:=#[.slice Ao11 t287.length co11,.int .i64 t290,.int .i64 t291,.int .i64 0,.int .i64 0]) ?_ 3 _ rfl;(with_reducible repeat (first|refine blk_drewN ?_ _|refine blk_drew ?_|refine blk_alloc ?_ _));refine blk_put (cs:=#[.slice Ao11 t287.length co11,.int .i64 t290,.int .i64 0,.int .i64 0,.int .i64 0]) ?_ 2 _ rfl;(with_reducible repeat (first|refine blk_drewN ?_ _|refine blk_drew ?_|refine blk_alloc ?_ _));refine blk_put (cs:=#[.slice Ao11 t287.length co11,.int .i64 0,.int .i64 0,.int .i64 0,.int .i64 0]) ?_ 1 _ rfl;(with_reducible repeat (first|refine blk_drewN ?_ _|refine blk_drew ?_|refine blk_alloc ?_ _));refine blk_put (cs:=#[.slice none 0 0,.int .i64 0,.int .i64 0,.int .i64 0,.int .i64 0]) ?_ 0 _ rfl;(with_reducible repeat (first|refine blk_drewN ?_ _|refine blk_drew ?_|refine blk_alloc ?_ _));exact BK294.out) hb);replace HB:=Aside0.mk (below_step bl hb);(try clear hb);(try clear hb2);(try clear hk);(try clear hi)))
   go_meet
   case rel=>exact ⟨_,(true),(by first|rfl|(simp;done)|(simp [*];done)),H',⟨by first|omega|exact Nat.le_refl _⟩,⟨kr HO289⟩,⟨bk BK285⟩,⟨bk BK286⟩,⟨bk BK294⟩,⟨bl⟩⟩
 case rest =>
  clear HC4
  try clear c1
  try clear c2
  try clear p2
  try clear c3
  try clear c5
  try clear c6
  try clear c7
  try clear c12
  try clear c13
  try clear c16
  try clear c17
  try clear c17b0
  try clear c18
  try clear c19
  try clear c24
  try clear c26
  try clear c27
  try clear c32
  try clear c33
  try clear c37
  try clear c38
  try clear hcz14_0
  try clear hcz14_1
  try clear hcz14_2
  try clear hcz14_3
  try clear hcz14_4
  try clear hcz20_0
  try clear hcz20_1
  try clear hcz20_2
  try clear hcz20_3
  try clear hcz20_4
  try clear hcz22_0
  try clear hcz22_1
  try clear hcz22_2
  try clear hcz22_3
  try clear hcz22_4
  try clear hcz28_0
  try clear hcz28_1
  try clear hcz28_2
  try clear hcz28_3
  try clear hcz28_4
  try clear hcz30_0
  try clear hcz30_1
  try clear hcz30_2
  try clear hcz30_3
  try clear hcz30_4
  try clear hcz34_0
  try clear hcz34_1
  try clear hcz34_2
  try clear hcz34_3
  try clear hcz34_4
  try clear hcz36_0
  try clear hcz36_1
  try clear hcz36_2
  try clear hcz36_3
  try clear hcz36_4
  try clear hcz39_0
  try clear hcz39_1
  try clear hcz39_2
  try clear hcz39_3
  try clear hcz39_4
  try clear hcz8_0
  try clear hcz8_1
  try clear hcz8_2
  try clear hcz8_3
  try clear hcz8_4
  try clear hfz14_0
  try clear hfz14_1
  try clear hfz14_2
  try clear hfz14_3
  try clear hfz14_4
  try clear hfz20_0
  try clear hfz20_1
  try clear hfz20_2
  try clear hfz20_3
  try clear hfz20_4
  try clear hfz22_0
  try clear hfz22_1
  try clear hfz22_2
  try clear hfz22_3
  try clear hfz22_4
  try clear hfz28_0
  try clear hfz28_1
  try clear hfz28_2
  try clear hfz28_3
  try clear hfz28_4
  try clear hfz30_0
  try clear hfz30_1
  try clear hfz30_2
  try clear hfz30_3
  try clear hfz30_4
  try clear hfz34_0
  try clear hfz34_1
  try clear hfz34_2
  try clear hfz34_3
  try clear hfz34_4
  try clear hfz36_0
  try clear hfz36_1
  try clear hfz36_2
  try clear hfz36_3
  try clear hfz36_4
  try clear hfz39_0
  try clear hfz39_1
  try clear hfz39_2
  try clear hfz39_3
  try clear hfz39_4
  try clear hfz8_0
  try clear hfz8_1
  try clear hfz8_2
  try clear hfz8_3
  try clear hfz8_4
  obtain ⟨kq,x28_3,rfl,HA,HJ3,HO_295000,BK285,BK286,BK294,HB⟩:=hcut
  cases kq with
  | zero=>exact absurd HA.out (by simp [impl_PushBack.j0])
  | succ kj3 =>
   have H:=HA.out
   clear HA
   simp only [impl_PushBack.j0] at H
   by_cases c41:x28_3=true
   ·subst c41
    rw [if_pos rfl] at H
    simp only [Option.some.injEq,Prod.mk.injEq] at H
    obtain ⟨rfl,rfl,rfl,rfl,rfl,rfl⟩:=H
    have hnb42:=NB294_285.out
    have hnc42:=NB285_294.out
    have hnb43:=NB294_286.out
    have hnc43:=NB286_294.out
    obtain ⟨hcz44_0,hcz44_1,hcz44_2,hcz44_3,hcz44_4,hfz44_0,hfz44_1,hfz44_2,hfz44_3,hfz44_4⟩:=ck5 BK294.out
    have hnb45:=NB286_285.out
    have hnc45:=NB285_286.out
    obtain ⟨hcz46_0,hcz46_1,hcz46_2,hcz46_3,hcz46_4,hfz46_0,hfz46_1,hfz46_2,hfz46_3,hfz46_4⟩:=ck5 BK286.out
    go_wp2
    refine bodyPost_ret (results_ct rfl _ _ gb286 28 #[.slice Ao11 t287.length co11,.int .i64 t290,.int .i64 t291,.int .i64 t292,.int .i64 t293] (0,0) _ rfl (by (with_reducible repeat (first|refine blk_drewN ?_ _|refine blk_drew ?_|refine blk_alloc ?_ _));refine blk_put (cs:=#[.slice Ao11 t287.length co11,.int .i64 t290,.int .i64 t291,.int .i64 t292,.int .i64 0]) ?_ 4 _ rfl;(with_reducible repeat (first|refine blk_drewN ?_ _|refine blk_drew ?_|refine blk_alloc ?_ _));refine blk_put (cs:=#[.slice Ao11 t287.length co11,.int .i64 t290,.int .i64 t291,.int .i64 0,.int .i64 0]) ?_ 3 _ rfl;(with_reducible repeat (first|refine blk_drewN ?_ _|refine blk_drew ?_|refine blk_alloc ?_ _));refine blk_put (cs:=#[.slice Ao11 t287.length co11,.int .i64 t290,.int .i64 0,.int .i64 0,.int .i64 0]) ?_ 2 _ rfl;(with_reducible repeat (first|refine blk_drewN ?_ _|refine blk_drew ?_|refine blk_alloc ?_ _));refine blk_put (cs:=#[.slice Ao11 t287.length co11,.int .i64 0,.int .i64 0,.int .i64 0,.int .i64 0]) ?_ 1 _ rfl;(with_reducible repeat (first|refine blk_drewN ?_ _|refine blk_drew ?_|refine blk_alloc ?_ _));refine blk_put (cs:=#[.slice none 0 0,.int .i64 0,.int .i64 0,.int .i64 0,.int .i64 0]) ?_ 0 _ rfl;(with_reducible repeat (first|refine blk_drewN ?_ _|refine blk_drew ?_|refine blk_alloc ?_ _));exact BK286.out) Try.underlying28 rfl (by kernel_rfl)) rfl ?_
    exact ⟨_,by first|rfl|(simp [errW_none,errW_some] <;> rfl)|(simp [*,errW_none,errW_some] <;> rfl),by (with_reducible repeat (first|apply Kd.R_alloc|apply Kd.R_drewN|apply Kd.R_drew));exact Kd.R_mono (Kd.R_far (p:=⟨gb286,4,none⟩) (Kd.R_far (p:=⟨gb286,3,none⟩) (Kd.R_far (p:=⟨gb286,2,none⟩) (Kd.R_far (p:=⟨gb286,1,none⟩) (Kd.R_far (p:=⟨gb286,0,none⟩) (Kd.R_types HO_295000.out BK286.out (by decide)) (fun _ hk=>hk.2) (.slice Ao11 t287.length co11)) (fun _ hk=>hk.2) (.int .i64 t290)) (fun _ hk=>hk.2) (.int .i64 t291)) (fun _ hk=>hk.2) (.int .i64 t292)) (fun _ hk=>hk.2) (.int .i64 t293)) (fun _ hk=>trivial),bl⟩
   ·replace c41:=Bool.eq_false_iff.mpr c41
    subst c41
    rw [if_neg nft] at H
    by_cases c47:0≤a0_3
    ·rw [if_pos c47] at H
     have c47b0:decide (0≤a0_3)=true:=decide_eq_true c47
     clear c47
     by_cases c48:a0_3 < (l0_0.length:Int)
     ·rw [if_pos c48] at H
      have c48b0:decide (a0_3 < (l0_0.length:Int))=true:=decide_eq_true c48
      clear c48
      by_cases c49:a0_3 < (t287.length:Int)
      ·rw [if_pos c49] at H
       have c49b0:decide (a0_3 < (t287.length:Int))=true:=decide_eq_true c49
       clear c49
       obtain ⟨y299,hy299⟩:∃ y_:List (S97),y_=(t287.set (a0_3:Int).toNat (⟨a1,a0_2,(-1),true⟩:S97)):=⟨_,rfl⟩
       replace H:(if a0_2 ≥ 0 then (if 0≤a0_2 then (if a0_2 < (t287.length:Int) then (some ((y299.set (a0_2:Int).toNat (⟨(rd_T97 y299 a0_2).f0,(rd_T97 y299 a0_2).f1,a0_3,(rd_T97 y299 a0_2).f3⟩:S97)),t290,a0_3,(rd_T97 l0_0 a0_3).f2,wrap64 (t293 + 1),a0_3)) else (none)) else (none)) else (some (y299,a0_3,a0_3,(rd_T97 l0_0 a0_3).f2,wrap64 (t293 + 1),a0_3)))=some (r1,r2,r3,r4,r5,r6):=by first|(rw [hy299];with_reducible exact H)|(have H2_:=(Option.bind_some _ _).symm.trans H;rw [hy299];with_reducible exact H2_)|(have H2_:=(Option.bind_some _ _).symm.trans H;with_reducible exact H2_)|with_reducible exact H|(rw [hy299];exact H)|exact H
       have Ny299:=Aside0.mk hy299
       clear hy299
       by_cases c51:a0_2 ≥ 0
       ·rw [if_pos c51] at H
        have c51b0:decide (0≤a0_2)=true:=decide_eq_true c51
        clear c51
        by_cases c52:0≤a0_2
        ·rw [if_pos c52] at H
         have c52b0:decide (0≤a0_2)=true:=decide_eq_true c52
         clear c52
         by_cases c53:a0_2 < (t287.length:Int)
         ·rw [if_pos c53] at H
          have c53b0:decide (a0_2 < (t287.length:Int))=true:=decide_eq_true c53
          clear c53
          obtain ⟨y300,hy300⟩:∃ y_:List (S97),y_=(y299.set (a0_2:Int).toNat (⟨(rd_T97 y299 a0_2).f0,(rd_T97 y299 a0_2).f1,a0_3,(rd_T97 y299 a0_2).f3⟩:S97)):=⟨_,rfl⟩
          replace H:(some (y300,t290,a0_3,(rd_T97 l0_0 a0_3).f2,wrap64 (t293 + 1),a0_3))=some (r1,r2,r3,r4,r5,r6):=by first|(rw [hy300];with_reducible exact H)|(have H2_:=(Option.bind_some _ _).symm.trans H;rw [hy300];with_reducible exact H2_)|(have H2_:=(Option.bind_some _ _).symm.trans H;with_reducible exact H2_)|with_reducible exact H|(rw [hy300];exact H)|exact H
          have Ny300:=Aside0.mk hy300
          clear hy300
          simp only [Option.some.injEq,Prod.mk.injEq] at H
          obtain ⟨rfl,rfl,rfl,rfl,rfl,rfl⟩:=H
          have hnb55:=NB285_286.out
          have hnc55:=NB286_285.out
          have hnb56:=NB285_294.out
          have hnc56:=NB294_285.out
          obtain ⟨hcz57_0,hcz57_1,hcz57_2,hcz57_3,hcz57_4,hfz57_0,hfz57_1,hfz57_2,hfz57_3,hfz57_4⟩:=ck5 BK285.out
          have p298:0≤(a0_3:Int):=of_decide_eq_true (by first|(with_reducible assumption)|assumption)
          have q298:a0_3 < (l0_0.length:Int):=of_decide_eq_true (by first|(with_reducible assumption)|assumption)
          obtain ⟨ad298,e298,hx298_0,hx298_1,hx298_2,hx298_3⟩:=at_T97 HR0_0.out a0_3 p298 q298
          cases e298
          replace hx298_0:=cl HB hx298_0
          replace hx298_1:=cl HB hx298_1
          replace hx298_2:=cl HB hx298_2
          replace hx298_3:=cl HB hx298_3
          replace p298:=eq_true p298
          replace q298:=eq_true q298
          have hnb58:=NB294_286.out
          have hnc58:=NB286_294.out
          obtain ⟨hcz59_0,hcz59_1,hcz59_2,hcz59_3,hcz59_4,hfz59_0,hfz59_1,hfz59_2,hfz59_3,hfz59_4⟩:=ck5 BK294.out
          go_wp2_with (first|((with_reducible refine gate_store (t:=3) (p:=38) rfl ?_);refine sx 3 38 (wc.setCell ⟨gb294,3,none⟩ (.int .i64 ((rd_T97 l0_0 a0_3).f2))) ?_;intro w60 hw;have n0_:Aside0 (Kd.R k97 97 w60 w.heap.size (fun _=>True) (.slice Ao11 t287.length co11) t287):=⟨(by rw [hw];exact (by (with_reducible repeat (first|apply Kd.R_alloc|apply Kd.R_drewN|apply Kd.R_drew));exact Kd.R_mono (Kd.R_far (p:=⟨gb294,3,none⟩) (Kd.R_types HO_295000.out BK294.out (by decide)) (fun _ hk=>hk.2) (.int .i64 ((rd_T97 l0_0 a0_3).f2))) (fun _ hk=>trivial)))⟩;have n1_:Aside0 (w60.heap[gb285]? = some (.cells #[.slice (some ad298) l0_0.length c0_0,.int .i64 a0_1,.int .i64 a0_2,.int .i64 a0_3,.int .i64 a0_4] 28 (0,0))):=⟨(by rw [hw];exact (bf BK285))⟩;have n2_:Aside0 (w60.heap[gb286]? = some (.cells #[.slice none 0 0,.int .i64 0,.int .i64 0,.int .i64 0,.int .i64 0] 28 (0,0))):=⟨(by rw [hw];exact (bf BK286))⟩;have n3_:Aside0 (w60.heap[gb294]? = some (.cells #[.slice Ao11 t287.length co11,.int .i64 t290,.int .i64 t291,.int .i64 ((rd_T97 l0_0 a0_3).f2),.int .i64 t293] 28 (0,0))):=⟨(by rw [hw];exact (by (with_reducible repeat (first|refine blk_drewN ?_ _|refine blk_drew ?_|refine blk_alloc ?_ _));refine blk_put (cs:=#[.slice Ao11 t287.length co11,.int .i64 t290,.int .i64 t291,.int .i64 t292,.int .i64 t293]) ?_ 3 _ rfl;(with_reducible repeat (first|refine blk_drewN ?_ _|refine blk_drew ?_|refine blk_alloc ?_ _));exact BK294.out))⟩;have n4_:Aside0 (Below w.heap.size w w60):=⟨(by rw [hw];exact bl)⟩;clear hw;clear HO_295000;clear BK285;clear BK286;clear BK294;clear HB;have HO_295000:=n0_;have BK285:=n1_;have BK286:=n2_;have BK294:=n3_;have HB:=n4_;clear n0_ n1_ n2_ n3_ n4_;obtain ⟨hcz61_0,hcz61_1,hcz61_2,hcz61_3,hcz61_4,hfz61_0,hfz61_1,hfz61_2,hfz61_3,hfz61_4⟩:=ck5 BK294.out;obtain ⟨hcz62_0,hcz62_1,hcz62_2,hcz62_3,hcz62_4,hfz62_0,hfz62_1,hfz62_2,hfz62_3,hfz62_4⟩:=ck5 BK285.out;have p50:0≤(a0_3:Int):=of_decide_eq_true (by first|(with_reducible assumption)|assumption);have q50:(a0_3:Int) < ((t287.length:Int):Int):=of_decide_eq_true (by first|(with_reducible assumption)|assumption);obtain ⟨go50,co50,eo50,gb50,gl50,cl50,HG50⟩:=Kd.R_form HO_295000.out (by omega);(first|cases eo50|(injection eo50 with ea_ en_ ec_;(first|subst ea_|(injection ea_ with ea_;subst ea_));subst ec_;clear en_));have GB50:=Aside0.mk gb50;have GG50:=Aside0.mk HG50;clear gb50 gl50 HG50;obtain ⟨ce50,hcl50,hM50,hcc50,hfr50⟩:=Kd.R_elem HO_295000.out z97 (a0_3:Int) p50 q50;obtain rfl:=k97_openM hM50;have hx50_0:w60.cell? ⟨go50,(a0_3:Int).toNat * 4,none⟩=some (.int .i64 ((rd_T97 t287 a0_3).f0)):=hcc50 0 _ rfl;have hx50_1:w60.cell? ⟨go50,(a0_3:Int).toNat * 4 + 1,none⟩=some (.int .i64 ((rd_T97 t287 a0_3).f1)):=hcc50 1 _ rfl;have hx50_2:w60.cell? ⟨go50,(a0_3:Int).toNat * 4 + 2,none⟩=some (.int .i64 ((rd_T97 t287 a0_3).f2)):=hcc50 2 _ rfl;have hx50_3:w60.cell? ⟨go50,(a0_3:Int).toNat * 4 + 3,none⟩=some (.bool ((rd_T97 t287 a0_3).f3)):=hcc50 3 _ rfl;have hf50_0:w60.frozen? ⟨go50,(a0_3:Int).toNat * 4,none⟩=false:=hfr50 0;have hf50_1:w60.frozen? ⟨go50,(a0_3:Int).toNat * 4 + 1,none⟩=false:=hfr50 1;have hf50_2:w60.frozen? ⟨go50,(a0_3:Int).toNat * 4 + 2,none⟩=false:=hfr50 2;have hf50_3:w60.frozen? ⟨go50,(a0_3:Int).toNat * 4 + 3,none⟩=false:=hfr50 3;clear hcl50 hcc50 hfr50 hM50;replace p50:=eq_true p50;replace q50:=eq_true q50;have HX63:=Aside0.mk (show Kd.R k97 97 w60 w.heap.size (fun _=>True) (.slice (some ⟨go50,0,none⟩) t287.length co11) t287 from (kr HO_295000));obtain ⟨ce63,hcl63,hM63,hcc63,hfr63⟩:=Kd.R_elem HX63.out z97 (a0_3:Int) (of_decide_eq_true (by first|(with_reducible assumption)|assumption)) (by have h_:(a0_3:Int) < ((t287.length:Int):Int):=of_decide_eq_true (by first|(with_reducible assumption)|assumption);first|exact h_|(have e_:=(Kd.R_reads' HO_295000.out).1;omega)|simpa using h_);obtain rfl:=k97_openM hM63;have HP63:=Kd.R_seg HX63.out (a0_3:Int) (of_decide_eq_true (by first|(with_reducible assumption)|assumption)) (by have h_:(a0_3:Int) < ((t287.length:Int):Int):=of_decide_eq_true (by first|(with_reducible assumption)|assumption);first|exact h_|(have e_:=(Kd.R_reads' HO_295000.out).1;omega)|simpa using h_) (seg:=[.int .i64 a1,.int .i64 a0_2,.int .i64 (-1),.bool true]) (j:=0) hcl63 hcc63 (show 4≤4 from by decide) (x':=(⟨a1,a0_2,(-1),true⟩:S97)) (k97_mkM _ _ _ (⟨a1,a0_2,(-1),true⟩:S97) ) (fun _ hk=>hk);have hx63_0:=hcc63 0 _ rfl;(try simp only [show (k97).sz=4 from rfl,Nat.mul_one,Nat.add_zero] at hx63_0);have hf63_0:=hfr63 0;(try simp only [show (k97).sz=4 from rfl,Nat.mul_one,Nat.add_zero] at hf63_0);have hx63_1:=hcc63 1 _ rfl;(try simp only [show (k97).sz=4 from rfl,Nat.mul_one,Nat.add_zero] at hx63_1);have hf63_1:=hfr63 1;(try simp only [show (k97).sz=4 from rfl,Nat.mul_one,Nat.add_zero] at hf63_1);have hx63_2:=hcc63 2 _ rfl;(try simp only [show (k97).sz=4 from rfl,Nat.mul_one,Nat.add_zero] at hx63_2);have hf63_2:=hfr63 2;(try simp only [show (k97).sz=4 from rfl,Nat.mul_one,Nat.add_zero] at hf63_2);have hx63_3:=hcc63 3 _ rfl;(try simp only [show (k97).sz=4 from rfl,Nat.mul_one,Nat.add_zero] at hx63_3);have hf63_3:=hfr63 3;(try simp only [show (k97).sz=4 from rfl,Nat.mul_one,Nat.add_zero] at hf63_3);clear hcl63 hcc63 hfr63 hM63)|((with_reducible refine gate_store (t:=97) (p:=46) rfl ?_);refine sx 97 46 ((((w60.setCell ⟨go50,(a0_3:Int).toNat * 4,none⟩ (.int .i64 a1)).setCell ⟨go50,(a0_3:Int).toNat * 4 + 1,none⟩ (.int .i64 a0_2)).setCell ⟨go50,(a0_3:Int).toNat * 4 + 2,none⟩ (.int .i64 (-1))).setCell ⟨go50,(a0_3:Int).toNat * 4 + 3,none⟩ (.bool true)) ?_;intro w64 hw;have hg:w60.grownBy w64 (some go50):=(by rw [hw];exact HP63.2);have hp_:Kd.R k97 97 w64 w.heap.size (fun _=>True) (.slice (some ⟨go50,0,none⟩) t287.length co11) y299:=(by rw [hw,Ny299.out];exact HP63.1);clear HP63;replace BK285:=Aside0.mk (blk_grown (bk BK285) hg (Kd.R_ne HO_295000.out BK285.out (by decide)));replace BK286:=Aside0.mk (blk_grown (bk BK286) hg (Kd.R_ne HO_295000.out BK286.out (by decide)));replace BK294:=Aside0.mk (blk_grown (bk BK294) hg (Kd.R_ne HO_295000.out BK294.out (by decide)));replace HO_295000:=Aside0.mk (hp_);replace HB:=Aside0.mk ((by rw [hw];exact below_set (below_set (below_set (below_set (HB.out) GB50.out) GB50.out) GB50.out) GB50.out:Below w.heap.size w w64));clear hg hw hp_;obtain ⟨hcz65_0,hcz65_1,hcz65_2,hcz65_3,hcz65_4,hfz65_0,hfz65_1,hfz65_2,hfz65_3,hfz65_4⟩:=ck5 BK285.out;obtain ⟨hcz66_0,hcz66_1,hcz66_2,hcz66_3,hcz66_4,hfz66_0,hfz66_1,hfz66_2,hfz66_3,hfz66_4⟩:=ck5 BK294.out;have p54:0≤(a0_2:Int):=of_decide_eq_true (by first|(with_reducible assumption)|assumption);have q54:(a0_2:Int) < ((t287.length:Int):Int):=of_decide_eq_true (by first|(with_reducible assumption)|assumption);obtain ⟨ce54,hcl54,hM54,hcc54,hfr54⟩:=Kd.R_elem HO_295000.out z97 (a0_2:Int) p54 q54;obtain rfl:=k97_openM hM54;have hx54_0:w64.cell? ⟨go50,(a0_2:Int).toNat * 4,none⟩=some (.int .i64 ((rd_T97 y299 a0_2).f0)):=hcc54 0 _ rfl;have hx54_1:w64.cell? ⟨go50,(a0_2:Int).toNat * 4 + 1,none⟩=some (.int .i64 ((rd_T97 y299 a0_2).f1)):=hcc54 1 _ rfl;have hx54_2:w64.cell? ⟨go50,(a0_2:Int).toNat * 4 + 2,none⟩=some (.int .i64 ((rd_T97 y299 a0_2).f2)):=hcc54 2 _ rfl;have hx54_3:w64.cell? ⟨go50,(a0_2:Int).toNat * 4 + 3,none⟩=some (.bool ((rd_T97 y299 a0_2).f3)):=hcc54 3 _ rfl;have hf54_0:w64.frozen? ⟨go50,(a0_2:Int).toNat * 4,none⟩=false:=hfr54 0;have hf54_1:w64.frozen? ⟨go50,(a0_2:Int).toNat * 4 + 1,none⟩=false:=hfr54 1;have hf54_2:w64.frozen? ⟨go50,(a0_2:Int).toNat * 4 + 2,none⟩=false:=hfr54 2;have hf54_3:w64.frozen? ⟨go50,(a0_2:Int).toNat * 4 + 3,none⟩=false:=hfr54 3;clear hcl54 hcc54 hfr54 hM54;replace p54:=eq_true p54;replace q54:=eq_true q54;have HX67:=Aside0.mk (show Kd.R k97 97 w64 w.heap.size (fun _=>True) (.slice (some ⟨go50,0,none⟩) t287.length co11) y299 from (kr HO_295000));obtain ⟨ce67,hcl67,hM67,hcc67,hfr67⟩:=Kd.R_elem HX67.out z97 (a0_2:Int) (of_decide_eq_true (by first|(with_reducible assumption)|assumption)) (by have h_:(a0_2:Int) < ((t287.length:Int):Int):=of_decide_eq_true (by first|(with_reducible assumption)|assumption);first|exact h_|(have e_:=(Kd.R_reads' HO_295000.out).1;omega)|simpa using h_);obtain rfl:=k97_openM hM67;have HP67:=Kd.R_seg HX67.out (a0_2:Int) (of_decide_eq_true (by first|(with_reducible assumption)|assumption)) (by have h_:(a0_2:Int) < ((t287.length:Int):Int):=of_decide_eq_true (by first|(with_reducible assumption)|assumption);first|exact h_|(have e_:=(Kd.R_reads' HO_295000.out).1;omega)|simpa using h_) (seg:=[.int .i64 a0_3]) (j:=2) hcl67 hcc67 (show 3≤4 from by decide) (x':=(⟨(rd_T97 y299 a0_2).f0,(rd_T97 y299 a0_2).f1,a0_3,(rd_T97 y299 a0_2).f3⟩:S97)) (k97_mkM _ _ _ (⟨(rd_T97 y299 a0_2).f0,(rd_T97 y299 a0_2).f1,a0_3,(rd_T97 y299 a0_2).f3⟩:S97) ) (fun _ hk=>hk);have hx67_2:=hcc67 2 _ rfl;(try simp only [show (k97).sz=4 from rfl,Nat.mul_one,Nat.add_zero] at hx67_2);have hf67_2:=hfr67 2;(try simp only [show (k97).sz=4 from rfl,Nat.mul_one,Nat.add_zero] at hf67_2);clear hcl67 hcc67 hfr67 hM67)|((with_reducible refine gate_store (t:=3) (p:=56) rfl ?_);refine sx 3 56 (w64.setCell ⟨go50,(a0_2:Int).toNat * 4 + 2,none⟩ (.int .i64 a0_3)) ?_;intro w68 hw;have hg:w64.grownBy w68 (some go50):=(by rw [hw];exact HP67.2);have hp_:Kd.R k97 97 w68 w.heap.size (fun _=>True) (.slice (some ⟨go50,0,none⟩) t287.length co11) y300:=(by rw [hw,Ny300.out];exact HP67.1);clear HP67;replace BK285:=Aside0.mk (blk_grown (bk BK285) hg (Kd.R_ne HO_295000.out BK285.out (by decide)));replace BK286:=Aside0.mk (blk_grown (bk BK286) hg (Kd.R_ne HO_295000.out BK286.out (by decide)));replace BK294:=Aside0.mk (blk_grown (bk BK294) hg (Kd.R_ne HO_295000.out BK294.out (by decide)));replace HO_295000:=Aside0.mk (hp_);replace HB:=Aside0.mk ((by rw [hw];exact below_set (HB.out) GB50.out:Below w.heap.size w w68));clear hg hw hp_;obtain ⟨hcz69_0,hcz69_1,hcz69_2,hcz69_3,hcz69_4,hfz69_0,hfz69_1,hfz69_2,hfz69_3,hfz69_4⟩:=ck5 BK294.out;obtain ⟨hcz70_0,hcz70_1,hcz70_2,hcz70_3,hcz70_4,hfz70_0,hfz70_1,hfz70_2,hfz70_3,hfz70_4⟩:=ck5 BK286.out))
          refine bodyPost_ret (results_ct rfl _ _ gb286 28 #[.slice (some ⟨go50,0,none⟩) t287.length co11,.int .i64 t290,.int .i64 a0_3,.int .i64 ((rd_T97 l0_0 a0_3).f2),.int .i64 (wrap64 (t293 + 1))] (0,0) _ rfl (by (with_reducible repeat (first|refine blk_drewN ?_ _|refine blk_drew ?_|refine blk_alloc ?_ _));refine blk_put (cs:=#[.slice (some ⟨go50,0,none⟩) t287.length co11,.int .i64 t290,.int .i64 a0_3,.int .i64 ((rd_T97 l0_0 a0_3).f2),.int .i64 0]) ?_ 4 _ rfl;(with_reducible repeat (first|refine blk_drewN ?_ _|refine blk_drew ?_|refine blk_alloc ?_ _));refine blk_put (cs:=#[.slice (some ⟨go50,0,none⟩) t287.length co11,.int .i64 t290,.int .i64 a0_3,.int .i64 0,.int .i64 0]) ?_ 3 _ rfl;(with_reducible repeat (first|refine blk_drewN ?_ _|refine blk_drew ?_|refine blk_alloc ?_ _));refine blk_put (cs:=#[.slice (some ⟨go50,0,none⟩) t287.length co11,.int .i64 t290,.int .i64 0,.int .i64 0,.int .i64 0]) ?_ 2 _ rfl;(with_reducible repeat (first|refine blk_drewN ?_ _|refine blk_drew ?_|refine blk_alloc ?_ _));refine blk_put (cs:=#[.slice (some ⟨go50,0,none⟩) t287.length co11,.int .i64 0,.int .i64 0,.int .i64 0,.int .i64 0]) ?_ 1 _ rfl;(with_reducible repeat (first|refine blk_drewN ?_ _|refine blk_drew ?_|refine blk_alloc ?_ _));refine blk_put (cs:=#[.slice none 0 0,.int .i64 0,.int .i64 0,.int .i64 0,.int .i64 0]) ?_ 0 _ rfl;(with_reducible repeat (first|refine blk_drewN ?_ _|refine blk_drew ?_|refine blk_alloc ?_ _));refine blk_far ?_ NB286_294.out _;(with_reducible repeat (first|refine blk_drewN ?_ _|refine blk_drew ?_|refine blk_alloc ?_ _));refine blk_far ?_ NB286_294.out _;(with_reducible repeat (first|refine blk_drewN ?_ _|refine blk_drew ?_|refine blk_alloc ?_ _));exact BK286.out) Try.underlying28 rfl (by kernel_rfl)) rfl ?_
          exact ⟨_,by first|rfl|(simp [errW_none,errW_some] <;> rfl)|(simp [*,errW_none,errW_some] <;> rfl),by (with_reducible repeat (first|apply Kd.R_alloc|apply Kd.R_drewN|apply Kd.R_drew));exact Kd.R_mono (Kd.R_far (p:=⟨gb286,4,none⟩) (Kd.R_far (p:=⟨gb286,3,none⟩) (Kd.R_far (p:=⟨gb286,2,none⟩) (Kd.R_far (p:=⟨gb286,1,none⟩) (Kd.R_far (p:=⟨gb286,0,none⟩) (Kd.R_far (p:=⟨gb294,4,none⟩) (Kd.R_far (p:=⟨gb294,2,none⟩) (Kd.R_types (Kd.R_types HO_295000.out BK294.out (by decide)) BK286.out (by decide)) (fun _ hk=>hk.1.2) (.int .i64 a0_3)) (fun _ hk=>hk.1.2) (.int .i64 (wrap64 (t293 + 1)))) (fun _ hk=>hk.2) (.slice (some ⟨go50,0,none⟩) t287.length co11)) (fun _ hk=>hk.2) (.int .i64 t290)) (fun _ hk=>hk.2) (.int .i64 a0_3)) (fun _ hk=>hk.2) (.int .i64 ((rd_T97 l0_0 a0_3).f2))) (fun _ hk=>hk.2) (.int .i64 (wrap64 (t293 + 1)))) (fun _ hk=>trivial),bl⟩
         ·rw [if_neg c53] at H
          exact absurd H (by simp)
        ·rw [if_neg c52] at H
         exact absurd H (by simp)
       ·rw [if_neg c51] at H
        have c51b0:decide (0≤a0_2)=false:=decide_eq_false c51
        clear c51
        simp only [Option.some.injEq,Prod.mk.injEq] at H
        obtain ⟨rfl,rfl,rfl,rfl,rfl,rfl⟩:=H
        have hnb71:=NB285_286.out
        have hnc71:=NB286_285.out
        have hnb72:=NB285_294.out
        have hnc72:=NB294_285.out
        obtain ⟨hcz73_0,hcz73_1,hcz73_2,hcz73_3,hcz73_4,hfz73_0,hfz73_1,hfz73_2,hfz73_3,hfz73_4⟩:=ck5 BK285.out
        have p298:0≤(a0_3:Int):=of_decide_eq_true (by first|(with_reducible assumption)|assumption)
        have q298:a0_3 < (l0_0.length:Int):=of_decide_eq_true (by first|(with_reducible assumption)|assumption)
        obtain ⟨ad298,e298,hx298_0,hx298_1,hx298_2,hx298_3⟩:=at_T97 HR0_0.out a0_3 p298 q298
        cases e298
        replace hx298_0:=cl HB hx298_0
        replace hx298_1:=cl HB hx298_1
        replace hx298_2:=cl HB hx298_2
        replace hx298_3:=cl HB hx298_3
        replace p298:=eq_true p298
        replace q298:=eq_true q298
        have hnb74:=NB294_286.out
        have hnc74:=NB286_294.out
        obtain ⟨hcz75_0,hcz75_1,hcz75_2,hcz75_3,hcz75_4,hfz75_0,hfz75_1,hfz75_2,hfz75_3,hfz75_4⟩:=ck5 BK294.out
        go_wp2_with (first|((with_reducible refine gate_store (t:=3) (p:=38) rfl ?_);refine sx 3 38 (wc.setCell ⟨gb294,3,none⟩ (.int .i64 ((rd_T97 l0_0 a0_3).f2))) ?_;intro w76 hw;have n0_:Aside0 (Kd.R k97 97 w76 w.heap.size (fun _=>True) (.slice Ao11 t287.length co11) t287):=⟨(by rw [hw];exact (by (with_reducible repeat (first|apply Kd.R_alloc|apply Kd.R_drewN|apply Kd.R_drew));exact Kd.R_mono (Kd.R_far (p:=⟨gb294,3,none⟩) (Kd.R_types HO_295000.out BK294.out (by decide)) (fun _ hk=>hk.2) (.int .i64 ((rd_T97 l0_0 a0_3).f2))) (fun _ hk=>trivial)))⟩;have n1_:Aside0 (w76.heap[gb285]? = some (.cells #[.slice (some ad298) l0_0.length c0_0,.int .i64 a0_1,.int .i64 a0_2,.int .i64 a0_3,.int .i64 a0_4] 28 (0,0))):=⟨(by rw [hw];exact (bf BK285))⟩;have n2_:Aside0 (w76.heap[gb286]? = some (.cells #[.slice none 0 0,.int .i64 0,.int .i64 0,.int .i64 0,.int .i64 0] 28 (0,0))):=⟨(by rw [hw];exact (bf BK286))⟩;have n3_:Aside0 (w76.heap[gb294]? = some (.cells #[.slice Ao11 t287.length co11,.int .i64 t290,.int .i64 t291,.int .i64 ((rd_T97 l0_0 a0_3).f2),.int .i64 t293] 28 (0,0))):=⟨(by rw [hw];exact (by (with_reducible repeat (first|refine blk_drewN ?_ _|refine blk_drew ?_|refine blk_alloc ?_ _));refine blk_put (cs:=#[.slice Ao11 t287.length co11,.int .i64 t290,.int .i64 t291,.int .i64 t292,.int .i64 t293]) ?_ 3 _ rfl;(with_reducible repeat (first|refine blk_drewN ?_ _|refine blk_drew ?_|refine blk_alloc ?_ _));exact BK294.out))⟩;have n4_:Aside0 (Below w.heap.size w w76):=⟨(by rw [hw];exact bl)⟩;clear hw;clear HO_295000;clear BK285;clear BK286;clear BK294;clear HB;have HO_295000:=n0_;have BK285:=n1_;have BK286:=n2_;have BK294:=n3_;have HB:=n4_;clear n0_ n1_ n2_ n3_ n4_;obtain ⟨hcz77_0,hcz77_1,hcz77_2,hcz77_3,hcz77_4,hfz77_0,hfz77_1,hfz77_2,hfz77_3,hfz77_4⟩:=ck5 BK294.out;obtain ⟨hcz78_0,hcz78_1,hcz78_2,hcz78_3,hcz78_4,hfz78_0,hfz78_1,hfz78_2,hfz78_3,hfz78_4⟩:=ck5 BK285.out;have p50:0≤(a0_3:Int):=of_decide_eq_true (by first|(with_reducible assumption)|assumption);have q50:(a0_3:Int) < ((t287.length:Int):Int):=of_decide_eq_true (by first|(with_reducible assumption)|assumption);obtain ⟨go50,co50,eo50,gb50,gl50,cl50,HG50⟩:=Kd.R_form HO_295000.out (by omega);(first|cases eo50|(injection eo50 with ea_ en_ ec_;(first|subst ea_|(injection ea_ with ea_;subst ea_));subst ec_;clear en_));have GB50:=Aside0.mk gb50;have GG50:=Aside0.mk HG50;clear gb50 gl50 HG50;obtain ⟨ce50,hcl50,hM50,hcc50,hfr50⟩:=Kd.R_elem HO_295000.out z97 (a0_3:Int) p50 q50;obtain rfl:=k97_openM hM50;have hx50_0:w76.cell? ⟨go50,(a0_3:Int).toNat * 4,none⟩=some (.int .i64 ((rd_T97 t287 a0_3).f0)):=hcc50 0 _ rfl;have hx50_1:w76.cell? ⟨go50,(a0_3:Int).toNat * 4 + 1,none⟩=some (.int .i64 ((rd_T97 t287 a0_3).f1)):=hcc50 1 _ rfl;have hx50_2:w76.cell? ⟨go50,(a0_3:Int).toNat * 4 + 2,none⟩=some (.int .i64 ((rd_T97 t287 a0_3).f2)):=hcc50 2 _ rfl;have hx50_3:w76.cell? ⟨go50,(a0_3:Int).toNat * 4 + 3,none⟩=some (.bool ((rd_T97 t287 a0_3).f3)):=hcc50 3 _ rfl;have hf50_0:w76.frozen? ⟨go50,(a0_3:Int).toNat * 4,none⟩=false:=hfr50 0;have hf50_1:w76.frozen? ⟨go50,(a0_3:Int).toNat * 4 + 1,none⟩=false:=hfr50 1;have hf50_2:w76.frozen? ⟨go50,(a0_3:Int).toNat * 4 + 2,none⟩=false:=hfr50 2;have hf50_3:w76.frozen? ⟨go50,(a0_3:Int).toNat * 4 + 3,none⟩=false:=hfr50 3;clear hcl50 hcc50 hfr50 hM50;replace p50:=eq_true p50;replace q50:=eq_true q50;have HX79:=Aside0.mk (show Kd.R k97 97 w76 w.heap.size (fun _=>True) (.slice (some ⟨go50,0,none⟩) t287.length co11) t287 from (kr HO_295000));obtain ⟨ce79,hcl79,hM79,hcc79,hfr79⟩:=Kd.R_elem HX79.out z97 (a0_3:Int) (of_decide_eq_true (by first|(with_reducible assumption)|assumption)) (by have h_:(a0_3:Int) < ((t287.length:Int):Int):=of_decide_eq_true (by first|(with_reducible assumption)|assumption);first|exact h_|(have e_:=(Kd.R_reads' HO_295000.out).1;omega)|simpa using h_);obtain rfl:=k97_openM hM79;have HP79:=Kd.R_seg HX79.out (a0_3:Int) (of_decide_eq_true (by first|(with_reducible assumption)|assumption)) (by have h_:(a0_3:Int) < ((t287.length:Int):Int):=of_decide_eq_true (by first|(with_reducible assumption)|assumption);first|exact h_|(have e_:=(Kd.R_reads' HO_295000.out).1;omega)|simpa using h_) (seg:=[.int .i64 a1,.int .i64 a0_2,.int .i64 (-1),.bool true]) (j:=0) hcl79 hcc79 (show 4≤4 from by decide) (x':=(⟨a1,a0_2,(-1),true⟩:S97)) (k97_mkM _ _ _ (⟨a1,a0_2,(-1),true⟩:S97) ) (fun _ hk=>hk);have hx79_0:=hcc79 0 _ rfl;(try simp only [show (k97).sz=4 from rfl,Nat.mul_one,Nat.add_zero] at hx79_0);have hf79_0:=hfr79 0;(try simp only [show (k97).sz=4 from rfl,Nat.mul_one,Nat.add_zero] at hf79_0);have hx79_1:=hcc79 1 _ rfl;(try simp only [show (k97).sz=4 from rfl,Nat.mul_one,Nat.add_zero] at hx79_1);have hf79_1:=hfr79 1;(try simp only [show (k97).sz=4 from rfl,Nat.mul_one,Nat.add_zero] at hf79_1);have hx79_2:=hcc79 2 _ rfl;(try simp only [show (k97).sz=4 from rfl,Nat.mul_one,Nat.add_zero] at hx79_2);have hf79_2:=hfr79 2;(try simp only [show (k97).sz=4 from rfl,Nat.mul_one,Nat.add_zero] at hf79_2);have hx79_3:=hcc79 3 _ rfl;(try simp only [show (k97).sz=4 from rfl,Nat.mul_one,Nat.add_zero] at hx79_3);have hf79_3:=hfr79 3;(try simp only [show (k97).sz=4 from rfl,Nat.mul_one,Nat.add_zero] at hf79_3);clear hcl79 hcc79 hfr79 hM79)|((with_reducible refine gate_store (t:=97) (p:=46) rfl ?_);refine sx 97 46 ((((w76.setCell ⟨go50,(a0_3:Int).toNat * 4,none⟩ (.int .i64 a1)).setCell ⟨go50,(a0_3:Int).toNat * 4 + 1,none⟩ (.int .i64 a0_2)).setCell ⟨go50,(a0_3:Int).toNat * 4 + 2,none⟩ (.int .i64 (-1))).setCell ⟨go50,(a0_3:Int).toNat * 4 + 3,none⟩ (.bool true)) ?_;intro w80 hw;have hg:w76.grownBy w80 (some go50):=(by rw [hw];exact HP79.2);have hp_:Kd.R k97 97 w80 w.heap.size (fun _=>True) (.slice (some ⟨go50,0,none⟩) t287.length co11) y299:=(by rw [hw,Ny299.out];exact HP79.1);clear HP79;replace BK285:=Aside0.mk (blk_grown (bk BK285) hg (Kd.R_ne HO_295000.out BK285.out (by decide)));replace BK286:=Aside0.mk (blk_grown (bk BK286) hg (Kd.R_ne HO_295000.out BK286.out (by decide)));replace BK294:=Aside0.mk (blk_grown (bk BK294) hg (Kd.R_ne HO_295000.out BK294.out (by decide)));replace HO_295000:=Aside0.mk (hp_);replace HB:=Aside0.mk ((by rw [hw];exact below_set (below_set (below_set (below_set (HB.out) GB50.out) GB50.out) GB50.out) GB50.out:Below w.heap.size w w80));clear hg hw hp_;obtain ⟨hcz81_0,hcz81_1,hcz81_2,hcz81_3,hcz81_4,hfz81_0,hfz81_1,hfz81_2,hfz81_3,hfz81_4⟩:=ck5 BK285.out;obtain ⟨hcz82_0,hcz82_1,hcz82_2,hcz82_3,hcz82_4,hfz82_0,hfz82_1,hfz82_2,hfz82_3,hfz82_4⟩:=ck5 BK294.out;obtain ⟨hcz83_0,hcz83_1,hcz83_2,hcz83_3,hcz83_4,hfz83_0,hfz83_1,hfz83_2,hfz83_3,hfz83_4⟩:=ck5 BK286.out))
        refine bodyPost_ret (results_ct rfl _ _ gb286 28 #[.slice (some ⟨go50,0,none⟩) t287.length co11,.int .i64 a0_3,.int .i64 a0_3,.int .i64 ((rd_T97 l0_0 a0_3).f2),.int .i64 (wrap64 (t293 + 1))] (0,0) _ rfl (by (with_reducible repeat (first|refine blk_drewN ?_ _|refine blk_drew ?_|refine blk_alloc ?_ _));refine blk_put (cs:=#[.slice (some ⟨go50,0,none⟩) t287.length co11,.int .i64 a0_3,.int .i64 a0_3,.int .i64 ((rd_T97 l0_0 a0_3).f2),.int .i64 0]) ?_ 4 _ rfl;(with_reducible repeat (first|refine blk_drewN ?_ _|refine blk_drew ?_|refine blk_alloc ?_ _));refine blk_put (cs:=#[.slice (some ⟨go50,0,none⟩) t287.length co11,.int .i64 a0_3,.int .i64 a0_3,.int .i64 0,.int .i64 0]) ?_ 3 _ rfl;(with_reducible repeat (first|refine blk_drewN ?_ _|refine blk_drew ?_|refine blk_alloc ?_ _));refine blk_put (cs:=#[.slice (some ⟨go50,0,none⟩) t287.length co11,.int .i64 a0_3,.int .i64 0,.int .i64 0,.int .i64 0]) ?_ 2 _ rfl;(with_reducible repeat (first|refine blk_drewN ?_ _|refine blk_drew ?_|refine blk_alloc ?_ _));refine blk_put (cs:=#[.slice (some ⟨go50,0,none⟩) t287.length co11,.int .i64 0,.int .i64 0,.int .i64 0,.int .i64 0]) ?_ 1 _ rfl;(with_reducible repeat (first|refine blk_drewN ?_ _|refine blk_drew ?_|refine blk_alloc ?_ _));refine blk_put (cs:=#[.slice none 0 0,.int .i64 0,.int .i64 0,.int .i64 0,.int .i64 0]) ?_ 0 _ rfl;(with_reducible repeat (first|refine blk_drewN ?_ _|refine blk_drew ?_|refine blk_alloc ?_ _));refine blk_far ?_ NB286_294.out _;(with_reducible repeat (first|refine blk_drewN ?_ _|refine blk_drew ?_|refine blk_alloc ?_ _));refine blk_far ?_ NB286_294.out _;(with_reducible repeat (first|refine blk_drewN ?_ _|refine blk_drew ?_|refine blk_alloc ?_ _));refine blk_far ?_ NB286_294.out _;(with_reducible repeat (first|refine blk_drewN ?_ _|refine blk_drew ?_|refine blk_alloc ?_ _));exact BK286.out) Try.underlying28 rfl (by kernel_rfl)) rfl ?_
        exact ⟨_,by first|rfl|(simp [errW_none,errW_some] <;> rfl)|(simp [*,errW_none,errW_some] <;> rfl),by (with_reducible repeat (first|apply Kd.R_alloc|apply Kd.R_drewN|apply Kd.R_drew));exact Kd.R_mono (Kd.R_far (p:=⟨gb286,4,none⟩) (Kd.R_far (p:=⟨gb286,3,none⟩) (Kd.R_far (p:=⟨gb286,2,none⟩) (Kd.R_far (p:=⟨gb286,1,none⟩) (Kd.R_far (p:=⟨gb286,0,none⟩) (Kd.R_far (p:=⟨gb294,4,none⟩) (Kd.R_far (p:=⟨gb294,2,none⟩) (Kd.R_far (p:=⟨gb294,1,none⟩) (Kd.R_types (Kd.R_types HO_295000.out BK294.out (by decide)) BK286.out (by decide)) (fun _ hk=>hk.1.2) (.int .i64 a0_3)) (fun _ hk=>hk.1.2) (.int .i64 a0_3)) (fun _ hk=>hk.1.2) (.int .i64 (wrap64 (t293 + 1)))) (fun _ hk=>hk.2) (.slice (some ⟨go50,0,none⟩) t287.length co11)) (fun _ hk=>hk.2) (.int .i64 a0_3)) (fun _ hk=>hk.2) (.int .i64 a0_3)) (fun _ hk=>hk.2) (.int .i64 ((rd_T97 l0_0 a0_3).f2))) (fun _ hk=>hk.2) (.int .i64 (wrap64 (t293 + 1)))) (fun _ hk=>trivial),bl⟩
      ·rw [if_neg c49] at H
       exact absurd H (by simp)
     ·rw [if_neg c48] at H
      exact absurd H (by simp)
    ·rw [if_neg c47] at H
     exact absurd H (by simp)

/-! ### impl_MoveBack: function 15 -/
def impl_MoveBack.f (k:Nat) (l0_0:List (S97)) (a0_1:Int) (a0_2:Int) (a0_3:Int) (a0_4:Int) (a1:Int):Option ((List (S97)) × Int × Int × Int × Int × Bool):=(impl_PlaceOf.f k l0_0 a0_1 a0_2 a0_3 a0_4 a1).bind fun t303=>(if t303 < 0 then ((impl_ownQueue.f l0_0 a0_1 a0_2 a0_3 a0_4).bind fun bt304=>(some (bt304.1,bt304.2.1,bt304.2.2.1,bt304.2.2.2.1,bt304.2.2.2.2,false))) else ((impl_RemoveAt.f k l0_0 a0_1 a0_2 a0_3 a0_4 t303).bind fun bt311=>((impl_PushBack.f k bt311.1 bt311.2.1 bt311.2.2.1 bt311.2.2.2.1 bt311.2.2.2.2.1 a1).bind fun bt320=>(some (bt320.1,bt320.2.1,bt320.2.2.1,bt320.2.2.2.1,bt320.2.2.2.2.1,true)))))
theorem impl_MoveBack.mono:∀ a0 a1 a2 a3 a4 a5 k,LeO (impl_MoveBack.f k a0 a1 a2 a3 a4 a5) (impl_MoveBack.f (k + 1) a0 a1 a2 a3 a4 a5):=by
 intro a0 a1 a2 a3 a4 a5 k
 unfold impl_MoveBack.f
 repeat' first
   | (with_reducible exact impl_PlaceOf.mono _ _ _ _ _ _ _)
   | (with_reducible exact impl_PushBack.mono _ _ _ _ _ _ _)
   | (with_reducible exact impl_RemoveAt.mono _ _ _ _ _ _ _)
   | (with_reducible exact LeO.refl _)
   | (with_reducible exact LeO.none _)
   | (with_reducible refine LeO.ite ?_ ?_)
   | (with_reducible refine LeO.bind ?_ (fun _=>?_))
   | exact impl_PlaceOf.mono _ _ _ _ _ _ _
   | exact impl_PushBack.mono _ _ _ _ _ _ _
   | exact impl_RemoveAt.mono _ _ _ _ _ _ _
   | exact LeO.none _
   | refine LeO.ite ?_ ?_
   | refine LeO.bind ?_ (fun _=>?_)
set_option maxHeartbeats 8000000 in
set_option maxRecDepth 100000 in
theorem impl_MoveBack.calls (k:Nat) (A0_0:Option Addr) (c0_0:Nat) (l0_0:List (S97)) (a0_1:Int) (a0_2:Int) (a0_3:Int) (a0_4:Int) (a1:Int) (r1:List (S97)) (r2:Int) (r3:Int) (r4:Int) (r5:Int) (r6:Bool) (w:World) (hr0_0:Kd.C k97 w A0_0 l0_0.length l0_0) (hc0_0:l0_0.length≤c0_0) (h:impl_MoveBack.f k l0_0 a0_1 a0_2 a0_3 a0_4 a1=some (r1,r2,r3,r4,r5,r6)) :
  Calls Try.prog 15 #[.agg #[.slice A0_0 l0_0.length c0_0,.int .i64 a0_1,.int .i64 a0_2,.int .i64 a0_3,.int .i64 a0_4],.int .i64 a1] w fun e w'=>∃ v0_:Value,e = .returned (.tuple #[.agg #[v0_,.int .i64 r2,.int .i64 r3,.int .i64 r4,.int .i64 r5],.bool r6])∧Kd.R k97 97 w' w.heap.size (fun _=>True) v0_ r1∧Below w.heap.size w w':=by
 have hu28:=Try.underlying28
 have HR0_0:=Aside0.mk hr0_0
 have HC0_0:=Aside0.mk hc0_0
 clear hr0_0 hc0_0
 have HB:=Aside0.mk (Below.refl w.heap.size w)
 have H:((impl_PlaceOf.f k l0_0 a0_1 a0_2 a0_3 a0_4 a1).bind fun t303=>(if t303 < 0 then ((impl_ownQueue.f l0_0 a0_1 a0_2 a0_3 a0_4).bind fun bt304=>(some (bt304.1,bt304.2.1,bt304.2.2.1,bt304.2.2.2.1,bt304.2.2.2.2,false))) else ((impl_RemoveAt.f k l0_0 a0_1 a0_2 a0_3 a0_4 t303).bind fun bt311=>((impl_PushBack.f k bt311.1 bt311.2.1 bt311.2.2.1 bt311.2.2.2.1 bt311.2.2.2.2.1 a1).bind fun bt320=>(some (bt320.1,bt320.2.1,bt320.2.2.1,bt320.2.2.2.1,bt320.2.2.2.2.1,true))))))=some (r1,r2,r3,r4,r5,r6):=h
 clear h
 replace H:=Option.bind_eq_some_iff.mp H
 obtain ⟨t303,A30,H⟩:=H
 have A3:=Aside0.mk A30
 clear A30
 by_cases c4:t303 < 0
 ·rw [if_pos c4] at H
  have c4b0:decide (t303 < 0)=true:=decide_eq_true c4
  clear c4
  replace H:=Option.bind_eq_some_iff.mp H
  obtain ⟨⟨t304,t307,t308,t309,t310⟩,A50,H⟩:=H
  replace H:(some (t304,t307,t308,t309,t310,false))=some (r1,r2,r3,r4,r5,r6):=H
  have A5:=Aside0.mk A50
  clear A50
  simp only [Option.some.injEq,Prod.mk.injEq] at H
  obtain ⟨rfl,rfl,rfl,rfl,rfl,rfl⟩:=H
  go_enter Try.func15,Try.ntmps15
  go_wp2_with (first|((with_reducible refine gate_dst (N:=2) rfl ?_);refine bx 2 #[.slice A0_0 l0_0.length c0_0,.int .i64 a0_1,.int .i64 a0_2,.int .i64 a0_3,.int .i64 a0_4] 28 ?_;intro gb301 hg w6 hbox hb;have BK301:=Aside0.mk (hbox);have GW301:=Aside0.mk (bz hg:w.heap.size≤gb301);have GE301:=GW301;replace HB:=Aside0.mk (below_step bl hb);clear hb hbox hg)|((with_reducible refine gate_dst (N:=4) rfl ?_);refine bx 4 #[.slice none 0 0,.int .i64 0,.int .i64 0,.int .i64 0,.int .i64 0] 28 ?_;intro gb302 hg w7 hbox hb;have BK302:=Aside0.mk (hbox);have GW302:=Aside0.mk (bz hg:w.heap.size≤gb302);have GE302:=GW302;replace HB:=Aside0.mk (below_step bl hb);have NB301_302:=Aside0.mk (nl hg BK301:gb301≠gb302);have NB302_301:=Aside0.mk (nr hg BK301:gb302≠gb301);replace BK301:=Aside0.mk (blk_below (bk BK301) hb);clear hb hbox hg;have hnb8:=NB301_302.out;have hnc8:=NB302_301.out;obtain ⟨hcz9_0,hcz9_1,hcz9_2,hcz9_3,hcz9_4,hfz9_0,hfz9_1,hfz9_2,hfz9_3,hfz9_4⟩:=ck5 BK301.out)|((with_reducible refine gate_callee (f:=52) rfl ?_);refine gl Try.func52 #[.agg #[.slice A0_0 l0_0.length c0_0,.int .i64 a0_1,.int .i64 a0_2,.int .i64 a0_3,.int .i64 a0_4],.int .i64 a1] ?_;(with_reducible refine (impl_PlaceOf.calls k _ _ l0_0 a0_1 a0_2 a0_3 a0_4 a1 t303 _ ?side1 ?side2 A3.out).mono ?_);(case side1=>exact kc HR0_0);(case side2=>exact HC0_0.out);rintro e w10 ⟨rfl,hb⟩;refine ⟨_,rfl,?_⟩;replace BK301:=Aside0.mk (blk_below (bk BK301) hb);replace BK302:=Aside0.mk (blk_below (bk BK302) hb);replace HB:=Aside0.mk (below_step bl hb);(try clear hb);(try clear hb2);(try clear hk);(try clear hi);obtain ⟨hcz11_0,hcz11_1,hcz11_2,hcz11_3,hcz11_4,hfz11_0,hfz11_1,hfz11_2,hfz11_3,hfz11_4⟩:=ck5 BK301.out)|((with_reducible refine gate_callee (f:=53) rfl ?_);refine gl Try.func53 #[.agg #[.slice A0_0 l0_0.length c0_0,.int .i64 a0_1,.int .i64 a0_2,.int .i64 a0_3,.int .i64 a0_4]] ?_;(with_reducible refine (impl_ownQueue.calls _ _ l0_0 a0_1 a0_2 a0_3 a0_4 t304 t307 t308 t309 t310 _ ?side1 ?side2 A5.out).mono ?_);(case side1=>exact kc HR0_0);(case side2=>exact HC0_0.out);rintro e w12 ⟨v305,rfl,ho0,hb⟩;refine ⟨_,rfl,?_⟩;have HO306:=Aside0.mk (Kd.R_lower ho0 (below_size bl));replace BK301:=Aside0.mk (blk_below (bk BK301) hb);replace BK302:=Aside0.mk (blk_below (bk BK302) hb);replace HB:=Aside0.mk (below_step bl hb);(try clear hb);(try clear hb2);(try clear hk);(try clear hi);(try clear ho0);obtain ⟨Ao13,co13,eo13⟩:=Kd.R_slice HO306.out;subst eo13;obtain ⟨hcz14_0,hcz14_1,hcz14_2,hcz14_3,hcz14_4,hfz14_0,hfz14_1,hfz14_2,hfz14_3,hfz14_4⟩:=ck5 BK302.out))
  refine bodyPost_ret (results_ct rfl _ _ gb302 28 #[.slice Ao13 t304.length co13,.int .i64 t307,.int .i64 t308,.int .i64 t309,.int .i64 t310] (0,0) _ rfl (by (with_reducible repeat (first|refine blk_drewN ?_ _|refine blk_drew ?_|refine blk_alloc ?_ _));refine blk_put (cs:=#[.slice Ao13 t304.length co13,.int .i64 t307,.int .i64 t308,.int .i64 t309,.int .i64 0]) ?_ 4 _ rfl;(with_reducible repeat (first|refine blk_drewN ?_ _|refine blk_drew ?_|refine blk_alloc ?_ _));refine blk_put (cs:=#[.slice Ao13 t304.length co13,.int .i64 t307,.int .i64 t308,.int .i64 0,.int .i64 0]) ?_ 3 _ rfl;(with_reducible repeat (first|refine blk_drewN ?_ _|refine blk_drew ?_|refine blk_alloc ?_ _));refine blk_put (cs:=#[.slice Ao13 t304.length co13,.int .i64 t307,.int .i64 0,.int .i64 0,.int .i64 0]) ?_ 2 _ rfl;(with_reducible repeat (first|refine blk_drewN ?_ _|refine blk_drew ?_|refine blk_alloc ?_ _));refine blk_put (cs:=#[.slice Ao13 t304.length co13,.int .i64 0,.int .i64 0,.int .i64 0,.int .i64 0]) ?_ 1 _ rfl;(with_reducible repeat (first|refine blk_drewN ?_ _|refine blk_drew ?_|refine blk_alloc ?_ _));refine blk_put (cs:=#[.slice none 0 0,.int .i64 0,.int .i64 0,.int .i64 0,.int .i64 0]) ?_ 0 _ rfl;(with_reducible repeat (first|refine blk_drewN ?_ _|refine blk_drew ?_|refine blk_alloc ?_ _));exact BK302.out) Try.underlying28 rfl (by kernel_rfl)) rfl ?_
  exact ⟨_,by first|rfl|(simp [errW_none,errW_some] <;> rfl)|(simp [*,errW_none,errW_some] <;> rfl),by (with_reducible repeat (first|apply Kd.R_alloc|apply Kd.R_drewN|apply Kd.R_drew));exact Kd.R_mono (Kd.R_far (p:=⟨gb302,4,none⟩) (Kd.R_far (p:=⟨gb302,3,none⟩) (Kd.R_far (p:=⟨gb302,2,none⟩) (Kd.R_far (p:=⟨gb302,1,none⟩) (Kd.R_far (p:=⟨gb302,0,none⟩) (Kd.R_types HO306.out BK302.out (by decide)) (fun _ hk=>hk.2) (.slice Ao13 t304.length co13)) (fun _ hk=>hk.2) (.int .i64 t307)) (fun _ hk=>hk.2) (.int .i64 t308)) (fun _ hk=>hk.2) (.int .i64 t309)) (fun _ hk=>hk.2) (.int .i64 t310)) (fun _ hk=>trivial),bl⟩
 ·rw [if_neg c4] at H
  have c4b0:decide (t303 < 0)=false:=decide_eq_false c4
  clear c4
  replace H:=Option.bind_eq_some_iff.mp H
  obtain ⟨⟨t311,t314,t315,t316,t317,t318⟩,A150,H⟩:=H
  replace H:((impl_PushBack.f k t311 t314 t315 t316 t317 a1).bind fun bt320=>(some (bt320.1,bt320.2.1,bt320.2.2.1,bt320.2.2.2.1,bt320.2.2.2.2.1,true)))=some (r1,r2,r3,r4,r5,r6):=H
  have A15:=Aside0.mk A150
  clear A150
  replace H:=Option.bind_eq_some_iff.mp H
  obtain ⟨⟨t320,t323,t324,t325,t326,t327⟩,A160,H⟩:=H
  replace H:(some (t320,t323,t324,t325,t326,true))=some (r1,r2,r3,r4,r5,r6):=H
  have A16:=Aside0.mk A160
  clear A160
  simp only [Option.some.injEq,Prod.mk.injEq] at H
  obtain ⟨rfl,rfl,rfl,rfl,rfl,rfl⟩:=H
  go_enter Try.func15,Try.ntmps15
  go_wp2_with (first|((with_reducible refine gate_dst (N:=2) rfl ?_);refine bx 2 #[.slice A0_0 l0_0.length c0_0,.int .i64 a0_1,.int .i64 a0_2,.int .i64 a0_3,.int .i64 a0_4] 28 ?_;intro gb301 hg w17 hbox hb;have BK301:=Aside0.mk (hbox);have GW301:=Aside0.mk (bz hg:w.heap.size≤gb301);have GE301:=GW301;replace HB:=Aside0.mk (below_step bl hb);clear hb hbox hg)|((with_reducible refine gate_dst (N:=4) rfl ?_);refine bx 4 #[.slice none 0 0,.int .i64 0,.int .i64 0,.int .i64 0,.int .i64 0] 28 ?_;intro gb302 hg w18 hbox hb;have BK302:=Aside0.mk (hbox);have GW302:=Aside0.mk (bz hg:w.heap.size≤gb302);have GE302:=GW302;replace HB:=Aside0.mk (below_step bl hb);have NB301_302:=Aside0.mk (nl hg BK301:gb301≠gb302);have NB302_301:=Aside0.mk (nr hg BK301:gb302≠gb301);replace BK301:=Aside0.mk (blk_below (bk BK301) hb);clear hb hbox hg;have hnb19:=NB301_302.out;have hnc19:=NB302_301.out;obtain ⟨hcz20_0,hcz20_1,hcz20_2,hcz20_3,hcz20_4,hfz20_0,hfz20_1,hfz20_2,hfz20_3,hfz20_4⟩:=ck5 BK301.out)|((with_reducible refine gate_callee (f:=52) rfl ?_);refine gl Try.func52 #[.agg #[.slice A0_0 l0_0.length c0_0,.int .i64 a0_1,.int .i64 a0_2,.int .i64 a0_3,.int .i64 a0_4],.int .i64 a1] ?_;(with_reducible refine (impl_PlaceOf.calls k _ _ l0_0 a0_1 a0_2 a0_3 a0_4 a1 t303 _ ?side1 ?side2 A3.out).mono ?_);(case side1=>exact kc HR0_0);(case side2=>exact HC0_0.out);rintro e w21 ⟨rfl,hb⟩;refine ⟨_,rfl,?_⟩;replace BK301:=Aside0.mk (blk_below (bk BK301) hb);replace BK302:=Aside0.mk (blk_below (bk BK302) hb);replace HB:=Aside0.mk (below_step bl hb);(try clear hb);(try clear hb2);(try clear hk);(try clear hi);obtain ⟨hcz22_0,hcz22_1,hcz22_2,hcz22_3,hcz22_4,hfz22_0,hfz22_1,hfz22_2,hfz22_3,hfz22_4⟩:=ck5 BK301.out)|((with_reducible refine gate_callee (f:=54) rfl ?_);refine gl Try.func54 #[.agg #[.slice A0_0 l0_0.length c0_0,.int .i64 a0_1,.int .i64 a0_2,.int .i64 a0_3,.int .i64 a0_4],.int .i64 t303] ?_;(with_reducible refine (impl_RemoveAt.calls k _ _ l0_0 a0_1 a0_2 a0_3 a0_4 t303 t311 t314 t315 t316 t317 t318 _ ?side1 ?side2 A15.out).mono ?_);(case side1=>exact kc HR0_0);(case side2=>exact HC0_0.out);rintro e w23 ⟨v312,rfl,ho0,hb⟩;refine ⟨_,rfl,?_⟩;have HO313:=Aside0.mk (Kd.R_lower ho0 (below_size bl));replace BK301:=Aside0.mk (blk_below (bk BK301) hb);replace BK302:=Aside0.mk (blk_below (bk BK302) hb);replace HB:=Aside0.mk (below_step bl hb);(try clear hb);(try clear hb2);(try clear hk);(try clear hi);(try clear ho0))|((with_reducible refine gate_dst (N:=7) rfl ?_);refine bx 7 #[.slice none 0 0,.int .i64 0,.int .i64 0,.int .i64 0,.int .i64 0] 28 ?_;intro gb319 hg w24 hbox hb;replace HO313:=Aside0.mk (Kd.R_below (kr HO313) hb);have BK319:=Aside0.mk (hbox);have GW319:=Aside0.mk (bz hg:w.heap.size≤gb319);have GE319:=GW319;replace HB:=Aside0.mk (below_step bl hb);have NB301_319:=Aside0.mk (nl hg BK301:gb301≠gb319);have NB319_301:=Aside0.mk (nr hg BK301:gb319≠gb301);replace BK301:=Aside0.mk (blk_below (bk BK301) hb);have NB302_319:=Aside0.mk (nl hg BK302:gb302≠gb319);have NB319_302:=Aside0.mk (nr hg BK302:gb319≠gb302);replace BK302:=Aside0.mk (blk_below (bk BK302) hb);clear hb hbox hg;obtain ⟨Ao25,co25,eo25⟩:=Kd.R_slice HO313.out;subst eo25;have hnb26:=NB319_301.out;have hnc26:=NB301_319.out;have hnb27:=NB319_302.out;have hnc27:=NB302_319.out;obtain ⟨hcz28_0,hcz28_1,hcz28_2,hcz28_3,hcz28_4,hfz28_0,hfz28_1,hfz28_2,hfz28_3,hfz28_4⟩:=ck5 BK319.out)|((with_reducible refine gate_callee (f:=55) rfl ?_);refine gl Try.func55 #[.agg #[.slice Ao25 t311.length co25,.int .i64 t314,.int .i64 t315,.int .i64 t316,.int .i64 t317],.int .i64 a1] ?_;(with_reducible refine (impl_PushBack.calls k _ _ t311 t314 t315 t316 t317 a1 t320 t323 t324 t325 t326 t327 _ ?side1 ?side2 A16.out).mono ?_);(case side1=>refine (Kd.R_reads' (e:=97) (base:=w.heap.size) (ok:=fun k_=>True) (n:=t311.length) (c:=co25) ?_).2.2;exact (by (with_reducible repeat (first|apply Kd.R_alloc|apply Kd.R_drewN|apply Kd.R_drew));exact (Kd.R_mono (Kd.R_far (p:=⟨gb319,4,none⟩) (Kd.R_far (p:=⟨gb319,3,none⟩) (Kd.R_far (p:=⟨gb319,2,none⟩) (Kd.R_far (p:=⟨gb319,1,none⟩) (Kd.R_far (p:=⟨gb319,0,none⟩) (Kd.R_types HO313.out BK319.out (by decide)) (fun _ hk=>hk.2) (.slice Ao25 t311.length co25)) (fun _ hk=>hk.2) (.int .i64 t314)) (fun _ hk=>hk.2) (.int .i64 t315)) (fun _ hk=>hk.2) (.int .i64 t316)) (fun _ hk=>hk.2) (.int .i64 t317)) (fun _ h_=>h_.1))));(case side2=>exact (Kd.R_reads' HO313.out).2.1);rintro e w29 ⟨v321,rfl,ho0,hb⟩;refine ⟨_,rfl,?_⟩;have HO322:=Aside0.mk (Kd.R_lower (Kd.R_new' ho0 (Kd.R_lt (by (with_reducible repeat (first|apply Kd.R_alloc|apply Kd.R_drewN|apply Kd.R_drew));exact (Kd.R_mono (Kd.R_far (p:=⟨gb319,4,none⟩) (Kd.R_far (p:=⟨gb319,3,none⟩) (Kd.R_far (p:=⟨gb319,2,none⟩) (Kd.R_far (p:=⟨gb319,1,none⟩) (Kd.R_far (p:=⟨gb319,0,none⟩) (Kd.R_types HO313.out BK319.out (by decide)) (fun _ hk=>hk.2) (.slice Ao25 t311.length co25)) (fun _ hk=>hk.2) (.int .i64 t314)) (fun _ hk=>hk.2) (.int .i64 t315)) (fun _ hk=>hk.2) (.int .i64 t316)) (fun _ hk=>hk.2) (.int .i64 t317)) (fun _ h_=>h_.1))))) (below_size bl));replace HO313:=Aside0.mk (Kd.R_elder' (by (with_reducible repeat (first|apply Kd.R_alloc|apply Kd.R_drewN|apply Kd.R_drew));exact (Kd.R_mono (Kd.R_far (p:=⟨gb319,4,none⟩) (Kd.R_far (p:=⟨gb319,3,none⟩) (Kd.R_far (p:=⟨gb319,2,none⟩) (Kd.R_far (p:=⟨gb319,1,none⟩) (Kd.R_far (p:=⟨gb319,0,none⟩) (Kd.R_types HO313.out BK319.out (by decide)) (fun _ hk=>hk.2) (.slice Ao25 t311.length co25)) (fun _ hk=>hk.2) (.int .i64 t314)) (fun _ hk=>hk.2) (.int .i64 t315)) (fun _ hk=>hk.2) (.int .i64 t316)) (fun _ hk=>hk.2) (.int .i64 t317)) (fun _ h_=>h_.1))) (Kd.R_base ho0) hb);replace BK301:=Aside0.mk (blk_below (g:=gb301) (o:=.cells #[.slice A0_0 l0_0.length c0_0,.int .i64 a0_1,.int .i64 a0_2,.int .i64 a0_3,.int .i64 a0_4] 28 (0,0)) (bf BK301) hb);replace BK302:=Aside0.mk (blk_below (g:=gb302) (o:=.cells #[.slice none 0 0,.int .i64 0,.int .i64 0,.int .i64 0,.int .i64 0] 28 (0,0)) (bf BK302) hb);replace BK319:=Aside0.mk (blk_below (g:=gb319) (o:=.cells #[.slice Ao25 t311.length co25,.int .i64 t314,.int .i64 t315,.int .i64 t316,.int .i64 t317] 28 (0,0)) (by (with_reducible repeat (first|refine blk_drewN ?_ _|refine blk_drew ?_|refine blk_alloc ?_ _));refine blk_put (cs:=#[.slice Ao25 t311.length co25,.int .i64 t314,.int .i64 t315,.int .i64 t316,.int .i64 0]) ?_ 4 _ rfl;(with_reducible repeat (first|refine blk_drewN ?_ _|refine blk_drew ?_|refine blk_alloc ?_ _));refine blk_put (cs:=#[.slice Ao25 t311.length co25,.int .i64 t314,.int .i64 t315,.int .i64 0,.int .i64 0]) ?_ 3 _ rfl;(with_reducible repeat (first|refine blk_drewN ?_ _|refine blk_drew ?_|refine blk_alloc ?_ _));refine blk_put (cs:=#[.slice Ao25 t311.length co25,.int .i64 t314,.int .i64 0,.int .i64 0,.int .i64 0]) ?_ 2 _ rfl;(with_reducible repeat (first|refine blk_drewN ?_ _|refine blk_drew ?_|refine blk_alloc ?_ _));refine blk_put (cs:=#[.slice Ao25 t311.length co25,.int .i64 0,.int .i64 0,.int .i64 0,.int .i64 0]) ?_ 1 _ rfl;(with_reducible repeat (first|refine blk_drewN ?_ _|refine blk_drew ?_|refine blk_alloc ?_ _));refine blk_put (cs:=#[.slice none 0 0,.int .i64 0,.int .i64 0,.int .i64 0,.int .i64 0]) ?_ 0 _ rfl;(with_reducible repeat (first|refine blk_drewN ?_ _|refine blk_drew ?_|refine blk_alloc ?_ _));exact BK319.out) hb);replace HB:=Aside0.mk (below_step bl hb);(try clear hb);(try clear hb2);(try clear hk);(try clear hi);(try clear ho0);obtain ⟨Ao30,co30,eo30⟩:=Kd.R_slice HO322.out;subst eo30;obtain ⟨hcz31_0,hcz31_1,hcz31_2,hcz31_3,hcz31_4,hfz31_0,hfz31_1,hfz31_2,hfz31_3,hfz31_4⟩:=ck5 BK319.out;obtain ⟨hcz32_0,hcz32_1,hcz32_2,hcz32_3,hcz32_4,hfz32_0,hfz32_1,hfz32_2,hfz32_3,hfz32_4⟩:=ck5 BK302.out))
  refine bodyPost_ret (results_ct rfl _ _ gb302 28 #[.slice Ao30 t320.length co30,.int .i64 t323,.int .i64 t324,.int .i64 t325,.int .i64 t326] (0,0) _ rfl (by (with_reducible repeat (first|refine blk_drewN ?_ _|refine blk_drew ?_|refine blk_alloc ?_ _));refine blk_put (cs:=#[.slice Ao30 t320.length co30,.int .i64 t323,.int .i64 t324,.int .i64 t325,.int .i64 0]) ?_ 4 _ rfl;(with_reducible repeat (first|refine blk_drewN ?_ _|refine blk_drew ?_|refine blk_alloc ?_ _));refine blk_put (cs:=#[.slice Ao30 t320.length co30,.int .i64 t323,.int .i64 t324,.int .i64 0,.int .i64 0]) ?_ 3 _ rfl;(with_reducible repeat (first|refine blk_drewN ?_ _|refine blk_drew ?_|refine blk_alloc ?_ _));refine blk_put (cs:=#[.slice Ao30 t320.length co30,.int .i64 t323,.int .i64 0,.int .i64 0,.int .i64 0]) ?_ 2 _ rfl;(with_reducible repeat (first|refine blk_drewN ?_ _|refine blk_drew ?_|refine blk_alloc ?_ _));refine blk_put (cs:=#[.slice Ao30 t320.length co30,.int .i64 0,.int .i64 0,.int .i64 0,.int .i64 0]) ?_ 1 _ rfl;(with_reducible repeat (first|refine blk_drewN ?_ _|refine blk_drew ?_|refine blk_alloc ?_ _));refine blk_put (cs:=#[.slice none 0 0,.int .i64 0,.int .i64 0,.int .i64 0,.int .i64 0]) ?_ 0 _ rfl;(with_reducible repeat (first|refine blk_drewN ?_ _|refine blk_drew ?_|refine blk_alloc ?_ _));refine blk_far ?_ NB302_319.out _;(with_reducible repeat (first|refine blk_drewN ?_ _|refine blk_drew ?_|refine blk_alloc ?_ _));refine blk_far ?_ NB302_319.out _;(with_reducible repeat (first|refine blk_drewN ?_ _|refine blk_drew ?_|refine blk_alloc ?_ _));refine blk_far ?_ NB302_319.out _;(with_reducible repeat (first|refine blk_drewN ?_ _|refine blk_drew ?_|refine blk_alloc ?_ _));refine blk_far ?_ NB302_319.out _;(with_reducible repeat (first|refine blk_drewN ?_ _|refine blk_drew ?_|refine blk_alloc ?_ _));refine blk_far ?_ NB302_319.out _;(with_reducible repeat (first|refine blk_drewN ?_ _|refine blk_drew ?_|refine blk_alloc ?_ _));exact BK302.out) Try.underlying28 rfl (by kernel_rfl)) rfl ?_
  exact ⟨_,by first|rfl|(simp [errW_none,errW_some] <;> rfl)|(simp [*,errW_none,errW_some] <;> rfl),by (with_reducible repeat (first|apply Kd.R_alloc|apply Kd.R_drewN|apply Kd.R_drew));exact Kd.R_mono (Kd.R_far (p:=⟨gb302,4,none⟩) (Kd.R_far (p:=⟨gb302,3,none⟩) (Kd.R_far (p:=⟨gb302,2,none⟩) (Kd.R_far (p:=⟨gb302,1,none⟩) (Kd.R_far (p:=⟨gb302,0,none⟩) (Kd.R_far (p:=⟨gb319,4,none⟩) (Kd.R_far (p:=⟨gb319,3,none⟩) (Kd.R_far (p:=⟨gb319,2,none⟩) (Kd.R_far (p:=⟨gb319,1,none⟩) (Kd.R_far (p:=⟨gb319,0,none⟩) (Kd.R_types (Kd.R_types HO322.out BK319.out (by decide)) BK302.out (by decide)) (fun _ hk=>hk.1.2) (.slice Ao30 t320.length co30)) (fun _ hk=>hk.1.2) (.int .i64 t323)) (fun _ hk=>hk.1.2) (.int .i64 t324)) (fun _ hk=>hk.1.2) (.int .i64 t325)) (fun _ hk=>hk.1.2) (.int .i64 t326)) (fun _ hk=>hk.2) (.slice Ao30 t320.length co30)) (fun _ hk=>hk.2) (.int .i64 t323)) (fun _ hk=>hk.2) (.int .i64 t324)) (fun _ hk=>hk.2) (.int .i64 t325)) (fun _ hk=>hk.2) (.int .i64 t326)) (fun _ hk=>trivial),bl⟩

/-! ### laws_eqSlot: function 90 -/
def laws_eqSlot.f (a0_0:Int) (a0_1:Int) (a0_2:Int) (a0_3:Bool) (a1_0:Int) (a1_1:Int) (a1_2:Int) (a1_3:Bool):Option (Bool):=if a0_0=a1_0 then (if a0_1=a1_1 then (if a0_2=a1_2 then (if (a0_3 != a1_3)=true then (none) else (some true)) else (none)) else (none)) else (none)
set_option maxHeartbeats 8000000 in
set_option maxRecDepth 100000 in
theorem laws_eqSlot.calls (a0_0:Int) (a0_1:Int) (a0_2:Int) (a0_3:Bool) (a1_0:Int) (a1_1:Int) (a1_2:Int) (a1_3:Bool) (r:Bool) (w:World) (h:laws_eqSlot.f a0_0 a0_1 a0_2 a0_3 a1_0 a1_1 a1_2 a1_3=some r) :
  Calls Try.prog 90 #[.agg #[.int .i64 a0_0,.int .i64 a0_1,.int .i64 a0_2,.bool a0_3],.agg #[.int .i64 a1_0,.int .i64 a1_1,.int .i64 a1_2,.bool a1_3]] w fun e w'=>e = .returned (.bool r)∧Below w.heap.size w w':=by
 have hu97:=Try.underlying97
 have HB:=Aside0.mk (Below.refl w.heap.size w)
 have H:(if a0_0=a1_0 then (if a0_1=a1_1 then (if a0_2=a1_2 then (if (a0_3 != a1_3)=true then (none) else (some true)) else (none)) else (none)) else (none))=some r:=h
 clear h
 by_cases c3:a0_0=a1_0
 ·rw [if_pos c3] at H
  have c3b0:(a0_0 == a1_0)=true:=beq_iff_eq.mpr c3
  have c3b1:(a0_0 != a1_0)=false:=bne_eq_false_iff_eq.mpr c3
  clear c3
  by_cases c4:a0_1=a1_1
  ·rw [if_pos c4] at H
   have c4b0:(a0_1 == a1_1)=true:=beq_iff_eq.mpr c4
   have c4b1:(a0_1 != a1_1)=false:=bne_eq_false_iff_eq.mpr c4
   clear c4
   by_cases c5:a0_2=a1_2
   ·rw [if_pos c5] at H
    have c5b0:(a0_2 == a1_2)=true:=beq_iff_eq.mpr c5
    have c5b1:(a0_2 != a1_2)=false:=bne_eq_false_iff_eq.mpr c5
    clear c5
    by_cases c6:(a0_3 != a1_3)=true
    ·rw [if_pos c6] at H
     exact absurd H (by simp)
    ·rw [if_neg c6] at H
     have c6b0:(a0_3 != a1_3)=false:=by simpa using c6
     (try (have c6b1:decide (a0_3=a1_3)=true:=by simpa using c6))
     (try (have c6b2:(a0_3 == a1_3)=true:=by simpa using c6))
     clear c6
     obtain rfl:=Option.some.inj H
     go_enter Try.func90,Try.ntmps90
     go_wp2_with (first|((with_reducible refine gate_dst (N:=2) rfl ?_);refine bx 2 #[.int .i64 a0_0,.int .i64 a0_1,.int .i64 a0_2,.bool a0_3] 97 ?_;intro gb328 hg w7 hbox hb;have BK328:=Aside0.mk (hbox);have GW328:=Aside0.mk (bz hg:w.heap.size≤gb328);have GE328:=GW328;replace HB:=Aside0.mk (below_step bl hb);clear hb hbox hg)|((with_reducible refine gate_dst (N:=3) rfl ?_);refine bx 3 #[.int .i64 a1_0,.int .i64 a1_1,.int .i64 a1_2,.bool a1_3] 97 ?_;intro gb329 hg w8 hbox hb;have BK329:=Aside0.mk (hbox);have GW329:=Aside0.mk (bz hg:w.heap.size≤gb329);have GE329:=GW329;replace HB:=Aside0.mk (below_step bl hb);have NB328_329:=Aside0.mk (nl hg BK328:gb328≠gb329);have NB329_328:=Aside0.mk (nr hg BK328:gb329≠gb328);replace BK328:=Aside0.mk (blk_below (bk BK328) hb);clear hb hbox hg;have hnb9:=NB328_329.out;have hnc9:=NB329_328.out;obtain ⟨hcz10_0,hcz10_1,hcz10_2,hcz10_3,hfz10_0,hfz10_1,hfz10_2,hfz10_3⟩:=ck4 BK328.out;obtain ⟨hcz11_0,hcz11_1,hcz11_2,hcz11_3,hfz11_0,hfz11_1,hfz11_2,hfz11_3⟩:=ck4 BK329.out))
     go_ret
     exact ⟨by first|rfl|(simp [errW_none,errW_some] <;> rfl)|(simp [*,errW_none,errW_some] <;> rfl),bl⟩
   ·rw [if_neg c5] at H
    exact absurd H (by simp)
  ·rw [if_neg c4] at H
   exact absurd H (by simp)
 ·rw [if_neg c3] at H
  exact absurd H (by simp)

/-! ### laws_eqSlotS: function 56 -/
def laws_eqSlotS.l0:Nat→List (S97)→List (S97)→Int→Option (Bool)
 | 0,_,_,_=>none
 | k + 1,x0,x1,x5=>if x5 < (x0.length:Int) then (if 0≤x5 then (if x5 < (x1.length:Int) then ((laws_eqSlot.f ((rd_T97 x0 x5).f0) ((rd_T97 x0 x5).f1) ((rd_T97 x0 x5).f2) ((rd_T97 x0 x5).f3) ((rd_T97 x1 x5).f0) ((rd_T97 x1 x5).f1) ((rd_T97 x1 x5).f2) ((rd_T97 x1 x5).f3)).bind fun t332=>(if t332=true then (laws_eqSlotS.l0 k x0 x1 (wrap64 (x5 + 1))) else (none))) else (none)) else (none)) else (some true)
def laws_eqSlotS.f (k:Nat) (l0:List (S97)) (l1:List (S97)):Option (Bool):=if (l0.length:Int)=(l1.length:Int) then (laws_eqSlotS.l0 k l0 l1 0) else (none)
theorem laws_eqSlotS.mono_l:∀ k,(∀ y0 y1 y2,LeO (laws_eqSlotS.l0 k y0 y1 y2) (laws_eqSlotS.l0 (k + 1) y0 y1 y2))
 | 0=>fun _ _ _ r h=>by simp [laws_eqSlotS.l0] at h
 | k + 1=>by
  have ih0:=laws_eqSlotS.mono_l k
  ·intro y0 y1 y2
   unfold laws_eqSlotS.l0
   repeat' first
   | (with_reducible exact ih0 _ _ _)
   | (with_reducible exact LeO.refl _)
   | (with_reducible exact LeO.none _)
   | (with_reducible refine LeO.ite ?_ ?_)
   | (with_reducible refine LeO.bind ?_ (fun _=>?_))
   | exact ih0 _ _ _
   | exact LeO.none _
   | refine LeO.ite ?_ ?_
   | refine LeO.bind ?_ (fun _=>?_)
theorem laws_eqSlotS.mono:∀ a0 a1 k,LeO (laws_eqSlotS.f k a0 a1) (laws_eqSlotS.f (k + 1) a0 a1):=by
 intro a0 a1 k
 have ih0:=laws_eqSlotS.mono_l k
 unfold laws_eqSlotS.f
 repeat' first
   | (with_reducible exact ih0 _ _ _)
   | (with_reducible exact LeO.refl _)
   | (with_reducible exact LeO.none _)
   | (with_reducible refine LeO.ite ?_ ?_)
   | (with_reducible refine LeO.bind ?_ (fun _=>?_))
   | exact ih0 _ _ _
   | exact LeO.none _
   | refine LeO.ite ?_ ?_
   | refine LeO.bind ?_ (fun _=>?_)
def laws_eqSlotS.T6:Bool × List (List Nat × List Nat):=(true,[([],[]),([],[]),([0,1],[0,1]),([2],[2]),([],[]),([],[]),([4,5],[4,5]),([6],[6]),([3,7],[3,7]),([8],[8])])
def laws_eqSlotS.B6:List Nat:=[0,0,3,7,0,0,48,112,255,511]
theorem laws_eqSlotS.tab6:rtab .any (opsOf Try.f56 6)=laws_eqSlotS.T6:=by kernel_rfl
theorem laws_eqSlotS.bits6:waitsOk laws_eqSlotS.T6.2 laws_eqSlotS.B6=true:=by kernel_rfl
set_option maxHeartbeats 8000000 in
set_option maxRecDepth 100000 in
theorem laws_eqSlotS.calls (k:Nat) (A0:Option Addr) (c0:Nat) (l0:List (S97)) (A1:Option Addr) (c1:Nat) (l1:List (S97)) (r:Bool) (w:World) (hr0:Kd.C k97 w A0 l0.length l0) (hc0:l0.length≤c0) (hr1:Kd.C k97 w A1 l1.length l1) (hc1:l1.length≤c1) (h:laws_eqSlotS.f k l0 l1=some r) :
  Calls Try.prog 56 #[.slice A0 l0.length c0,.slice A1 l1.length c1] w fun e w'=>e = .returned (.bool r)∧Below w.heap.size w w':=by
 have hu97:=Try.underlying97
 have HR0:=Aside0.mk hr0
 have HC0:=Aside0.mk hc0
 clear hr0 hc0
 have HR1:=Aside0.mk hr1
 have HC1:=Aside0.mk hc1
 clear hr1 hc1
 have HB:=Aside0.mk (Below.refl w.heap.size w)
 have H:(if (l0.length:Int)=(l1.length:Int) then (laws_eqSlotS.l0 k l0 l1 0) else (none))=some r:=h
 clear h
 by_cases c3:(l0.length:Int)=(l1.length:Int)
 ·rw [if_pos c3] at H
  have c3b0:((l0.length:Int) == (l1.length:Int))=true:=beq_iff_eq.mpr c3
  have c3b1:((l0.length:Int) != (l1.length:Int))=false:=bne_eq_false_iff_eq.mpr c3
  have c3b2:(l0.length == l1.length)=true:=by first|simpa using c3|(simp at c3 ⊢;omega)
  clear c3
  have H':=Aside0.mk H
  clear H
  go_enter Try.func56,Try.ntmps56
  go_wp2
  go_loopg [5] k (fun kq v5 w'=>∃ (x5_1:Int),v5 = .int .i64 x5_1∧Aside0 (laws_eqSlotS.l0 kq l0 l1 x5_1=some r)∧Aside0 (kq≤k)∧Aside0 (Below w.heap.size w w'))
  case atStart=>exact ⟨(0),(by first|rfl|(simp;done)|(simp [*];done)),H',⟨Nat.le_refl _⟩,⟨bl⟩⟩
  case round =>
   clear H'
   try clear c1
   try clear p2
   try clear c3
   try clear c3b0
   try clear c3b1
   try clear c3b2
   obtain ⟨x5_1,rfl,HA,HK1,HB⟩:=hrel
   cases gk with
   | zero=>exact absurd HA.out (by simp [laws_eqSlotS.l0])
   | succ k1 =>
    have H:=HA.out
    clear HA
    simp only [laws_eqSlotS.l0] at H
    by_cases c4:x5_1 < (l0.length:Int)
    ·rw [if_pos c4] at H
     have c4b0:decide (x5_1 < (l0.length:Int))=true:=decide_eq_true c4
     clear c4
     by_cases c5:0≤x5_1
     ·rw [if_pos c5] at H
      have c5b0:decide (0≤x5_1)=true:=decide_eq_true c5
      clear c5
      by_cases c6:x5_1 < (l1.length:Int)
      ·rw [if_pos c6] at H
       have c6b0:decide (x5_1 < (l1.length:Int))=true:=decide_eq_true c6
       clear c6
       replace H:=Option.bind_eq_some_iff.mp H
       obtain ⟨t332,A70,H⟩:=H
       have A7:=Aside0.mk A70
       clear A70
       by_cases c8:t332=true
       ·subst c8
        rw [if_pos rfl] at H
        have H':=Aside0.mk H
        clear H
        try go_wp2
        replace HB:=Aside0.mk (below_drew1 HB.out)
        have p330:0≤(x5_1:Int):=of_decide_eq_true (by first|(with_reducible assumption)|assumption)
        have q330:x5_1 < (l0.length:Int):=of_decide_eq_true (by first|(with_reducible assumption)|assumption)
        obtain ⟨ad330,e330,hx330_0,hx330_1,hx330_2,hx330_3⟩:=at_T97 HR0.out x5_1 p330 q330
        have hw330_3:=hx330_3
        have hw330_2:=hx330_2
        have hw330_1:=hx330_1
        have hw330_0:=hx330_0
        cases e330
        replace hx330_0:=cl HB hx330_0
        replace hx330_1:=cl HB hx330_1
        replace hx330_2:=cl HB hx330_2
        replace hx330_3:=cl HB hx330_3
        replace p330:=eq_true p330
        replace q330:=eq_true q330
        have p331:0≤(x5_1:Int):=of_decide_eq_true (by first|(with_reducible assumption)|assumption)
        have q331:x5_1 < (l1.length:Int):=of_decide_eq_true (by first|(with_reducible assumption)|assumption)
        obtain ⟨ad331,e331,hx331_0,hx331_1,hx331_2,hx331_3⟩:=at_T97 HR1.out x5_1 p331 q331
        have hw331_3:=hx331_3
        have hw331_2:=hx331_2
        have hw331_1:=hx331_1
        have hw331_0:=hx331_0
        cases e331
        replace hx331_0:=cl HB hx331_0
        replace hx331_1:=cl HB hx331_1
        replace hx331_2:=cl HB hx331_2
        replace hx331_3:=cl HB hx331_3
        replace p331:=eq_true p331
        replace q331:=eq_true q331
        refine start_ (n:=10) (S:=fun w'=>w'.cell? (ad330.add ((x5_1).toNat * 4))=some (.int .i64 ((rd_T97 l0 x5_1).f0))∧w'.cell? ⟨(ad330.add ((x5_1).toNat * 4)).block,(ad330.add ((x5_1).toNat * 4)).off + 1,none⟩=some (.int .i64 ((rd_T97 l0 x5_1).f1))∧w'.cell? ⟨(ad330.add ((x5_1).toNat * 4)).block,(ad330.add ((x5_1).toNat * 4)).off + 2,none⟩=some (.int .i64 ((rd_T97 l0 x5_1).f2))∧w'.cell? ⟨(ad330.add ((x5_1).toNat * 4)).block,(ad330.add ((x5_1).toNat * 4)).off + 3,none⟩=some (.bool ((rd_T97 l0 x5_1).f3))∧w'.cell? (ad331.add ((x5_1).toNat * 4))=some (.int .i64 ((rd_T97 l1 x5_1).f0))∧w'.cell? ⟨(ad331.add ((x5_1).toNat * 4)).block,(ad331.add ((x5_1).toNat * 4)).off + 1,none⟩=some (.int .i64 ((rd_T97 l1 x5_1).f1))∧w'.cell? ⟨(ad331.add ((x5_1).toNat * 4)).block,(ad331.add ((x5_1).toNat * 4)).off + 2,none⟩=some (.int .i64 ((rd_T97 l1 x5_1).f2))∧w'.cell? ⟨(ad331.add ((x5_1).toNat * 4)).block,(ad331.add ((x5_1).toNat * 4)).off + 3,none⟩=some (.bool ((rd_T97 l1 x5_1).f3))) (ds:=[]) (bs 10 0) (by kernel_rfl) rfl rfl ⟨(cl HB hw330_0),(cl HB hw330_1),(cl HB hw330_2),(cl HB hw330_3),(cl HB hw331_0),(cl HB hw331_1),(cl HB hw331_2),(cl HB hw331_3)⟩ (fun hHeld=>?_);refine with_tabW laws_eqSlotS.tab6 laws_eqSlotS.bits6 (fun HT_ HW_=>?_)
        generalize wr.drew=w9 at HB hx330_0 hx330_1 hx330_2 hx330_3 hx331_0 hx331_1 hx331_2 hx331_3 hHeld ⊢
        refine pq 0 17 (bs 10 1) HT_ ?_
        refine pq 1 18 (bs 10 3) HT_ ?_
        refine pq 2 19 (bs 10 7) HT_ ?_
        refine pq 4 21 (bs 10 23) HT_ ?_
        refine pq 5 22 (bs 10 55) HT_ ?_
        refine pq 6 23 (bs 10 119) HT_ ?_
        refine tq 3 20 (bs 10 127) HT_ HW_ hHeld ?_
        refine tq 7 24 (bs 10 255) HT_ HW_ hHeld ?_
        refine one_ (i:=8) (N:=some 25) (bs 10 511) rfl rfl (one_of HT_.out (by kernel_rfl)) (by decide) (fun K hK=>?_)
        refine goes_ Try.func90 (by kernel_rfl) rfl #[.agg #[.int .i64 ((rd_T97 l0 x5_1).f0),.int .i64 ((rd_T97 l0 x5_1).f1),.int .i64 ((rd_T97 l0 x5_1).f2),.bool ((rd_T97 l0 x5_1).f3)],.agg #[.int .i64 ((rd_T97 l1 x5_1).f0),.int .i64 ((rd_T97 l1 x5_1).f1),.int .i64 ((rd_T97 l1 x5_1).f2),.bool ((rd_T97 l1 x5_1).f3)]] (by rfl) rfl rfl (by (try simp only [List.map_toArray,List.map_cons,List.map_nil]);first|done|rfl|(simp only [List.length_drop,List.length_take];rfl)) ?_
        with_reducible refine (laws_eqSlot.calls ((rd_T97 l0 x5_1).f0) ((rd_T97 l0 x5_1).f1) ((rd_T97 l0 x5_1).f2) ((rd_T97 l0 x5_1).f3) ((rd_T97 l1 x5_1).f0) ((rd_T97 l1 x5_1).f1) ((rd_T97 l1 x5_1).f2) ((rd_T97 l1 x5_1).f3) true _ A7.out).mono ?_
        rintro e w10 ⟨rfl,hb⟩
        refine ⟨_,rfl,?_⟩
        replace HB:=Aside0.mk (below_step bl hb)
        (try clear hb)
        (try clear hb2)
        (try clear hk)
        (try clear hi)
        refine hK.out _ _ ⟨(cl HB hw330_0),(cl HB hw330_1),(cl HB hw330_2),(cl HB hw330_3),(cl HB hw331_0),(cl HB hw331_1),(cl HB hw331_2),(cl HB hw331_3)⟩ (fun hHeld=>?_)
        clear hK K
        refine nrm ?_
        refine pq 9 26 (bs 10 1023) HT_ ?_
        refine done_ (done_of HT_.out (by kernel_rfl)) ?_
        try go_wp2
        go_roundg k1
        case measure=>have:=HK1.out;omega
        case rel=>exact ⟨(wrap64 (x5_1 + 1)),(by first|rfl|(simp;done)|(simp [*];done)),H',⟨by have:=HK1.out;omega⟩,⟨bl⟩⟩
       ·replace c8:=Bool.eq_false_iff.mpr c8
        subst c8
        rw [if_neg nft] at H
        exact absurd H (by simp)
      ·rw [if_neg c6] at H
       exact absurd H (by simp)
     ·rw [if_neg c5] at H
      exact absurd H (by simp)
    ·rw [if_neg c4] at H
     have c4b0:decide (x5_1 < (l0.length:Int))=false:=decide_eq_false c4
     clear c4
     obtain rfl:=Option.some.inj H
     go_wp2
     go_ret
     exact ⟨by first|rfl|(simp [errW_none,errW_some] <;> rfl)|(simp [*,errW_none,errW_some] <;> rfl),bl⟩
 ·rw [if_neg c3] at H
  exact absurd H (by simp)

end Go.Proofs.Ytnkpjpfmjkiidaa.PFnExactMoveBack
