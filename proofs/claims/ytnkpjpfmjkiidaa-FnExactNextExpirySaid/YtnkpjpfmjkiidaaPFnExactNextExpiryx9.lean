/- Contracts of functions of the given program: what each call answers. Written by a program of this session, out of the text of the functions. -/
import Derived.Test.YtnkpjpfmjkiidaaPFnExactNextExpiryx0
import Derived.Test.YtnkpjpfmjkiidaaPFnExactNextExpiryx8
import Derived.Test.YtnkpjpfmjkiidaaZFnExactNextExpiry
namespace Go.Proofs.Ytnkpjpfmjkiidaa.PFnExactNextExpiry
open Go.RowKit Go.Proofs.YtnkpjpfmjkiidaaW.PrintWords Go.Proofs.YtnkpjpfmjkiidaaW.PrintLast Go.Proofs.YtnkpjpfmjkiidaaW.PrintMore Go.Proofs.Ytnkpjpfmjkiidaa.Giv Go.Proofs.Ytnkpjpfmjkiidaa.Prs
attribute [local go_sem] max2_int min2_int max_two min_two max_three min_three max_four min_four   -- for this text's walks alone
set_option linter.unusedVariables false
set_option linter.unusedSimpArgs false

/-! ### impl_QueueOk: function 65 -/
mutual
def impl_QueueOk.j0:Nat→List Int→List Int→Bool→List (S97)→Int→Int→Int→Int→Option (Bool)
 | 0,_,_,_,_,_,_,_,_=>none
 | k + 1,x3,x5,x53,x257000,x257001,x257002,x257003,x257004=>if x53=true then (some false) else (impl_QueueOk.l0 k x5 (-1) ([]:List Int) x3 (x3.length:Int) 0 x257000 x257001 x257002 x257003 x257004)
def impl_QueueOk.l0:Nat→List Int→Int→List Int→List Int→Int→Int→List (S97)→Int→Int→Int→Int→Option (Bool)
 | 0,_,_,_,_,_,_,_,_,_,_,_=>none
 | k + 1,x5,x7,x8,x54,x55,x56,x257000,x257001,x257002,x257003,x257004=>if x56 < x55 then (if 0≤x56 then (if x56 < (x54.length:Int) then (if 0≤(rd x54 x56) then (if (rd x54 x56) < (x257000.length:Int) then (if ((rd_T97 x257000 (rd x54 x56)).f3=true) then ((impl_isId.f ((rd_T97 x257000 (rd x54 x56)).f0)).bind fun t268=>(if t268=true then (if ((rd_T97 x257000 (rd x54 x56)).f1)=x7 then ((slices_Contains_int_int.f k x8 ((rd_T97 x257000 (rd x54 x56)).f0)).bind fun t269=>(if t269=true then (some false) else (if x8.length < 17592186044416 then (impl_QueueOk.l0 k x5 (rd x54 x56) (x8 ++ [(rd_T97 x257000 (rd x54 x56)).f0]) x54 x55 (wrap64 (x56 + 1)) x257000 x257001 x257002 x257003 x257004) else (none)))) else (some false)) else (some false))) else (some false)) else (none)) else (none)) else (none)) else (none)) else (impl_QueueOk.l1 k x7 x5 (x5.length:Int) 0 x257000 x257001 x257002 x257003 x257004)
def impl_QueueOk.l1:Nat→Int→List Int→Int→Int→List (S97)→Int→Int→Int→Int→Option (Bool)
 | 0,_,_,_,_,_,_,_,_,_=>none
 | k + 1,x7,x93,x94,x95,x257000,x257001,x257002,x257003,x257004=>if x95 < x94 then (if 0≤x95 then (if x95 < (x93.length:Int) then (if 0≤(rd x93 x95) then (if (rd x93 x95) < (x257000.length:Int) then (if (rd_T97 x257000 (rd x93 x95)).f3=true then (some false) else (if ((rd_T97 x257000 (rd x93 x95)).f0)=0 then (if ((rd_T97 x257000 (rd x93 x95)).f1)=(-1) then (impl_QueueOk.l1 k x7 x93 x94 (wrap64 (x95 + 1)) x257000 x257001 x257002 x257003 x257004) else (some false)) else (some false))) else (none)) else (none)) else (none)) else (none)) else (some (x257002 == x7))
end
def impl_QueueOk.f (k:Nat) (l0_0:List (S97)) (a0_1:Int) (a0_2:Int) (a0_3:Int) (a0_4:Int):Option (Bool):=if (l0_0.length:Int)=60 then ((impl_Queue_walk.f k l0_0 a0_1 a0_2 a0_3 a0_4 a0_1).bind fun bt257=>((impl_Queue_walk.f k l0_0 a0_1 a0_2 a0_3 a0_4 a0_3).bind fun bt261=>(if bt257.2=true then (if bt261.2=true then (if (bt257.1.length:Int)=a0_4 then (impl_QueueOk.j0 k bt257.1 bt261.1 ((wrap64 ((bt257.1.length:Int) + (bt261.1.length:Int))) != 60) l0_0 a0_1 a0_2 a0_3 a0_4) else (impl_QueueOk.j0 k bt257.1 bt261.1 true l0_0 a0_1 a0_2 a0_3 a0_4)) else (impl_QueueOk.j0 k bt257.1 bt261.1 true l0_0 a0_1 a0_2 a0_3 a0_4)) else (impl_QueueOk.j0 k bt257.1 bt261.1 true l0_0 a0_1 a0_2 a0_3 a0_4)))) else (some false)
theorem impl_QueueOk.mono_l:∀ k,(∀ y0 y1 y2 y3 y4 y5 y6 y7,LeO (impl_QueueOk.j0 k y0 y1 y2 y3 y4 y5 y6 y7) (impl_QueueOk.j0 (k + 1) y0 y1 y2 y3 y4 y5 y6 y7))∧(∀ y0 y1 y2 y3 y4 y5 y6 y7 y8 y9 y10,LeO (impl_QueueOk.l0 k y0 y1 y2 y3 y4 y5 y6 y7 y8 y9 y10) (impl_QueueOk.l0 (k + 1) y0 y1 y2 y3 y4 y5 y6 y7 y8 y9 y10))∧(∀ y0 y1 y2 y3 y4 y5 y6 y7 y8,LeO (impl_QueueOk.l1 k y0 y1 y2 y3 y4 y5 y6 y7 y8) (impl_QueueOk.l1 (k + 1) y0 y1 y2 y3 y4 y5 y6 y7 y8))
 | 0=>⟨fun _ _ _ _ _ _ _ _ r h=>by simp [impl_QueueOk.j0] at h,fun _ _ _ _ _ _ _ _ _ _ _ r h=>by simp [impl_QueueOk.l0] at h,fun _ _ _ _ _ _ _ _ _ r h=>by simp [impl_QueueOk.l1] at h⟩
 | k + 1=>by
  obtain ⟨ih0,ih1,ih2⟩:=impl_QueueOk.mono_l k
  refine ⟨?_,?_,?_⟩
  ·intro y0 y1 y2 y3 y4 y5 y6 y7
   unfold impl_QueueOk.j0
   repeat' first
   | (with_reducible exact ih0 _ _ _ _ _ _ _ _)
   | (with_reducible exact ih1 _ _ _ _ _ _ _ _ _ _ _)
   | (with_reducible exact ih2 _ _ _ _ _ _ _ _ _)
   | (with_reducible exact impl_Queue_walk.mono _ _ _ _ _ _ _)
   | (with_reducible exact slices_Contains_int_int.mono _ _ _)
   | (with_reducible exact LeO.refl _)
   | (with_reducible exact LeO.none _)
   | (with_reducible refine LeO.ite ?_ ?_)
   | (with_reducible refine LeO.bind ?_ (fun _=>?_))
   | exact ih0 _ _ _ _ _ _ _ _
   | exact ih1 _ _ _ _ _ _ _ _ _ _ _
   | exact ih2 _ _ _ _ _ _ _ _ _
   | exact impl_Queue_walk.mono _ _ _ _ _ _ _
   | exact slices_Contains_int_int.mono _ _ _
   | exact LeO.none _
   | refine LeO.ite ?_ ?_
   | refine LeO.bind ?_ (fun _=>?_)
  ·intro y0 y1 y2 y3 y4 y5 y6 y7 y8 y9 y10
   unfold impl_QueueOk.l0
   repeat' first
   | (with_reducible exact ih0 _ _ _ _ _ _ _ _)
   | (with_reducible exact ih1 _ _ _ _ _ _ _ _ _ _ _)
   | (with_reducible exact ih2 _ _ _ _ _ _ _ _ _)
   | (with_reducible exact impl_Queue_walk.mono _ _ _ _ _ _ _)
   | (with_reducible exact slices_Contains_int_int.mono _ _ _)
   | (with_reducible exact LeO.refl _)
   | (with_reducible exact LeO.none _)
   | (with_reducible refine LeO.ite ?_ ?_)
   | (with_reducible refine LeO.bind ?_ (fun _=>?_))
   | exact ih0 _ _ _ _ _ _ _ _
   | exact ih1 _ _ _ _ _ _ _ _ _ _ _
   | exact ih2 _ _ _ _ _ _ _ _ _
   | exact impl_Queue_walk.mono _ _ _ _ _ _ _
   | exact slices_Contains_int_int.mono _ _ _
   | exact LeO.none _
   | refine LeO.ite ?_ ?_
   | refine LeO.bind ?_ (fun _=>?_)
  ·intro y0 y1 y2 y3 y4 y5 y6 y7 y8
   unfold impl_QueueOk.l1
   repeat' first
   | (with_reducible exact ih0 _ _ _ _ _ _ _ _)
   | (with_reducible exact ih1 _ _ _ _ _ _ _ _ _ _ _)
   | (with_reducible exact ih2 _ _ _ _ _ _ _ _ _)
   | (with_reducible exact impl_Queue_walk.mono _ _ _ _ _ _ _)
   | (with_reducible exact slices_Contains_int_int.mono _ _ _)
   | (with_reducible exact LeO.refl _)
   | (with_reducible exact LeO.none _)
   | (with_reducible refine LeO.ite ?_ ?_)
   | (with_reducible refine LeO.bind ?_ (fun _=>?_))
   | exact ih0 _ _ _ _ _ _ _ _
   | exact ih1 _ _ _ _ _ _ _ _ _ _ _
   | exact ih2 _ _ _ _ _ _ _ _ _
   | exact impl_Queue_walk.mono _ _ _ _ _ _ _
   | exact slices_Contains_int_int.mono _ _ _
   | exact LeO.none _
   | refine LeO.ite ?_ ?_
   | refine LeO.bind ?_ (fun _=>?_)
theorem impl_QueueOk.mono:∀ a0 a1 a2 a3 a4 k,LeO (impl_QueueOk.f k a0 a1 a2 a3 a4) (impl_QueueOk.f (k + 1) a0 a1 a2 a3 a4):=by
 intro a0 a1 a2 a3 a4 k
 obtain ⟨ih0,ih1,ih2⟩:=impl_QueueOk.mono_l k
 unfold impl_QueueOk.f
 repeat' first
   | (with_reducible exact ih0 _ _ _ _ _ _ _ _)
   | (with_reducible exact ih1 _ _ _ _ _ _ _ _ _ _ _)
   | (with_reducible exact ih2 _ _ _ _ _ _ _ _ _)
   | (with_reducible exact impl_Queue_walk.mono _ _ _ _ _ _ _)
   | (with_reducible exact slices_Contains_int_int.mono _ _ _)
   | (with_reducible exact LeO.refl _)
   | (with_reducible exact LeO.none _)
   | (with_reducible refine LeO.ite ?_ ?_)
   | (with_reducible refine LeO.bind ?_ (fun _=>?_))
   | exact ih0 _ _ _ _ _ _ _ _
   | exact ih1 _ _ _ _ _ _ _ _ _ _ _
   | exact ih2 _ _ _ _ _ _ _ _ _
   | exact impl_Queue_walk.mono _ _ _ _ _ _ _
   | exact slices_Contains_int_int.mono _ _ _
   | exact LeO.none _
   | refine LeO.ite ?_ ?_
   | refine LeO.bind ?_ (fun _=>?_)
set_option maxHeartbeats 8000000 in
set_option maxRecDepth 100000 in
theorem impl_QueueOk.calls (k:Nat) (A0_0:Option Addr) (c0_0:Nat) (l0_0:List (S97)) (a0_1:Int) (a0_2:Int) (a0_3:Int) (a0_4:Int) (r:Bool) (w:World) (hr0_0:Kd.C k97 w A0_0 l0_0.length l0_0) (hc0_0:l0_0.length≤c0_0) (h:impl_QueueOk.f k l0_0 a0_1 a0_2 a0_3 a0_4=some r) :
  Calls Try.prog 65 #[.agg #[.slice A0_0 l0_0.length c0_0,.int .i64 a0_1,.int .i64 a0_2,.int .i64 a0_3,.int .i64 a0_4]] w fun e w'=>e = .returned (.bool r)∧Below w.heap.size w w':=by
 have hu28:=Try.underlying28
 have hu97:=Try.underlying97
 have HR0_0:=Aside0.mk hr0_0
 have HC0_0:=Aside0.mk hc0_0
 clear hr0_0 hc0_0
 have HB:=Aside0.mk (Below.refl w.heap.size w)
 have H:(if (l0_0.length:Int)=60 then ((impl_Queue_walk.f k l0_0 a0_1 a0_2 a0_3 a0_4 a0_1).bind fun bt257=>((impl_Queue_walk.f k l0_0 a0_1 a0_2 a0_3 a0_4 a0_3).bind fun bt261=>(if bt257.2=true then (if bt261.2=true then (if (bt257.1.length:Int)=a0_4 then (impl_QueueOk.j0 k bt257.1 bt261.1 ((wrap64 ((bt257.1.length:Int) + (bt261.1.length:Int))) != 60) l0_0 a0_1 a0_2 a0_3 a0_4) else (impl_QueueOk.j0 k bt257.1 bt261.1 true l0_0 a0_1 a0_2 a0_3 a0_4)) else (impl_QueueOk.j0 k bt257.1 bt261.1 true l0_0 a0_1 a0_2 a0_3 a0_4)) else (impl_QueueOk.j0 k bt257.1 bt261.1 true l0_0 a0_1 a0_2 a0_3 a0_4)))) else (some false))=some r:=h
 clear h
 by_cases c2:(l0_0.length:Int)=60
 ·rw [if_pos c2] at H
  have c2b0:((l0_0.length:Int) == 60)=true:=beq_iff_eq.mpr c2
  have c2b1:((l0_0.length:Int) != 60)=false:=bne_eq_false_iff_eq.mpr c2
  clear c2
  replace H:=Option.bind_eq_some_iff.mp H
  obtain ⟨⟨t257,t260⟩,A30,H⟩:=H
  replace H:((impl_Queue_walk.f k l0_0 a0_1 a0_2 a0_3 a0_4 a0_3).bind fun bt261=>(if t260=true then (if bt261.2=true then (if (t257.length:Int)=a0_4 then (impl_QueueOk.j0 k t257 bt261.1 ((wrap64 ((t257.length:Int) + (bt261.1.length:Int))) != 60) l0_0 a0_1 a0_2 a0_3 a0_4) else (impl_QueueOk.j0 k t257 bt261.1 true l0_0 a0_1 a0_2 a0_3 a0_4)) else (impl_QueueOk.j0 k t257 bt261.1 true l0_0 a0_1 a0_2 a0_3 a0_4)) else (impl_QueueOk.j0 k t257 bt261.1 true l0_0 a0_1 a0_2 a0_3 a0_4)))=some r:=H
  have A3:=Aside0.mk A30
  clear A30
  replace H:=Option.bind_eq_some_iff.mp H
  obtain ⟨⟨t261,t264⟩,A40,H⟩:=H
  replace H:(if t260=true then (if t264=true then (if (t257.length:Int)=a0_4 then (impl_QueueOk.j0 k t257 t261 ((wrap64 ((t257.length:Int) + (t261.length:Int))) != 60) l0_0 a0_1 a0_2 a0_3 a0_4) else (impl_QueueOk.j0 k t257 t261 true l0_0 a0_1 a0_2 a0_3 a0_4)) else (impl_QueueOk.j0 k t257 t261 true l0_0 a0_1 a0_2 a0_3 a0_4)) else (impl_QueueOk.j0 k t257 t261 true l0_0 a0_1 a0_2 a0_3 a0_4))=some r:=H
  have A4:=Aside0.mk A40
  clear A40
  have HC5:=Aside0.mk H
  clear H
  go_enter Try.func65,Try.ntmps65
  go_upto_region 5 with (first|((with_reducible refine gate_dst (N:=1) rfl ?_);(try (refine gate_guard (by rfl) ?_;dsimp only));refine bx 1 #[.slice A0_0 l0_0.length c0_0,.int .i64 a0_1,.int .i64 a0_2,.int .i64 a0_3,.int .i64 a0_4] 28 ?_;intro gb256 hg w6 hbox hb;have BK256:=Aside0.mk (hbox);have GW256:=Aside0.mk (bz hg:w.heap.size≤gb256);have GE256:=GW256;replace HB:=Aside0.mk (below_step bl hb);clear hb hbox hg;obtain ⟨hcz7_0,hcz7_1,hcz7_2,hcz7_3,hcz7_4,hfz7_0,hfz7_1,hfz7_2,hfz7_3,hfz7_4⟩:=ck5 BK256.out)|((with_reducible refine gate_callee (f:=96) rfl ?_);refine gl (some 23) Try.func96 #[.agg #[.slice A0_0 l0_0.length c0_0,.int .i64 a0_1,.int .i64 a0_2,.int .i64 a0_3,.int .i64 a0_4],.int .i64 a0_1] ?_;(with_reducible refine (impl_Queue_walk.calls k _ _ l0_0 a0_1 a0_2 a0_3 a0_4 a0_1 t257 t260 _ ?side1 ?side2 A3.out).mono ?_);(case side1=>exact kc HR0_0);(case side2=>exact HC0_0.out);rintro e w8 ⟨v258,rfl,ho0,hb⟩;refine ⟨_,rfl,?_⟩;have HO259:=Aside0.mk (Kd.R_lower ho0 (below_size bl));replace BK256:=Aside0.mk (blk_below (bk BK256) hb);replace HB:=Aside0.mk (below_step bl hb);(try clear hb);(try clear hb2);(try clear hk);(try clear hi);(try clear ho0);obtain ⟨hcz9_0,hcz9_1,hcz9_2,hcz9_3,hcz9_4,hfz9_0,hfz9_1,hfz9_2,hfz9_3,hfz9_4⟩:=ck5 BK256.out)|((with_reducible refine gate_callee (f:=96) rfl ?_);refine gl (some 30) Try.func96 #[.agg #[.slice A0_0 l0_0.length c0_0,.int .i64 a0_1,.int .i64 a0_2,.int .i64 a0_3,.int .i64 a0_4],.int .i64 a0_3] ?_;(with_reducible refine (impl_Queue_walk.calls k _ _ l0_0 a0_1 a0_2 a0_3 a0_4 a0_3 t261 t264 _ ?side1 ?side2 A4.out).mono ?_);(case side1=>exact kc HR0_0);(case side2=>exact HC0_0.out);rintro e w10 ⟨v262,rfl,ho0,hb⟩;refine ⟨_,rfl,?_⟩;have HO263:=Aside0.mk (Kd.R_lower (Kd.R_new' ho0 (Kd.R_lt (kr HO259))) (below_size bl));replace HO259:=Aside0.mk (Kd.R_elder' (kr HO259) (Kd.R_base ho0) hb);replace BK256:=Aside0.mk (blk_below (bk BK256) hb);replace HB:=Aside0.mk (below_step bl hb);(try clear hb);(try clear hb2);(try clear hk);(try clear hi);(try clear ho0)))
  (try simp only [Act.put,List.setIfInBounds_toArray,List.set_cons_zero,List.set_cons_succ])
  go_cut [53] (fun v53 wc=>∃ (kq:Nat) (x53_4:Bool),v53 = .bool x53_4∧Aside0 (impl_QueueOk.j0 kq t257 t261 x53_4 l0_0 a0_1 a0_2 a0_3 a0_4=some r)∧Aside0 (kq≤k)∧Aside0 (Kd.R (Kd.int .i64) 3 wc w.heap.size (fun k_=>some k_≠(v262:Value).ownBlock) v258 t257)∧Aside0 (Kd.R (Kd.int .i64) 3 wc w.heap.size (fun k_=>some k_≠(v258:Value).ownBlock) v262 t261)∧Aside0 (wc.heap[gb256]? = some (.cells #[(.slice A0_0 l0_0.length c0_0),.int .i64 a0_1,.int .i64 a0_2,.int .i64 a0_3,.int .i64 a0_4] 28 (0,0)))∧Aside0 (Below w.heap.size w wc))
  case first =>
   have H:=HC5.out
   clear HC5
   by_cases c11:t260=true
   ·subst c11
    rw [if_pos rfl] at H
    by_cases c12:t264=true
    ·subst c12
     rw [if_pos rfl] at H
     by_cases c13:(t257.length:Int)=a0_4
     ·rw [if_pos c13] at H
      have c13b0:((t257.length:Int) == a0_4)=true:=beq_iff_eq.mpr c13
      have c13b1:((t257.length:Int) != a0_4)=false:=bne_eq_false_iff_eq.mpr c13
      clear c13
      (first|rw [c13b0]|(simp only [i64_w,i32_w];rw [c13b0])|skip)
      have H':=Aside0.mk H
      clear H
      obtain ⟨Ao14,co14,eo14⟩:=Kd.R_slice HO259.out
      subst eo14
      obtain ⟨hcz15_0,hcz15_1,hcz15_2,hcz15_3,hcz15_4,hfz15_0,hfz15_1,hfz15_2,hfz15_3,hfz15_4⟩:=ck5 BK256.out
      obtain ⟨Ao16,co16,eo16⟩:=Kd.R_slice HO263.out
      subst eo16
      go_wp2
      go_meet
      case rel=>exact ⟨_,(((wrap64 ((t257.length:Int) + (t261.length:Int))) != 60)),(by first|rfl|(simp;done)|(simp [*];done)),H',⟨by first|omega|exact Nat.le_refl _⟩,⟨by (with_reducible repeat (first|apply Kd.R_alloc|apply Kd.R_drewN|apply Kd.R_drew));exact Kd.R_mono HO259.out (fun _ hk=>hk.2)⟩,⟨by (with_reducible repeat (first|apply Kd.R_alloc|apply Kd.R_drewN|apply Kd.R_drew));exact Kd.R_mono HO263.out (fun _ hk=>hk.2)⟩,⟨bk BK256⟩,⟨bl⟩⟩
     ·rw [if_neg c13] at H
      have c13b0:((t257.length:Int) == a0_4)=false:=beq_eq_false_iff_ne.mpr c13
      have c13b1:((t257.length:Int) != a0_4)=true:=bne_iff_ne.mpr c13
      (first|rw [c13b0]|(simp only [i64_w,i32_w];rw [c13b0])|skip)
      have H':=Aside0.mk H
      clear H
      obtain ⟨Ao17,co17,eo17⟩:=Kd.R_slice HO259.out
      subst eo17
      obtain ⟨hcz18_0,hcz18_1,hcz18_2,hcz18_3,hcz18_4,hfz18_0,hfz18_1,hfz18_2,hfz18_3,hfz18_4⟩:=ck5 BK256.out
      go_wp2
      go_meet
      case rel=>exact ⟨_,(true),(by first|rfl|(simp;done)|(simp [*];done)),H',⟨by first|omega|exact Nat.le_refl _⟩,⟨by (with_reducible repeat (first|apply Kd.R_alloc|apply Kd.R_drewN|apply Kd.R_drew));exact Kd.R_mono HO259.out (fun _ hk=>hk.2)⟩,⟨by (with_reducible repeat (first|apply Kd.R_alloc|apply Kd.R_drewN|apply Kd.R_drew));exact Kd.R_mono HO263.out (fun _ hk=>hk.2)⟩,⟨bk BK256⟩,⟨bl⟩⟩
    ·replace c12:=Bool.eq_false_iff.mpr c12
     subst c12
     rw [if_neg nft] at H
     have H':=Aside0.mk H
     clear H
     go_wp2
     go_meet
     case rel=>exact ⟨_,(true),(by first|rfl|(simp;done)|(simp [*];done)),H',⟨by first|omega|exact Nat.le_refl _⟩,⟨by (with_reducible repeat (first|apply Kd.R_alloc|apply Kd.R_drewN|apply Kd.R_drew));exact Kd.R_mono HO259.out (fun _ hk=>hk.2)⟩,⟨by (with_reducible repeat (first|apply Kd.R_alloc|apply Kd.R_drewN|apply Kd.R_drew));exact Kd.R_mono HO263.out (fun _ hk=>hk.2)⟩,⟨bk BK256⟩,⟨bl⟩⟩
   ·replace c11:=Bool.eq_false_iff.mpr c11
    subst c11
    rw [if_neg nft] at H
    have H':=Aside0.mk H
    clear H
    go_wp2
    go_meet
    case rel=>exact ⟨_,(true),(by first|rfl|(simp;done)|(simp [*];done)),H',⟨by first|omega|exact Nat.le_refl _⟩,⟨by (with_reducible repeat (first|apply Kd.R_alloc|apply Kd.R_drewN|apply Kd.R_drew));exact Kd.R_mono HO259.out (fun _ hk=>hk.2)⟩,⟨by (with_reducible repeat (first|apply Kd.R_alloc|apply Kd.R_drewN|apply Kd.R_drew));exact Kd.R_mono HO263.out (fun _ hk=>hk.2)⟩,⟨bk BK256⟩,⟨bl⟩⟩
  case rest =>
   clear HC5
   try clear c1
   try clear c2
   try clear c2b0
   try clear c2b1
   try clear p2
   try clear c6
   try clear p6
   try clear c9
   try clear c11
   try clear c12
   try clear c13
   try clear c13b0
   try clear c13b1
   try clear hcz15_0
   try clear hcz15_1
   try clear hcz15_2
   try clear hcz15_3
   try clear hcz15_4
   try clear hcz18_0
   try clear hcz18_1
   try clear hcz18_2
   try clear hcz18_3
   try clear hcz18_4
   try clear hcz7_0
   try clear hcz7_1
   try clear hcz7_2
   try clear hcz7_3
   try clear hcz7_4
   try clear hcz9_0
   try clear hcz9_1
   try clear hcz9_2
   try clear hcz9_3
   try clear hcz9_4
   try clear hfz15_0
   try clear hfz15_1
   try clear hfz15_2
   try clear hfz15_3
   try clear hfz15_4
   try clear hfz18_0
   try clear hfz18_1
   try clear hfz18_2
   try clear hfz18_3
   try clear hfz18_4
   try clear hfz7_0
   try clear hfz7_1
   try clear hfz7_2
   try clear hfz7_3
   try clear hfz7_4
   try clear hfz9_0
   try clear hfz9_1
   try clear hfz9_2
   try clear hfz9_3
   try clear hfz9_4
   obtain ⟨kq,x53_4,rfl,HA,HJ4,HO_3,HO_5,BK256,HB⟩:=hcut
   cases kq with
   | zero=>exact absurd HA.out (by simp [impl_QueueOk.j0])
   | succ kj4 =>
    have H:=HA.out
    clear HA
    simp only [impl_QueueOk.j0] at H
    by_cases c19:x53_4=true
    ·subst c19
     rw [if_pos rfl] at H
     obtain rfl:=Option.some.inj H
     go_wp2
     go_ret
     exact ⟨er,bl⟩
    ·replace c19:=Bool.eq_false_iff.mpr c19
     subst c19
     rw [if_neg nft] at H
     have H':=Aside0.mk H
     clear H
     obtain ⟨Ao20,co20,eo20⟩:=Kd.R_slice HO_3.out
     subst eo20
     go_wp2
     go_loopg [7,8,56] kj4 (fun kq v7 v8 v56 w'=>∃ (x7_2:Int) (x8_2:List Int) (x56_2:Int),v7 = .int .i64 x7_2∧v56 = .int .i64 x56_2∧Aside0 (impl_QueueOk.l0 kq t261 x7_2 x8_2 t257 (t257.length:Int) x56_2 l0_0 a0_1 a0_2 a0_3 a0_4=some r)∧Aside0 (kq≤kj4)∧Aside0 (Kd.R (Kd.int .i64) 3 w' w.heap.size (fun k_=>some k_≠(v8:Value).ownBlock∧some k_≠((.slice Ao20 t257.length co20):Value).ownBlock) v262 t261)∧Aside0 (Kd.R (Kd.int .i64) 3 w' w.heap.size (fun k_=>some k_≠(v262:Value).ownBlock∧some k_≠((.slice Ao20 t257.length co20):Value).ownBlock) v8 x8_2)∧Aside0 (Kd.R (Kd.int .i64) 3 w' w.heap.size (fun k_=>some k_≠(v262:Value).ownBlock∧some k_≠(v8:Value).ownBlock) (.slice Ao20 t257.length co20) t257)∧Aside0 (w'.heap[gb256]? = some (.cells #[(.slice A0_0 l0_0.length c0_0),.int .i64 a0_1,.int .i64 a0_2,.int .i64 a0_3,.int .i64 a0_4] 28 (0,0)))∧Aside0 (Below w.heap.size w w'))
     case atStart=>exact ⟨((-1)),(([]:List Int)),(0),(by first|rfl|(simp;done)|(simp [*];done)),(by first|rfl|(simp;done)|(simp [*];done)),H',⟨Nat.le_refl _⟩,⟨by (with_reducible repeat (first|apply Kd.R_alloc|apply Kd.R_drewN|apply Kd.R_drew));exact Kd.R_mono HO_5.out (fun _ hk=>⟨(by simp [Value.ownBlock]),hk⟩)⟩,⟨by first|exact Kd.R_nil _ _ _ _ _|exact Kd.N_nil _ _ _ _ _|exact Kd.V_nil _ _ _ _ _|exact Kd.Q_nil _ _ _ _ _|exact Kd.S_nil _ _ _ _ _⟩,⟨by (with_reducible repeat (first|apply Kd.R_alloc|apply Kd.R_drewN|apply Kd.R_drew));exact Kd.R_mono HO_3.out (fun _ hk=>⟨hk,(by simp [Value.ownBlock])⟩)⟩,⟨bk BK256⟩,⟨bl⟩⟩
     case round =>
      clear H'
      try clear c1
      try clear c2
      try clear c2b0
      try clear c2b1
      try clear p2
      try clear c6
      try clear p6
      try clear c9
      try clear c11
      try clear c12
      try clear c13
      try clear c13b0
      try clear c13b1
      try clear c19
      try clear hcz15_0
      try clear hcz15_1
      try clear hcz15_2
      try clear hcz15_3
      try clear hcz15_4
      try clear hcz18_0
      try clear hcz18_1
      try clear hcz18_2
      try clear hcz18_3
      try clear hcz18_4
      try clear hcz7_0
      try clear hcz7_1
      try clear hcz7_2
      try clear hcz7_3
      try clear hcz7_4
      try clear hcz9_0
      try clear hcz9_1
      try clear hcz9_2
      try clear hcz9_3
      try clear hcz9_4
      try clear hfz15_0
      try clear hfz15_1
      try clear hfz15_2
      try clear hfz15_3
      try clear hfz15_4
      try clear hfz18_0
      try clear hfz18_1
      try clear hfz18_2
      try clear hfz18_3
      try clear hfz18_4
      try clear hfz7_0
      try clear hfz7_1
      try clear hfz7_2
      try clear hfz7_3
      try clear hfz7_4
      try clear hfz9_0
      try clear hfz9_1
      try clear hfz9_2
      try clear hfz9_3
      try clear hfz9_4
      try clear p2
      try clear p6
      obtain ⟨x7_2,x8_2,x56_2,rfl,rfl,HA,HK2,HO_5,HO_8,HO_54,BK256,HB⟩:=hrel
      cases gk with
      | zero=>exact absurd HA.out (by simp [impl_QueueOk.l0])
      | succ k2 =>
       have H:=HA.out
       clear HA
       simp only [impl_QueueOk.l0] at H
       by_cases c21:x56_2 < (t257.length:Int)
       ·rw [if_pos c21] at H
        have c21b0:decide (x56_2 < (t257.length:Int))=true:=decide_eq_true c21
        clear c21
        by_cases c22:0≤x56_2
        case neg =>
         rw [if_neg c22] at H
         exact absurd H (by simp)
        rw [if_pos c22] at H
        have c22b0:decide (0≤x56_2)=true:=decide_eq_true c22
        clear c22
        by_cases c23:x56_2 < (t257.length:Int)
        case neg =>
         rw [if_neg c23] at H
         exact absurd H (by simp)
        rw [if_pos c23] at H
        have c23b0:decide (x56_2 < (t257.length:Int))=true:=decide_eq_true c23
        clear c23
        by_cases c24:0≤(rd t257 x56_2)
        case neg =>
         rw [if_neg c24] at H
         exact absurd H (by simp)
        rw [if_pos c24] at H
        have c24b0:decide (0≤(rd t257 x56_2))=true:=decide_eq_true c24
        clear c24
        by_cases c25:(rd t257 x56_2) < (l0_0.length:Int)
        case neg =>
         rw [if_neg c25] at H
         exact absurd H (by simp)
        rw [if_pos c25] at H
        have c25b0:decide ((rd t257 x56_2) < (l0_0.length:Int))=true:=decide_eq_true c25
        clear c25
        obtain ⟨bq26,hbq26⟩:∃ b_:Bool,b_=((rd_T97 l0_0 (rd t257 x56_2)).f3):=⟨_,rfl⟩
        replace H:(if (bq26=true) then ((impl_isId.f ((rd_T97 l0_0 (rd t257 x56_2)).f0)).bind fun t268=>(if t268=true then (if ((rd_T97 l0_0 (rd t257 x56_2)).f1)=x7_2 then ((slices_Contains_int_int.f k2 x8_2 ((rd_T97 l0_0 (rd t257 x56_2)).f0)).bind fun t269=>(if t269=true then (some false) else (if x8_2.length < 17592186044416 then (impl_QueueOk.l0 k2 t261 (rd t257 x56_2) (x8_2 ++ [(rd_T97 l0_0 (rd t257 x56_2)).f0]) t257 (t257.length:Int) (wrap64 (x56_2 + 1)) l0_0 a0_1 a0_2 a0_3 a0_4) else (none)))) else (some false)) else (some false))) else (some false))=some r:=by rw [← hbq26] at H;exact H
        have Nbq26:=Aside0.mk hbq26
        clear hbq26
        by_cases c27:(bq26=true)
        ·subst c27
         rw [if_pos rfl] at H
         replace H:=Option.bind_eq_some_iff.mp H
         obtain ⟨t268,A280,H⟩:=H
         have A28:=Aside0.mk A280
         clear A280
         by_cases c29:t268=true
         ·subst c29
          rw [if_pos rfl] at H
          by_cases c30:((rd_T97 l0_0 (rd t257 x56_2)).f1)=x7_2
          ·rw [if_pos c30] at H
           have c30b0:(((rd_T97 l0_0 (rd t257 x56_2)).f1) == x7_2)=true:=beq_iff_eq.mpr c30
           have c30b1:(((rd_T97 l0_0 (rd t257 x56_2)).f1) != x7_2)=false:=bne_eq_false_iff_eq.mpr c30
           clear c30
           replace H:=Option.bind_eq_some_iff.mp H
           obtain ⟨t269,A310,H⟩:=H
           have A31:=Aside0.mk A310
           clear A310
           by_cases c32:t269=true
           ·subst c32
            rw [if_pos rfl] at H
            obtain rfl:=Option.some.inj H
            have p265:0≤(x56_2:Int):=od
            have q265:x56_2 < (t257.length:Int):=od
            obtain ⟨ad265,e265,hx265_0⟩:=Kd.at_int (Kd.R_reads' HO_54.out).2.2 x56_2 p265 q265
            cases e265
            replace p265:=eq_true p265
            replace q265:=eq_true q265
            obtain ⟨hcz33_0,hcz33_1,hcz33_2,hcz33_3,hcz33_4,hfz33_0,hfz33_1,hfz33_2,hfz33_3,hfz33_4⟩:=ck5 BK256.out
            have p266:0≤((rd t257 x56_2):Int):=od
            have q266:(rd t257 x56_2) < (l0_0.length:Int):=od
            obtain ⟨ad266,e266,hx266_0,hx266_1,hx266_2,hx266_3⟩:=at_T97 HR0_0.out (rd t257 x56_2) p266 q266
            (try rw [← Nbq26.out] at hx266_3)
            cases e266
            replace hx266_0:=cl HB hx266_0
            replace hx266_1:=cl HB hx266_1
            replace hx266_2:=cl HB hx266_2
            replace hx266_3:=cl HB hx266_3
            replace p266:=eq_true p266
            replace q266:=eq_true q266
            go_wp2_with (first|((with_reducible refine gate_dst (N:=11) rfl ?_);(try (refine gate_guard (by rfl) ?_;dsimp only));refine bx 11 #[.int .i64 0,.int .i64 0,.int .i64 0,.bool false] 97 ?_;intro gb267 hg w34 hbox hb;replace HO_5:=Aside0.mk (Kd.R_below (kr HO_5) hb);replace HO_8:=Aside0.mk (Kd.R_below (kr HO_8) hb);replace HO_54:=Aside0.mk (Kd.R_below (kr HO_54) hb);have BK267:=Aside0.mk (hbox);have GW267:=Aside0.mk (bz hg:w.heap.size≤gb267);have GE267:=GW267;replace HB:=Aside0.mk (below_step bl hb);have NB256_267:=Aside0.mk (nl hg BK256:gb256≠gb267);have NB267_256:=Aside0.mk (nr hg BK256:gb267≠gb256);replace BK256:=Aside0.mk (blk_below (bk BK256) hb);clear hb hbox hg;have hnb35:=NB267_256.out;have hnc35:=NB256_267.out;obtain ⟨hcz36_0,hcz36_1,hcz36_2,hcz36_3,hfz36_0,hfz36_1,hfz36_2,hfz36_3⟩:=ck4 BK267.out)|(go_at_call 89;(with_reducible refine (impl_isId.calls ((rd_T97 l0_0 (rd t257 x56_2)).f0) true _ A28.out).mono ?_);rintro e w' ⟨rfl,⟨nd,rfl⟩⟩;obtain ⟨Ao37,co37,eo37⟩:=Kd.R_slice HO_8.out;subst eo37)|(go_at_call 97;(with_reducible refine (slices_Contains_int_int.calls k2 _ _ x8_2 ((rd_T97 l0_0 (rd t257 x56_2)).f0) true _ ?side1 ?side2 A31.out).mono ?_);(case side1=>refine (Kd.R_reads' (e:=3) (base:=w.heap.size) (ok:=fun k_=>(some k_≠(v262:Value).ownBlock∧some k_≠(.slice (some ad265) t257.length co20:Value).ownBlock)) (n:=x8_2.length) (c:=co37) ?_).2.2;exact (by (with_reducible repeat (first|apply Kd.R_alloc|apply Kd.R_drewN|apply Kd.R_drew));exact (Kd.R_mono (Kd.R_far (p:=⟨gb267,3,none⟩) (Kd.R_far (p:=⟨gb267,2,none⟩) (Kd.R_far (p:=⟨gb267,1,none⟩) (Kd.R_far (p:=⟨gb267,0,none⟩) (Kd.R_types HO_8.out BK267.out (by decide)) (fun _ hk=>hk.2) (.int .i64 ((rd_T97 l0_0 (rd t257 x56_2)).f0))) (fun _ hk=>hk.2) (.int .i64 ((rd_T97 l0_0 (rd t257 x56_2)).f1))) (fun _ hk=>hk.2) (.int .i64 ((rd_T97 l0_0 (rd t257 x56_2)).f2))) (fun _ hk=>hk.2) (.bool true)) (fun _ h_=>h_.1))));(case side2=>exact (Kd.R_reads' HO_8.out).2.1);rintro e w' ⟨rfl,⟨nd,rfl⟩⟩))
            go_ret
            exact ⟨er,bl⟩
           ·replace c32:=Bool.eq_false_iff.mpr c32
            subst c32
            rw [if_neg nft] at H
            by_cases c38:x8_2.length < 17592186044416
            case neg =>
             rw [if_neg c38] at H
             exact absurd H (by simp)
            rw [if_pos c38] at H
            have LMc38:=Aside0.mk c38
            clear c38
            obtain ⟨y270,hy270⟩:∃ y_:List Int,y_=(x8_2 ++ [(rd_T97 l0_0 (rd t257 x56_2)).f0]):=⟨_,rfl⟩
            replace H:(impl_QueueOk.l0 k2 t261 (rd t257 x56_2) y270 t257 (t257.length:Int) (wrap64 (x56_2 + 1)) l0_0 a0_1 a0_2 a0_3 a0_4)=some r:=by first|(rw [hy270];with_reducible exact H)|(have H2_:=(Option.bind_some _ _).symm.trans H;rw [hy270];with_reducible exact H2_)|(have H2_:=(Option.bind_some _ _).symm.trans H;with_reducible exact H2_)|with_reducible exact H|(rw [hy270];exact H)|exact H
            have Ny270:=Aside0.mk hy270
            clear hy270
            have H':=Aside0.mk H
            clear H
            have p265:0≤(x56_2:Int):=od
            have q265:x56_2 < (t257.length:Int):=od
            obtain ⟨ad265,e265,hx265_0⟩:=Kd.at_int (Kd.R_reads' HO_54.out).2.2 x56_2 p265 q265
            cases e265
            replace p265:=eq_true p265
            replace q265:=eq_true q265
            obtain ⟨hcz39_0,hcz39_1,hcz39_2,hcz39_3,hcz39_4,hfz39_0,hfz39_1,hfz39_2,hfz39_3,hfz39_4⟩:=ck5 BK256.out
            have p266:0≤((rd t257 x56_2):Int):=od
            have q266:(rd t257 x56_2) < (l0_0.length:Int):=od
            obtain ⟨ad266,e266,hx266_0,hx266_1,hx266_2,hx266_3⟩:=at_T97 HR0_0.out (rd t257 x56_2) p266 q266
            (try rw [← Nbq26.out] at hx266_3)
            cases e266
            replace hx266_0:=cl HB hx266_0
            replace hx266_1:=cl HB hx266_1
            replace hx266_2:=cl HB hx266_2
            replace hx266_3:=cl HB hx266_3
            replace p266:=eq_true p266
            replace q266:=eq_true q266
            go_wp2_with (first|((with_reducible refine gate_dst (N:=11) rfl ?_);(try (refine gate_guard (by rfl) ?_;dsimp only));refine bx 11 #[.int .i64 0,.int .i64 0,.int .i64 0,.bool false] 97 ?_;intro gb267 hg w40 hbox hb;replace HO_5:=Aside0.mk (Kd.R_below (kr HO_5) hb);replace HO_8:=Aside0.mk (Kd.R_below (kr HO_8) hb);replace HO_54:=Aside0.mk (Kd.R_below (kr HO_54) hb);have BK267:=Aside0.mk (hbox);have GW267:=Aside0.mk (bz hg:w.heap.size≤gb267);have GE267:=GW267;replace HB:=Aside0.mk (below_step bl hb);have NB256_267:=Aside0.mk (nl hg BK256:gb256≠gb267);have NB267_256:=Aside0.mk (nr hg BK256:gb267≠gb256);replace BK256:=Aside0.mk (blk_below (bk BK256) hb);clear hb hbox hg;have hnb41:=NB267_256.out;have hnc41:=NB256_267.out;obtain ⟨hcz42_0,hcz42_1,hcz42_2,hcz42_3,hfz42_0,hfz42_1,hfz42_2,hfz42_3⟩:=ck4 BK267.out)|(go_at_call 89;(with_reducible refine (impl_isId.calls ((rd_T97 l0_0 (rd t257 x56_2)).f0) true _ A28.out).mono ?_);rintro e w' ⟨rfl,⟨nd,rfl⟩⟩;obtain ⟨Ao43,co43,eo43⟩:=Kd.R_slice HO_8.out;subst eo43)|(go_at_call 97;(with_reducible refine (slices_Contains_int_int.calls k2 _ _ x8_2 ((rd_T97 l0_0 (rd t257 x56_2)).f0) false _ ?side1 ?side2 A31.out).mono ?_);(case side1=>refine (Kd.R_reads' (e:=3) (base:=w.heap.size) (ok:=fun k_=>(some k_≠(v262:Value).ownBlock∧some k_≠(.slice (some ad265) t257.length co20:Value).ownBlock)) (n:=x8_2.length) (c:=co43) ?_).2.2;exact (by (with_reducible repeat (first|apply Kd.R_alloc|apply Kd.R_drewN|apply Kd.R_drew));exact (Kd.R_mono (Kd.R_far (p:=⟨gb267,3,none⟩) (Kd.R_far (p:=⟨gb267,2,none⟩) (Kd.R_far (p:=⟨gb267,1,none⟩) (Kd.R_far (p:=⟨gb267,0,none⟩) (Kd.R_types HO_8.out BK267.out (by decide)) (fun _ hk=>hk.2) (.int .i64 ((rd_T97 l0_0 (rd t257 x56_2)).f0))) (fun _ hk=>hk.2) (.int .i64 ((rd_T97 l0_0 (rd t257 x56_2)).f1))) (fun _ hk=>hk.2) (.int .i64 ((rd_T97 l0_0 (rd t257 x56_2)).f2))) (fun _ hk=>hk.2) (.bool true)) (fun _ h_=>h_.1))));(case side2=>exact (Kd.R_reads' HO_8.out).2.1);rintro e w' ⟨rfl,⟨nd,rfl⟩⟩)|((with_reducible refine gate_builtin (b:=.append) (xs:=#[.tmp 86,.tmp 89]) rfl ?_);(try (refine gate_guard (by rfl) ?_;dsimp only));at_builtin;refine Kd.R_append (Kd.int .i64) (w0:=w) w.heap.size rfl (.tmp 86) (.tmp 89) 51 3 (.int .i64 0) 8 rfl Try.underlying51 info3 rfl (by decide) (by omega) (.slice Ao43 x8_2.length co43) x8_2 ((rd_T97 l0_0 (rd t257 x56_2)).f0) [.int .i64 ((rd_T97 l0_0 (rd t257 x56_2)).f0)] (fun k_=>some k_≠(v262:Value).ownBlock∧some k_≠(.slice (some ad265) t257.length co20:Value).ownBlock) (fun _=>False) rfl (by first|(go_simp;done)|(go_simp;rfl)) ?aP (fun _ hk=>hk.elim) ?aF ?aO ?aB ?aS ?aL ?_;(case aP=>exact rfl);(case aB=>exact bl);(case aF=>exact (fun k_ hk=>⟨Kd.fresh' (Kd.R_lt (by (with_reducible repeat (first|apply Kd.R_alloc|apply Kd.R_drewN|apply Kd.R_drew));exact (Kd.R_mono (Kd.R_far (p:=⟨gb267,3,none⟩) (Kd.R_far (p:=⟨gb267,2,none⟩) (Kd.R_far (p:=⟨gb267,1,none⟩) (Kd.R_far (p:=⟨gb267,0,none⟩) (Kd.R_types HO_5.out BK267.out (by decide)) (fun _ hk=>hk.2) (.int .i64 ((rd_T97 l0_0 (rd t257 x56_2)).f0))) (fun _ hk=>hk.2) (.int .i64 ((rd_T97 l0_0 (rd t257 x56_2)).f1))) (fun _ hk=>hk.2) (.int .i64 ((rd_T97 l0_0 (rd t257 x56_2)).f2))) (fun _ hk=>hk.2) (.bool true)) (fun _ h_=>h_.1)))) k_ hk,Kd.fresh' (Kd.R_lt (by (with_reducible repeat (first|apply Kd.R_alloc|apply Kd.R_drewN|apply Kd.R_drew));exact (Kd.R_mono (Kd.R_far (p:=⟨gb267,3,none⟩) (Kd.R_far (p:=⟨gb267,2,none⟩) (Kd.R_far (p:=⟨gb267,1,none⟩) (Kd.R_far (p:=⟨gb267,0,none⟩) (Kd.R_types HO_54.out BK267.out (by decide)) (fun _ hk=>hk.2) (.int .i64 ((rd_T97 l0_0 (rd t257 x56_2)).f0))) (fun _ hk=>hk.2) (.int .i64 ((rd_T97 l0_0 (rd t257 x56_2)).f1))) (fun _ hk=>hk.2) (.int .i64 ((rd_T97 l0_0 (rd t257 x56_2)).f2))) (fun _ hk=>hk.2) (.bool true)) (fun _ h_=>h_.1)))) k_ hk⟩));(case aO=>exact (by (with_reducible repeat (first|apply Kd.R_alloc|apply Kd.R_drewN|apply Kd.R_drew));exact Kd.R_mono (Kd.R_far (p:=⟨gb267,3,none⟩) (Kd.R_far (p:=⟨gb267,2,none⟩) (Kd.R_far (p:=⟨gb267,1,none⟩) (Kd.R_far (p:=⟨gb267,0,none⟩) (Kd.R_types HO_8.out BK267.out (by decide)) (fun _ hk=>hk.2) (.int .i64 ((rd_T97 l0_0 (rd t257 x56_2)).f0))) (fun _ hk=>hk.2) (.int .i64 ((rd_T97 l0_0 (rd t257 x56_2)).f1))) (fun _ hk=>hk.2) (.int .i64 ((rd_T97 l0_0 (rd t257 x56_2)).f2))) (fun _ hk=>hk.2) (.bool true)) (fun _ hk=>⟨hk.1.1,hk.1.2⟩)));(case aS=>exact (below_size bl));(case aL=>have:=LMc38.out;omega);intro v271 w44 ho hb hg hat;rw [← Ny270.out] at ho;replace HO_5:=Aside0.mk (Kd.R_after (ok:=(fun k_=>some k_≠(.slice (some ad265) t257.length co20:Value).ownBlock)) (by (with_reducible repeat (first|apply Kd.R_alloc|apply Kd.R_drewN|apply Kd.R_drew));exact Kd.R_mono (Kd.R_far (p:=⟨gb267,3,none⟩) (Kd.R_far (p:=⟨gb267,2,none⟩) (Kd.R_far (p:=⟨gb267,1,none⟩) (Kd.R_far (p:=⟨gb267,0,none⟩) (Kd.R_types HO_5.out BK267.out (by decide)) (fun _ hk=>hk.2) (.int .i64 ((rd_T97 l0_0 (rd t257 x56_2)).f0))) (fun _ hk=>hk.2) (.int .i64 ((rd_T97 l0_0 (rd t257 x56_2)).f1))) (fun _ hk=>hk.2) (.int .i64 ((rd_T97 l0_0 (rd t257 x56_2)).f2))) (fun _ hk=>hk.2) (.bool true)) (fun _ hk=>⟨hk.1.2,hk.1.1⟩)) hg hat);replace HO_54:=Aside0.mk (Kd.R_after (ok:=(fun k_=>some k_≠(v262:Value).ownBlock)) (by (with_reducible repeat (first|apply Kd.R_alloc|apply Kd.R_drewN|apply Kd.R_drew));exact Kd.R_mono (Kd.R_far (p:=⟨gb267,3,none⟩) (Kd.R_far (p:=⟨gb267,2,none⟩) (Kd.R_far (p:=⟨gb267,1,none⟩) (Kd.R_far (p:=⟨gb267,0,none⟩) (Kd.R_types HO_54.out BK267.out (by decide)) (fun _ hk=>hk.2) (.int .i64 ((rd_T97 l0_0 (rd t257 x56_2)).f0))) (fun _ hk=>hk.2) (.int .i64 ((rd_T97 l0_0 (rd t257 x56_2)).f1))) (fun _ hk=>hk.2) (.int .i64 ((rd_T97 l0_0 (rd t257 x56_2)).f2))) (fun _ hk=>hk.2) (.bool true)) (fun _ hk=>⟨hk.1.1,hk.1.2⟩)) hg hat);replace BK256:=Aside0.mk (blk_grown (g:=gb256) (o:=.cells #[.slice (some ad266) l0_0.length c0_0,.int .i64 a0_1,.int .i64 a0_2,.int .i64 a0_3,.int .i64 a0_4] 28 (0,0)) (bf BK256) hg (Kd.R_ne HO_8.out BK256.out (by decide)));replace BK267:=Aside0.mk (blk_grown (g:=gb267) (o:=.cells #[.int .i64 ((rd_T97 l0_0 (rd t257 x56_2)).f0),.int .i64 ((rd_T97 l0_0 (rd t257 x56_2)).f1),.int .i64 ((rd_T97 l0_0 (rd t257 x56_2)).f2),.bool true] 97 (0,0)) (by (with_reducible repeat (first|refine blk_drewN ?_ _|refine blk_drew ?_|refine blk_alloc ?_ _));refine blk_put (cs:=#[.int .i64 ((rd_T97 l0_0 (rd t257 x56_2)).f0),.int .i64 ((rd_T97 l0_0 (rd t257 x56_2)).f1),.int .i64 ((rd_T97 l0_0 (rd t257 x56_2)).f2),.bool false]) ?_ 3 _ rfl;(with_reducible repeat (first|refine blk_drewN ?_ _|refine blk_drew ?_|refine blk_alloc ?_ _));refine blk_put (cs:=#[.int .i64 ((rd_T97 l0_0 (rd t257 x56_2)).f0),.int .i64 ((rd_T97 l0_0 (rd t257 x56_2)).f1),.int .i64 0,.bool false]) ?_ 2 _ rfl;(with_reducible repeat (first|refine blk_drewN ?_ _|refine blk_drew ?_|refine blk_alloc ?_ _));refine blk_put (cs:=#[.int .i64 ((rd_T97 l0_0 (rd t257 x56_2)).f0),.int .i64 0,.int .i64 0,.bool false]) ?_ 1 _ rfl;(with_reducible repeat (first|refine blk_drewN ?_ _|refine blk_drew ?_|refine blk_alloc ?_ _));refine blk_put (cs:=#[.int .i64 0,.int .i64 0,.int .i64 0,.bool false]) ?_ 0 _ rfl;(with_reducible repeat (first|refine blk_drewN ?_ _|refine blk_drew ?_|refine blk_alloc ?_ _));exact BK267.out) hg (Kd.R_ne HO_8.out BK267.out (by decide)));replace HB:=Aside0.mk (hb);have HO272:=Aside0.mk (ho);clear HO_8;clear ho hb hg hat))
            go_roundg k2
            case measure=>have:=HJ4.out;have:=HK2.out;omega
            case rel=>exact ⟨(rd t257 x56_2),(y270),(wrap64 (x56_2 + 1)),(by first|rfl|(simp;done)|(simp [*];done)),(by first|rfl|(simp;done)|(simp [*];done)),H',⟨by have:=HJ4.out;have:=HK2.out;omega⟩,⟨by (with_reducible repeat (first|apply Kd.R_alloc|apply Kd.R_drewN|apply Kd.R_drew));exact Kd.R_mono HO_5.out (fun _ hk=>⟨hk.2,hk.1⟩)⟩,⟨kr HO272⟩,⟨kr HO_54⟩,⟨bk BK256⟩,⟨bl⟩⟩
          ·rw [if_neg c30] at H
           have c30b0:(((rd_T97 l0_0 (rd t257 x56_2)).f1) == x7_2)=false:=beq_eq_false_iff_ne.mpr c30
           have c30b1:(((rd_T97 l0_0 (rd t257 x56_2)).f1) != x7_2)=true:=bne_iff_ne.mpr c30
           obtain rfl:=Option.some.inj H
           have p265:0≤(x56_2:Int):=od
           have q265:x56_2 < (t257.length:Int):=od
           obtain ⟨ad265,e265,hx265_0⟩:=Kd.at_int (Kd.R_reads' HO_54.out).2.2 x56_2 p265 q265
           cases e265
           replace p265:=eq_true p265
           replace q265:=eq_true q265
           obtain ⟨hcz45_0,hcz45_1,hcz45_2,hcz45_3,hcz45_4,hfz45_0,hfz45_1,hfz45_2,hfz45_3,hfz45_4⟩:=ck5 BK256.out
           have p266:0≤((rd t257 x56_2):Int):=od
           have q266:(rd t257 x56_2) < (l0_0.length:Int):=od
           obtain ⟨ad266,e266,hx266_0,hx266_1,hx266_2,hx266_3⟩:=at_T97 HR0_0.out (rd t257 x56_2) p266 q266
           (try rw [← Nbq26.out] at hx266_3)
           cases e266
           replace hx266_0:=cl HB hx266_0
           replace hx266_1:=cl HB hx266_1
           replace hx266_2:=cl HB hx266_2
           replace hx266_3:=cl HB hx266_3
           replace p266:=eq_true p266
           replace q266:=eq_true q266
           go_wp2_with (first|((with_reducible refine gate_dst (N:=11) rfl ?_);(try (refine gate_guard (by rfl) ?_;dsimp only));refine bx 11 #[.int .i64 0,.int .i64 0,.int .i64 0,.bool false] 97 ?_;intro gb267 hg w46 hbox hb;replace HO_5:=Aside0.mk (Kd.R_below (kr HO_5) hb);replace HO_8:=Aside0.mk (Kd.R_below (kr HO_8) hb);replace HO_54:=Aside0.mk (Kd.R_below (kr HO_54) hb);have BK267:=Aside0.mk (hbox);have GW267:=Aside0.mk (bz hg:w.heap.size≤gb267);have GE267:=GW267;replace HB:=Aside0.mk (below_step bl hb);have NB256_267:=Aside0.mk (nl hg BK256:gb256≠gb267);have NB267_256:=Aside0.mk (nr hg BK256:gb267≠gb256);replace BK256:=Aside0.mk (blk_below (bk BK256) hb);clear hb hbox hg;have hnb47:=NB267_256.out;have hnc47:=NB256_267.out;obtain ⟨hcz48_0,hcz48_1,hcz48_2,hcz48_3,hfz48_0,hfz48_1,hfz48_2,hfz48_3⟩:=ck4 BK267.out)|(go_at_call 89;(with_reducible refine (impl_isId.calls ((rd_T97 l0_0 (rd t257 x56_2)).f0) true _ A28.out).mono ?_);rintro e w' ⟨rfl,⟨nd,rfl⟩⟩))
           go_ret
           exact ⟨er,bl⟩
         ·replace c29:=Bool.eq_false_iff.mpr c29
          subst c29
          rw [if_neg nft] at H
          obtain rfl:=Option.some.inj H
          have p265:0≤(x56_2:Int):=od
          have q265:x56_2 < (t257.length:Int):=od
          obtain ⟨ad265,e265,hx265_0⟩:=Kd.at_int (Kd.R_reads' HO_54.out).2.2 x56_2 p265 q265
          cases e265
          replace p265:=eq_true p265
          replace q265:=eq_true q265
          obtain ⟨hcz49_0,hcz49_1,hcz49_2,hcz49_3,hcz49_4,hfz49_0,hfz49_1,hfz49_2,hfz49_3,hfz49_4⟩:=ck5 BK256.out
          have p266:0≤((rd t257 x56_2):Int):=od
          have q266:(rd t257 x56_2) < (l0_0.length:Int):=od
          obtain ⟨ad266,e266,hx266_0,hx266_1,hx266_2,hx266_3⟩:=at_T97 HR0_0.out (rd t257 x56_2) p266 q266
          (try rw [← Nbq26.out] at hx266_3)
          cases e266
          replace hx266_0:=cl HB hx266_0
          replace hx266_1:=cl HB hx266_1
          replace hx266_2:=cl HB hx266_2
          replace hx266_3:=cl HB hx266_3
          replace p266:=eq_true p266
          replace q266:=eq_true q266
          go_wp2_with (first|((with_reducible refine gate_dst (N:=11) rfl ?_);(try (refine gate_guard (by rfl) ?_;dsimp only));refine bx 11 #[.int .i64 0,.int .i64 0,.int .i64 0,.bool false] 97 ?_;intro gb267 hg w50 hbox hb;replace HO_5:=Aside0.mk (Kd.R_below (kr HO_5) hb);replace HO_8:=Aside0.mk (Kd.R_below (kr HO_8) hb);replace HO_54:=Aside0.mk (Kd.R_below (kr HO_54) hb);have BK267:=Aside0.mk (hbox);have GW267:=Aside0.mk (bz hg:w.heap.size≤gb267);have GE267:=GW267;replace HB:=Aside0.mk (below_step bl hb);have NB256_267:=Aside0.mk (nl hg BK256:gb256≠gb267);have NB267_256:=Aside0.mk (nr hg BK256:gb267≠gb256);replace BK256:=Aside0.mk (blk_below (bk BK256) hb);clear hb hbox hg;have hnb51:=NB267_256.out;have hnc51:=NB256_267.out;obtain ⟨hcz52_0,hcz52_1,hcz52_2,hcz52_3,hfz52_0,hfz52_1,hfz52_2,hfz52_3⟩:=ck4 BK267.out)|(go_at_call 89;(with_reducible refine (impl_isId.calls ((rd_T97 l0_0 (rd t257 x56_2)).f0) false _ A28.out).mono ?_);rintro e w' ⟨rfl,⟨nd,rfl⟩⟩))
          go_ret
          exact ⟨er,bl⟩
        ·replace c27:=Bool.eq_false_iff.mpr c27
         subst c27
         rw [if_neg nft] at H
         obtain rfl:=Option.some.inj H
         have p265:0≤(x56_2:Int):=od
         have q265:x56_2 < (t257.length:Int):=od
         obtain ⟨ad265,e265,hx265_0⟩:=Kd.at_int (Kd.R_reads' HO_54.out).2.2 x56_2 p265 q265
         cases e265
         replace p265:=eq_true p265
         replace q265:=eq_true q265
         obtain ⟨hcz53_0,hcz53_1,hcz53_2,hcz53_3,hcz53_4,hfz53_0,hfz53_1,hfz53_2,hfz53_3,hfz53_4⟩:=ck5 BK256.out
         have p266:0≤((rd t257 x56_2):Int):=od
         have q266:(rd t257 x56_2) < (l0_0.length:Int):=od
         obtain ⟨ad266,e266,hx266_0,hx266_1,hx266_2,hx266_3⟩:=at_T97 HR0_0.out (rd t257 x56_2) p266 q266
         (try rw [← Nbq26.out] at hx266_3)
         cases e266
         replace hx266_0:=cl HB hx266_0
         replace hx266_1:=cl HB hx266_1
         replace hx266_2:=cl HB hx266_2
         replace hx266_3:=cl HB hx266_3
         replace p266:=eq_true p266
         replace q266:=eq_true q266
         go_wp2_with (first|((with_reducible refine gate_dst (N:=11) rfl ?_);(try (refine gate_guard (by rfl) ?_;dsimp only));refine bx 11 #[.int .i64 0,.int .i64 0,.int .i64 0,.bool false] 97 ?_;intro gb267 hg w54 hbox hb;replace HO_5:=Aside0.mk (Kd.R_below (kr HO_5) hb);replace HO_8:=Aside0.mk (Kd.R_below (kr HO_8) hb);replace HO_54:=Aside0.mk (Kd.R_below (kr HO_54) hb);have BK267:=Aside0.mk (hbox);have GW267:=Aside0.mk (bz hg:w.heap.size≤gb267);have GE267:=GW267;replace HB:=Aside0.mk (below_step bl hb);have NB256_267:=Aside0.mk (nl hg BK256:gb256≠gb267);have NB267_256:=Aside0.mk (nr hg BK256:gb267≠gb256);replace BK256:=Aside0.mk (blk_below (bk BK256) hb);clear hb hbox hg;have hnb55:=NB267_256.out;have hnc55:=NB256_267.out;obtain ⟨hcz56_0,hcz56_1,hcz56_2,hcz56_3,hfz56_0,hfz56_1,hfz56_2,hfz56_3⟩:=ck4 BK267.out))
         go_ret
         exact ⟨er,bl⟩
       ·rw [if_neg c21] at H
        have c21b0:decide (x56_2 < (t257.length:Int))=false:=decide_eq_false c21
        clear c21
        have H':=Aside0.mk H
        clear H
        obtain ⟨Ao57,co57,eo57⟩:=Kd.R_slice HO_5.out
        subst eo57
        go_wp2
        go_loopg [95] k2 (fun kq v95 w'=>∃ (x95_3:Int),v95 = .int .i64 x95_3∧Aside0 (impl_QueueOk.l1 kq x7_2 t261 (t261.length:Int) x95_3 l0_0 a0_1 a0_2 a0_3 a0_4=some r)∧Aside0 (kq≤k2)∧Aside0 (Kd.R (Kd.int .i64) 3 w' w.heap.size (fun _=>True) (.slice Ao57 t261.length co57) t261)∧Aside0 (w'.heap[gb256]? = some (.cells #[(.slice A0_0 l0_0.length c0_0),.int .i64 a0_1,.int .i64 a0_2,.int .i64 a0_3,.int .i64 a0_4] 28 (0,0)))∧Aside0 (Below w.heap.size w w'))
        case atStart=>exact ⟨(0),(by first|rfl|(simp;done)|(simp [*];done)),H',⟨Nat.le_refl _⟩,⟨by (with_reducible repeat (first|apply Kd.R_alloc|apply Kd.R_drewN|apply Kd.R_drew));exact Kd.R_mono HO_5.out (fun _ hk=>trivial)⟩,⟨bk BK256⟩,⟨bl⟩⟩
        case round =>
         clear H'
         try clear c1
         try clear c2
         try clear c2b0
         try clear c2b1
         try clear p2
         try clear q2
         try clear hx2
         try clear c3
         try clear c4
         try clear c5
         try clear c6
         try clear p6
         try clear c9
         try clear c11
         try clear c12
         try clear c13
         try clear c13b0
         try clear c13b1
         try clear c19
         try clear c21
         try clear c21b0
         try clear c22
         try clear c22b0
         try clear c23
         try clear c23b0
         try clear c24
         try clear c24b0
         try clear c25
         try clear c25b0
         try clear p26
         try clear q26
         try clear hx26
         try clear c27
         try clear c29
         try clear c30
         try clear c30b0
         try clear c30b1
         try clear c32
         try clear c35
         try clear c38
         try clear c41
         try clear c47
         try clear c51
         try clear c55
         try clear hcz15_0
         try clear hcz15_1
         try clear hcz15_2
         try clear hcz15_3
         try clear hcz15_4
         try clear hcz18_0
         try clear hcz18_1
         try clear hcz18_2
         try clear hcz18_3
         try clear hcz18_4
         try clear hcz33_0
         try clear hcz33_1
         try clear hcz33_2
         try clear hcz33_3
         try clear hcz33_4
         try clear hcz36_0
         try clear hcz36_1
         try clear hcz36_2
         try clear hcz36_3
         try clear hcz39_0
         try clear hcz39_1
         try clear hcz39_2
         try clear hcz39_3
         try clear hcz39_4
         try clear hcz42_0
         try clear hcz42_1
         try clear hcz42_2
         try clear hcz42_3
         try clear hcz45_0
         try clear hcz45_1
         try clear hcz45_2
         try clear hcz45_3
         try clear hcz45_4
         try clear hcz48_0
         try clear hcz48_1
         try clear hcz48_2
         try clear hcz48_3
         try clear hcz49_0
         try clear hcz49_1
         try clear hcz49_2
         try clear hcz49_3
         try clear hcz49_4
         try clear hcz52_0
         try clear hcz52_1
         try clear hcz52_2
         try clear hcz52_3
         try clear hcz53_0
         try clear hcz53_1
         try clear hcz53_2
         try clear hcz53_3
         try clear hcz53_4
         try clear hcz56_0
         try clear hcz56_1
         try clear hcz56_2
         try clear hcz56_3
         try clear hcz7_0
         try clear hcz7_1
         try clear hcz7_2
         try clear hcz7_3
         try clear hcz7_4
         try clear hcz9_0
         try clear hcz9_1
         try clear hcz9_2
         try clear hcz9_3
         try clear hcz9_4
         try clear hfz15_0
         try clear hfz15_1
         try clear hfz15_2
         try clear hfz15_3
         try clear hfz15_4
         try clear hfz18_0
         try clear hfz18_1
         try clear hfz18_2
         try clear hfz18_3
         try clear hfz18_4
         try clear hfz33_0
         try clear hfz33_1
         try clear hfz33_2
         try clear hfz33_3
         try clear hfz33_4
         try clear hfz36_0
         try clear hfz36_1
         try clear hfz36_2
         try clear hfz36_3
         try clear hfz39_0
         try clear hfz39_1
         try clear hfz39_2
         try clear hfz39_3
         try clear hfz39_4
         try clear hfz42_0
         try clear hfz42_1
         try clear hfz42_2
         try clear hfz42_3
         try clear hfz45_0
         try clear hfz45_1
         try clear hfz45_2
         try clear hfz45_3
         try clear hfz45_4
         try clear hfz48_0
         try clear hfz48_1
         try clear hfz48_2
         try clear hfz48_3
         try clear hfz49_0
         try clear hfz49_1
         try clear hfz49_2
         try clear hfz49_3
         try clear hfz49_4
         try clear hfz52_0
         try clear hfz52_1
         try clear hfz52_2
         try clear hfz52_3
         try clear hfz53_0
         try clear hfz53_1
         try clear hfz53_2
         try clear hfz53_3
         try clear hfz53_4
         try clear hfz56_0
         try clear hfz56_1
         try clear hfz56_2
         try clear hfz56_3
         try clear hfz7_0
         try clear hfz7_1
         try clear hfz7_2
         try clear hfz7_3
         try clear hfz7_4
         try clear hfz9_0
         try clear hfz9_1
         try clear hfz9_2
         try clear hfz9_3
         try clear hfz9_4
         try clear hx265_0
         try clear hx266_0
         try clear hx266_1
         try clear hx266_2
         try clear hx266_3
         try clear p2
         try clear p265
         try clear p266
         try clear p6
         try clear q265
         try clear q266
         obtain ⟨x95_3,rfl,HA,HK3,HO_93,BK256,HB⟩:=hrel
         cases gk with
         | zero=>exact absurd HA.out (by simp [impl_QueueOk.l1])
         | succ k3 =>
          have H:=HA.out
          clear HA
          simp only [impl_QueueOk.l1] at H
          by_cases c58:x95_3 < (t261.length:Int)
          ·rw [if_pos c58] at H
           have c58b0:decide (x95_3 < (t261.length:Int))=true:=decide_eq_true c58
           clear c58
           by_cases c59:0≤x95_3
           case neg =>
            rw [if_neg c59] at H
            exact absurd H (by simp)
           rw [if_pos c59] at H
           have c59b0:decide (0≤x95_3)=true:=decide_eq_true c59
           clear c59
           by_cases c60:x95_3 < (t261.length:Int)
           case neg =>
            rw [if_neg c60] at H
            exact absurd H (by simp)
           rw [if_pos c60] at H
           have c60b0:decide (x95_3 < (t261.length:Int))=true:=decide_eq_true c60
           clear c60
           by_cases c61:0≤(rd t261 x95_3)
           case neg =>
            rw [if_neg c61] at H
            exact absurd H (by simp)
           rw [if_pos c61] at H
           have c61b0:decide (0≤(rd t261 x95_3))=true:=decide_eq_true c61
           clear c61
           by_cases c62:(rd t261 x95_3) < (l0_0.length:Int)
           case neg =>
            rw [if_neg c62] at H
            exact absurd H (by simp)
           rw [if_pos c62] at H
           have c62b0:decide ((rd t261 x95_3) < (l0_0.length:Int))=true:=decide_eq_true c62
           clear c62
           obtain ⟨bq63,hbq63⟩:∃ b_:Bool,b_=((rd_T97 l0_0 (rd t261 x95_3)).f3):=⟨_,rfl⟩
           replace H:(if bq63=true then (some false) else (if ((rd_T97 l0_0 (rd t261 x95_3)).f0)=0 then (if ((rd_T97 l0_0 (rd t261 x95_3)).f1)=(-1) then (impl_QueueOk.l1 k3 x7_2 t261 (t261.length:Int) (wrap64 (x95_3 + 1)) l0_0 a0_1 a0_2 a0_3 a0_4) else (some false)) else (some false)))=some r:=by rw [← hbq63] at H;exact H
           have Nbq63:=Aside0.mk hbq63
           clear hbq63
           by_cases c64:bq63=true
           ·subst c64
            rw [if_pos rfl] at H
            obtain rfl:=Option.some.inj H
            have p273:0≤(x95_3:Int):=od
            have q273:x95_3 < (t261.length:Int):=od
            obtain ⟨ad273,e273,hx273_0⟩:=Kd.at_int (Kd.R_reads' HO_93.out).2.2 x95_3 p273 q273
            cases e273
            replace p273:=eq_true p273
            replace q273:=eq_true q273
            obtain ⟨hcz65_0,hcz65_1,hcz65_2,hcz65_3,hcz65_4,hfz65_0,hfz65_1,hfz65_2,hfz65_3,hfz65_4⟩:=ck5 BK256.out
            have p274:0≤((rd t261 x95_3):Int):=od
            have q274:(rd t261 x95_3) < (l0_0.length:Int):=od
            obtain ⟨ad274,e274,hx274_0,hx274_1,hx274_2,hx274_3⟩:=at_T97 HR0_0.out (rd t261 x95_3) p274 q274
            (try rw [← Nbq63.out] at hx274_3)
            cases e274
            replace hx274_0:=cl HB hx274_0
            replace hx274_1:=cl HB hx274_1
            replace hx274_2:=cl HB hx274_2
            replace hx274_3:=cl HB hx274_3
            replace p274:=eq_true p274
            replace q274:=eq_true q274
            go_wp2_with (first|((with_reducible refine gate_dst (N:=14) rfl ?_);(try (refine gate_guard (by rfl) ?_;dsimp only));refine bx 14 #[.int .i64 0,.int .i64 0,.int .i64 0,.bool false] 97 ?_;intro gb275 hg w66 hbox hb;replace HO_93:=Aside0.mk (Kd.R_below (kr HO_93) hb);have BK275:=Aside0.mk (hbox);have GW275:=Aside0.mk (bz hg:w.heap.size≤gb275);have GE275:=GW275;replace HB:=Aside0.mk (below_step bl hb);have NB256_275:=Aside0.mk (nl hg BK256:gb256≠gb275);have NB275_256:=Aside0.mk (nr hg BK256:gb275≠gb256);replace BK256:=Aside0.mk (blk_below (bk BK256) hb);clear hb hbox hg;have hnb67:=NB275_256.out;have hnc67:=NB256_275.out;obtain ⟨hcz68_0,hcz68_1,hcz68_2,hcz68_3,hfz68_0,hfz68_1,hfz68_2,hfz68_3⟩:=ck4 BK275.out))
            go_ret
            exact ⟨er,bl⟩
           ·replace c64:=Bool.eq_false_iff.mpr c64
            subst c64
            rw [if_neg nft] at H
            by_cases c69:((rd_T97 l0_0 (rd t261 x95_3)).f0)=0
            ·rw [if_pos c69] at H
             have c69b0:(((rd_T97 l0_0 (rd t261 x95_3)).f0) == 0)=true:=beq_iff_eq.mpr c69
             have c69b1:(((rd_T97 l0_0 (rd t261 x95_3)).f0) != 0)=false:=bne_eq_false_iff_eq.mpr c69
             clear c69
             by_cases c70:((rd_T97 l0_0 (rd t261 x95_3)).f1)=(-1)
             ·rw [if_pos c70] at H
              have c70b0:(((rd_T97 l0_0 (rd t261 x95_3)).f1) == (-1))=true:=beq_iff_eq.mpr c70
              have c70b1:(((rd_T97 l0_0 (rd t261 x95_3)).f1) != (-1))=false:=bne_eq_false_iff_eq.mpr c70
              clear c70
              have H':=Aside0.mk H
              clear H
              have p273:0≤(x95_3:Int):=od
              have q273:x95_3 < (t261.length:Int):=od
              obtain ⟨ad273,e273,hx273_0⟩:=Kd.at_int (Kd.R_reads' HO_93.out).2.2 x95_3 p273 q273
              cases e273
              replace p273:=eq_true p273
              replace q273:=eq_true q273
              obtain ⟨hcz71_0,hcz71_1,hcz71_2,hcz71_3,hcz71_4,hfz71_0,hfz71_1,hfz71_2,hfz71_3,hfz71_4⟩:=ck5 BK256.out
              have p274:0≤((rd t261 x95_3):Int):=od
              have q274:(rd t261 x95_3) < (l0_0.length:Int):=od
              obtain ⟨ad274,e274,hx274_0,hx274_1,hx274_2,hx274_3⟩:=at_T97 HR0_0.out (rd t261 x95_3) p274 q274
              (try rw [← Nbq63.out] at hx274_3)
              cases e274
              replace hx274_0:=cl HB hx274_0
              replace hx274_1:=cl HB hx274_1
              replace hx274_2:=cl HB hx274_2
              replace hx274_3:=cl HB hx274_3
              replace p274:=eq_true p274
              replace q274:=eq_true q274
              go_wp2_with (first|((with_reducible refine gate_dst (N:=14) rfl ?_);(try (refine gate_guard (by rfl) ?_;dsimp only));refine bx 14 #[.int .i64 0,.int .i64 0,.int .i64 0,.bool false] 97 ?_;intro gb275 hg w72 hbox hb;replace HO_93:=Aside0.mk (Kd.R_below (kr HO_93) hb);have BK275:=Aside0.mk (hbox);have GW275:=Aside0.mk (bz hg:w.heap.size≤gb275);have GE275:=GW275;replace HB:=Aside0.mk (below_step bl hb);have NB256_275:=Aside0.mk (nl hg BK256:gb256≠gb275);have NB275_256:=Aside0.mk (nr hg BK256:gb275≠gb256);replace BK256:=Aside0.mk (blk_below (bk BK256) hb);clear hb hbox hg;have hnb73:=NB275_256.out;have hnc73:=NB256_275.out;obtain ⟨hcz74_0,hcz74_1,hcz74_2,hcz74_3,hfz74_0,hfz74_1,hfz74_2,hfz74_3⟩:=ck4 BK275.out))
              go_roundg k3
              case measure=>have:=HJ4.out;have:=HK2.out;have:=HK3.out;omega
              case rel=>exact ⟨(wrap64 (x95_3 + 1)),(by first|rfl|(simp;done)|(simp [*];done)),H',⟨by have:=HJ4.out;have:=HK2.out;have:=HK3.out;omega⟩,⟨by (with_reducible repeat (first|apply Kd.R_alloc|apply Kd.R_drewN|apply Kd.R_drew));exact Kd.R_mono (Kd.R_far (p:=⟨gb275,3,none⟩) (Kd.R_far (p:=⟨gb275,2,none⟩) (Kd.R_far (p:=⟨gb275,1,none⟩) (Kd.R_far (p:=⟨gb275,0,none⟩) (Kd.R_types HO_93.out BK275.out (by decide)) (fun _ hk=>hk.2) (.int .i64 ((rd_T97 l0_0 (rd t261 x95_3)).f0))) (fun _ hk=>hk.2) (.int .i64 ((rd_T97 l0_0 (rd t261 x95_3)).f1))) (fun _ hk=>hk.2) (.int .i64 ((rd_T97 l0_0 (rd t261 x95_3)).f2))) (fun _ hk=>hk.2) (.bool false)) (fun _ hk=>trivial)⟩,⟨bf BK256⟩,⟨bl⟩⟩
             ·rw [if_neg c70] at H
              have c70b0:(((rd_T97 l0_0 (rd t261 x95_3)).f1) == (-1))=false:=beq_eq_false_iff_ne.mpr c70
              have c70b1:(((rd_T97 l0_0 (rd t261 x95_3)).f1) != (-1))=true:=bne_iff_ne.mpr c70
              obtain rfl:=Option.some.inj H
              have p273:0≤(x95_3:Int):=od
              have q273:x95_3 < (t261.length:Int):=od
              obtain ⟨ad273,e273,hx273_0⟩:=Kd.at_int (Kd.R_reads' HO_93.out).2.2 x95_3 p273 q273
              cases e273
              replace p273:=eq_true p273
              replace q273:=eq_true q273
              obtain ⟨hcz75_0,hcz75_1,hcz75_2,hcz75_3,hcz75_4,hfz75_0,hfz75_1,hfz75_2,hfz75_3,hfz75_4⟩:=ck5 BK256.out
              have p274:0≤((rd t261 x95_3):Int):=od
              have q274:(rd t261 x95_3) < (l0_0.length:Int):=od
              obtain ⟨ad274,e274,hx274_0,hx274_1,hx274_2,hx274_3⟩:=at_T97 HR0_0.out (rd t261 x95_3) p274 q274
              (try rw [← Nbq63.out] at hx274_3)
              cases e274
              replace hx274_0:=cl HB hx274_0
              replace hx274_1:=cl HB hx274_1
              replace hx274_2:=cl HB hx274_2
              replace hx274_3:=cl HB hx274_3
              replace p274:=eq_true p274
              replace q274:=eq_true q274
              go_wp2_with (first|((with_reducible refine gate_dst (N:=14) rfl ?_);(try (refine gate_guard (by rfl) ?_;dsimp only));refine bx 14 #[.int .i64 0,.int .i64 0,.int .i64 0,.bool false] 97 ?_;intro gb275 hg w76 hbox hb;replace HO_93:=Aside0.mk (Kd.R_below (kr HO_93) hb);have BK275:=Aside0.mk (hbox);have GW275:=Aside0.mk (bz hg:w.heap.size≤gb275);have GE275:=GW275;replace HB:=Aside0.mk (below_step bl hb);have NB256_275:=Aside0.mk (nl hg BK256:gb256≠gb275);have NB275_256:=Aside0.mk (nr hg BK256:gb275≠gb256);replace BK256:=Aside0.mk (blk_below (bk BK256) hb);clear hb hbox hg;have hnb77:=NB275_256.out;have hnc77:=NB256_275.out;obtain ⟨hcz78_0,hcz78_1,hcz78_2,hcz78_3,hfz78_0,hfz78_1,hfz78_2,hfz78_3⟩:=ck4 BK275.out))
              go_ret
              exact ⟨er,bl⟩
            ·rw [if_neg c69] at H
             have c69b0:(((rd_T97 l0_0 (rd t261 x95_3)).f0) == 0)=false:=beq_eq_false_iff_ne.mpr c69
             have c69b1:(((rd_T97 l0_0 (rd t261 x95_3)).f0) != 0)=true:=bne_iff_ne.mpr c69
             obtain rfl:=Option.some.inj H
             have p273:0≤(x95_3:Int):=od
             have q273:x95_3 < (t261.length:Int):=od
             obtain ⟨ad273,e273,hx273_0⟩:=Kd.at_int (Kd.R_reads' HO_93.out).2.2 x95_3 p273 q273
             cases e273
             replace p273:=eq_true p273
             replace q273:=eq_true q273
             obtain ⟨hcz79_0,hcz79_1,hcz79_2,hcz79_3,hcz79_4,hfz79_0,hfz79_1,hfz79_2,hfz79_3,hfz79_4⟩:=ck5 BK256.out
             have p274:0≤((rd t261 x95_3):Int):=od
             have q274:(rd t261 x95_3) < (l0_0.length:Int):=od
             obtain ⟨ad274,e274,hx274_0,hx274_1,hx274_2,hx274_3⟩:=at_T97 HR0_0.out (rd t261 x95_3) p274 q274
             (try rw [← Nbq63.out] at hx274_3)
             cases e274
             replace hx274_0:=cl HB hx274_0
             replace hx274_1:=cl HB hx274_1
             replace hx274_2:=cl HB hx274_2
             replace hx274_3:=cl HB hx274_3
             replace p274:=eq_true p274
             replace q274:=eq_true q274
             go_wp2_with (first|((with_reducible refine gate_dst (N:=14) rfl ?_);(try (refine gate_guard (by rfl) ?_;dsimp only));refine bx 14 #[.int .i64 0,.int .i64 0,.int .i64 0,.bool false] 97 ?_;intro gb275 hg w80 hbox hb;replace HO_93:=Aside0.mk (Kd.R_below (kr HO_93) hb);have BK275:=Aside0.mk (hbox);have GW275:=Aside0.mk (bz hg:w.heap.size≤gb275);have GE275:=GW275;replace HB:=Aside0.mk (below_step bl hb);have NB256_275:=Aside0.mk (nl hg BK256:gb256≠gb275);have NB275_256:=Aside0.mk (nr hg BK256:gb275≠gb256);replace BK256:=Aside0.mk (blk_below (bk BK256) hb);clear hb hbox hg;have hnb81:=NB275_256.out;have hnc81:=NB256_275.out;obtain ⟨hcz82_0,hcz82_1,hcz82_2,hcz82_3,hfz82_0,hfz82_1,hfz82_2,hfz82_3⟩:=ck4 BK275.out))
             go_ret
             exact ⟨er,bl⟩
          ·rw [if_neg c58] at H
           have c58b0:decide (x95_3 < (t261.length:Int))=false:=decide_eq_false c58
           clear c58
           obtain rfl:=Option.some.inj H
           obtain ⟨hcz83_0,hcz83_1,hcz83_2,hcz83_3,hcz83_4,hfz83_0,hfz83_1,hfz83_2,hfz83_3,hfz83_4⟩:=ck5 BK256.out
           go_wp2
           go_ret
           exact ⟨er,bl⟩
 ·rw [if_neg c2] at H
  have c2b0:((l0_0.length:Int) == 60)=false:=beq_eq_false_iff_ne.mpr c2
  have c2b1:((l0_0.length:Int) != 60)=true:=bne_iff_ne.mpr c2
  obtain rfl:=Option.some.inj H
  go_enter Try.func65,Try.ntmps65
  go_wp2_with (first|((with_reducible refine gate_dst (N:=1) rfl ?_);(try (refine gate_guard (by rfl) ?_;dsimp only));refine bx 1 #[.slice A0_0 l0_0.length c0_0,.int .i64 a0_1,.int .i64 a0_2,.int .i64 a0_3,.int .i64 a0_4] 28 ?_;intro gb256 hg w84 hbox hb;have BK256:=Aside0.mk (hbox);have GW256:=Aside0.mk (bz hg:w.heap.size≤gb256);have GE256:=GW256;replace HB:=Aside0.mk (below_step bl hb);clear hb hbox hg;obtain ⟨hcz85_0,hcz85_1,hcz85_2,hcz85_3,hcz85_4,hfz85_0,hfz85_1,hfz85_2,hfz85_3,hfz85_4⟩:=ck5 BK256.out))
  go_ret
  exact ⟨er,bl⟩

end Go.Proofs.Ytnkpjpfmjkiidaa.PFnExactNextExpiry
