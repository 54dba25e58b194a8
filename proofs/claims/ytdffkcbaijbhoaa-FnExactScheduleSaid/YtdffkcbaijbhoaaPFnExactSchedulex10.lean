/- Contracts of functions of the given program: what each call answers. Written by a program of this session, out of the text of the functions. -/
import Derived.Test.YtdffkcbaijbhoaaPFnExactSchedulex0
import Derived.Test.YtdffkcbaijbhoaaPrs
namespace Go.Proofs.Ytdffkcbaijbhoaa.PFnExactSchedule
open Go.RowKit Go.Proofs.YtdffkcbaijbhoaaW.PrintWords Go.Proofs.YtdffkcbaijbhoaaW.PrintLast Go.Proofs.YtdffkcbaijbhoaaW.PrintMore Go.Proofs.Ytdffkcbaijbhoaa.Giv Go.Proofs.Ytdffkcbaijbhoaa.Prs
attribute [local go_sem] max2_int min2_int max_two min_two max_three min_three max_four min_four   -- for this text's walks alone
set_option linter.unusedVariables false
set_option linter.unusedSimpArgs false

/-! ### impl_Heap_swap: function 76 -/
def impl_Heap_swap.f (l0_0:List (S56)) (a0_1:Int) (a1:Int) (a2:Int):Option ((List (S56))):=if 0≤a1 then (if a1 < (l0_0.length:Int) then (if 0≤a2 then (if a2 < (l0_0.length:Int) then (some ((l0_0.set (a1:Int).toNat (⟨(rd_T56 l0_0 a2).f0,(rd_T56 l0_0 a2).f1,(rd_T56 l0_0 a2).f2⟩:S56)).set (a2:Int).toNat (⟨(rd_T56 l0_0 a1).f0,(rd_T56 l0_0 a1).f1,(rd_T56 l0_0 a1).f2⟩:S56))) else (none)) else (none)) else (none)) else (none)
def impl_Heap_swap.T2:Bool × List (List Nat × List Nat):=(true,[([],[]),([0],[0]),([],[]),([],[]),([3],[3]),([],[]),([4,5],[4,5]),([6],[6]),([1,2,0,1,2,3,4,5,6,7],[1,2]),([8,7,0,1,2,3,4,5,6,7],[7,8])])
def impl_Heap_swap.B2:List Nat:=[0,1,0,0,8,0,56,120,255,511]
theorem impl_Heap_swap.tab2:rtab .any (opsOf Try.f76 2)=impl_Heap_swap.T2:=by kernel_rfl
theorem impl_Heap_swap.bits2:waitsOk impl_Heap_swap.T2.2 impl_Heap_swap.B2=true:=by kernel_rfl
set_option maxHeartbeats 8000000 in
set_option maxRecDepth 100000 in
theorem impl_Heap_swap.calls (P0_0_:Nat→Prop) (u9000_:Value) (l0_0:List (S56)) (a0_1:Int) (a1:Int) (a2:Int) (r:List (S56)) (w0 w:World) (hB:Below w0.heap.size w0 w) (ho0_0:Kd.R k56 56 w w0.heap.size P0_0_ u9000_ l0_0) (h:impl_Heap_swap.f l0_0 a0_1 a1 a2=some r) :
  Calls Try.prog 76 #[.agg #[u9000_,.int .i64 a0_1],.int .i64 a1,.int .i64 a2] w fun e w'=>e = .returned (.tuple #[])∧Kd.R k56 56 w' w0.heap.size (fun k_=>(P0_0_ k_∨w.heap.size≤k_)) u9000_ r∧Below w0.heap.size w0 w'∧Kept w w' (fun k_=>P0_0_ k_):=by
 have hu28:=Try.underlying28
 have hu56:=Try.underlying56
 have HO0_0:=Aside0.mk (show Kd.R k56 56 w w0.heap.size (fun k_=>(P0_0_ k_∨w.heap.size≤k_)) u9000_ l0_0 from Kd.R_mono ho0_0 (fun k_ hk=>(.inl hk)))
 have HK:=Aside0.mk (Kept.refl w (fun k_=>P0_0_ k_))
 have HW0:=Aside0.mk hB.size
 have HB:=Aside0.mk hB
 clear hB
 have H:(if 0≤a1 then (if a1 < (l0_0.length:Int) then (if 0≤a2 then (if a2 < (l0_0.length:Int) then (some ((l0_0.set (a1:Int).toNat (⟨(rd_T56 l0_0 a2).f0,(rd_T56 l0_0 a2).f1,(rd_T56 l0_0 a2).f2⟩:S56)).set (a2:Int).toNat (⟨(rd_T56 l0_0 a1).f0,(rd_T56 l0_0 a1).f1,(rd_T56 l0_0 a1).f2⟩:S56))) else (none)) else (none)) else (none)) else (none))=some r:=h
 clear h
 by_cases c4:0≤a1
 ·rw [if_pos c4] at H
  have c4b0:decide (0≤a1)=true:=decide_eq_true c4
  clear c4
  by_cases c5:a1 < (l0_0.length:Int)
  case neg =>
   rw [if_neg c5] at H
   exact absurd H (by simp)
  rw [if_pos c5] at H
  have c5b0:decide (a1 < (l0_0.length:Int))=true:=decide_eq_true c5
  clear c5
  by_cases c6:0≤a2
  case neg =>
   rw [if_neg c6] at H
   exact absurd H (by simp)
  rw [if_pos c6] at H
  have c6b0:decide (0≤a2)=true:=decide_eq_true c6
  clear c6
  by_cases c7:a2 < (l0_0.length:Int)
  case neg =>
   rw [if_neg c7] at H
   exact absurd H (by simp)
  rw [if_pos c7] at H
  have c7b0:decide (a2 < (l0_0.length:Int))=true:=decide_eq_true c7
  clear c7
  obtain ⟨y275,hy275⟩:∃ y_:List (S56),y_=(l0_0.set (a1:Int).toNat (⟨(rd_T56 l0_0 a2).f0,(rd_T56 l0_0 a2).f1,(rd_T56 l0_0 a2).f2⟩:S56)):=⟨_,rfl⟩
  replace H:(some (y275.set (a2:Int).toNat (⟨(rd_T56 l0_0 a1).f0,(rd_T56 l0_0 a1).f1,(rd_T56 l0_0 a1).f2⟩:S56)))=some r:=by first|(rw [hy275];with_reducible exact H)|(have H2_:=(Option.bind_some _ _).symm.trans H;rw [hy275];with_reducible exact H2_)|(have H2_:=(Option.bind_some _ _).symm.trans H;with_reducible exact H2_)|with_reducible exact H|(rw [hy275];exact H)|exact H
  have Ny275:=Aside0.mk hy275
  clear hy275
  obtain ⟨y276,hy276⟩:∃ y_:List (S56),y_=(y275.set (a2:Int).toNat (⟨(rd_T56 l0_0 a1).f0,(rd_T56 l0_0 a1).f1,(rd_T56 l0_0 a1).f2⟩:S56)):=⟨_,rfl⟩
  replace H:(some y276)=some r:=by first|(rw [hy276];with_reducible exact H)|(have H2_:=(Option.bind_some _ _).symm.trans H;rw [hy276];with_reducible exact H2_)|(have H2_:=(Option.bind_some _ _).symm.trans H;with_reducible exact H2_)|with_reducible exact H|(rw [hy276];exact H)|exact H
  have Ny276:=Aside0.mk hy276
  clear hy276
  obtain rfl:=Option.some.inj H
  obtain ⟨Ao10,co10,eo10⟩:=Kd.R_slice HO0_0.out
  subst eo10
  go_enter Try.func76,Try.ntmps76
  try go_wp2_with (first|((with_reducible refine gate_dst (N:=3) rfl ?_);refine bx 3 #[.slice Ao10 l0_0.length co10,.int .i64 a0_1] 28 ?_;intro gb271 hg w11 hbox hb;replace HO0_0:=Aside0.mk (Kd.R_below (kr HO0_0) hb);have BK271:=Aside0.mk (hbox);have GW271:=Aside0.mk ((by rw [hg];exact (by first|exact HK.out.1|exact (show Kept w _ (fun k_=>P0_0_ k_) from by repeat (first|(with_reducible first|exact HK.out|apply Kept.alloc|apply Kept.drewN|apply Kept.drew)|exact HK.out)).1):w.heap.size≤gb271));replace HK:=Aside0.mk (Kept.below (S:=(fun k_=>P0_0_ k_)) (by repeat (first|(with_reducible first|exact HK.out|apply Kept.alloc|apply Kept.drewN|apply Kept.drew)|exact HK.out)) hb);have GE271:=Aside0.mk (bz hg:w0.heap.size≤gb271);replace HB:=Aside0.mk (below_step bl hb);clear hb hbox hg;obtain ⟨hcz12_0,hcz12_1,hfz12_0,hfz12_1⟩:=ck2 BK271.out;have p272:0≤(a1:Int):=od;have q272:a1 < (l0_0.length:Int):=od;obtain ⟨ad272,e272,hx272_0,hx272_1,hx272_2⟩:=at_T56 (Kd.R_reads' HO0_0.out).2.2 a1 p272 q272;cases e272;replace p272:=eq_true p272;replace q272:=eq_true q272)|((with_reducible refine gate_dst (N:=6) rfl ?_);refine bx 6 #[.int .i64 0,.int .i64 0,.int .i64 0] 56 ?_;intro gb273 hg w13 hbox hb;replace HO0_0:=Aside0.mk (Kd.R_below (Kd.R_elderB (kr HO0_0) gb273 (Nat.le_of_eq hg.symm)) hb);have BK273:=Aside0.mk (hbox);have GW273:=Aside0.mk ((by rw [hg];exact (by first|exact HK.out.1|exact (show Kept w _ (fun k_=>P0_0_ k_) from by repeat (first|(with_reducible first|exact HK.out|apply Kept.alloc|apply Kept.drewN|apply Kept.drew|refine Kept.setCell ?_ (.inr GW271.out) _)|exact HK.out)).1):w.heap.size≤gb273));replace HK:=Aside0.mk (Kept.below (S:=(fun k_=>P0_0_ k_)) (by repeat (first|(with_reducible first|exact HK.out|apply Kept.alloc|apply Kept.drewN|apply Kept.drew|refine Kept.setCell ?_ (.inr GW271.out) _)|exact HK.out)) hb);have GE273:=Aside0.mk (bz hg:w0.heap.size≤gb273);replace HB:=Aside0.mk (below_step bl hb);have NB271_273:=Aside0.mk (nl hg BK271:gb271≠gb273);have NB273_271:=Aside0.mk (nr hg BK271:gb273≠gb271);replace BK271:=Aside0.mk (blk_below (bk BK271) hb);clear hb hbox hg;have hnb14:=NB273_271.out;have hnc14:=NB271_273.out;obtain ⟨hcz15_0,hcz15_1,hcz15_2,hfz15_0,hfz15_1,hfz15_2⟩:=ck3 BK273.out))
  have n0_:Aside0 (Kd.R k56 56 (((w13.setCell ⟨gb273,0,none⟩ (.int .i64 ((rd_T56 l0_0 a1).f0))).setCell ⟨gb273,1,none⟩ (.int .i64 ((rd_T56 l0_0 a1).f1))).setCell ⟨gb273,2,none⟩ (.int .i64 ((rd_T56 l0_0 a1).f2))) w0.heap.size (fun k_=>(P0_0_ k_∨w.heap.size≤k_)∧k_≠gb273) (.slice (some ad272) l0_0.length co10) l0_0):=⟨by (with_reducible repeat (first|apply Kd.R_alloc|apply Kd.R_drewN|apply Kd.R_drew));exact Kd.R_mono (Kd.R_far (p:=⟨gb273,2,none⟩) (Kd.R_far (p:=⟨gb273,1,none⟩) (Kd.R_far (p:=⟨gb273,0,none⟩) (Kd.R_mono HO0_0.out (fun k_ hk=>(⟨hk,hk.2⟩:_∧k_≠gb273))) (fun _ hk=>hk.2) (.int .i64 ((rd_T56 l0_0 a1).f0))) (fun _ hk=>hk.2) (.int .i64 ((rd_T56 l0_0 a1).f1))) (fun _ hk=>hk.2) (.int .i64 ((rd_T56 l0_0 a1).f2))) (fun _ hk=>⟨hk.1.1,hk.1.2⟩)⟩
  have n1_:Aside0 ((((w13.setCell ⟨gb273,0,none⟩ (.int .i64 ((rd_T56 l0_0 a1).f0))).setCell ⟨gb273,1,none⟩ (.int .i64 ((rd_T56 l0_0 a1).f1))).setCell ⟨gb273,2,none⟩ (.int .i64 ((rd_T56 l0_0 a1).f2))).heap[gb271]? = some (.cells #[.slice (some ad272) l0_0.length co10,.int .i64 a0_1] 28 (0,0))):=⟨bf BK271⟩
  have n2_:Aside0 ((((w13.setCell ⟨gb273,0,none⟩ (.int .i64 ((rd_T56 l0_0 a1).f0))).setCell ⟨gb273,1,none⟩ (.int .i64 ((rd_T56 l0_0 a1).f1))).setCell ⟨gb273,2,none⟩ (.int .i64 ((rd_T56 l0_0 a1).f2))).heap[gb273]? = some (.cells #[.int .i64 ((rd_T56 l0_0 a1).f0),.int .i64 ((rd_T56 l0_0 a1).f1),.int .i64 ((rd_T56 l0_0 a1).f2)] 56 (0,0))):=⟨by (with_reducible repeat (first|refine blk_drewN ?_ _|refine blk_drew ?_|refine blk_alloc ?_ _));refine blk_put (cs:=#[.int .i64 ((rd_T56 l0_0 a1).f0),.int .i64 ((rd_T56 l0_0 a1).f1),.int .i64 0]) ?_ 2 _ rfl;(with_reducible repeat (first|refine blk_drewN ?_ _|refine blk_drew ?_|refine blk_alloc ?_ _));refine blk_put (cs:=#[.int .i64 ((rd_T56 l0_0 a1).f0),.int .i64 0,.int .i64 0]) ?_ 1 _ rfl;(with_reducible repeat (first|refine blk_drewN ?_ _|refine blk_drew ?_|refine blk_alloc ?_ _));refine blk_put (cs:=#[.int .i64 0,.int .i64 0,.int .i64 0]) ?_ 0 _ rfl;(with_reducible repeat (first|refine blk_drewN ?_ _|refine blk_drew ?_|refine blk_alloc ?_ _));exact BK273.out⟩
  have n3_:Aside0 (Kept w (((w13.setCell ⟨gb273,0,none⟩ (.int .i64 ((rd_T56 l0_0 a1).f0))).setCell ⟨gb273,1,none⟩ (.int .i64 ((rd_T56 l0_0 a1).f1))).setCell ⟨gb273,2,none⟩ (.int .i64 ((rd_T56 l0_0 a1).f2))) (fun k_=>P0_0_ k_)):=⟨by repeat (first|(with_reducible first|exact HK.out|apply Kept.alloc|apply Kept.drewN|apply Kept.drew|refine Kept.setCell ?_ (.inr GW271.out) _|refine Kept.setCell ?_ (.inr GW273.out) _)|exact HK.out)⟩
  have n4_:Aside0 (Below w0.heap.size w0 (((w13.setCell ⟨gb273,0,none⟩ (.int .i64 ((rd_T56 l0_0 a1).f0))).setCell ⟨gb273,1,none⟩ (.int .i64 ((rd_T56 l0_0 a1).f1))).setCell ⟨gb273,2,none⟩ (.int .i64 ((rd_T56 l0_0 a1).f2)))):=⟨bl⟩
  (try clear HO0_0)
  (try clear BK271)
  (try clear BK273)
  (try clear HK)
  (try clear HB)
  generalize (((w13.setCell ⟨gb273,0,none⟩ (.int .i64 ((rd_T56 l0_0 a1).f0))).setCell ⟨gb273,1,none⟩ (.int .i64 ((rd_T56 l0_0 a1).f1))).setCell ⟨gb273,2,none⟩ (.int .i64 ((rd_T56 l0_0 a1).f2)))=w16 at n0_ n1_ n2_ n3_ n4_ ⊢
  have HO0_0:=n0_
  have BK271:=n1_
  have BK273:=n2_
  have HK:=n3_
  have HB:=n4_
  clear n0_ n1_ n2_ n3_ n4_
  replace HO0_0:=Aside0.mk (Kd.R_drew HO0_0.out)
  replace BK271:=Aside0.mk (blk_drew BK271.out)
  replace BK273:=Aside0.mk (blk_drew BK273.out)
  replace HK:=Aside0.mk (Kept.drew HK.out)
  replace HB:=Aside0.mk (below_drew1 HB.out)
  have p274:0≤(a2:Int):=od
  have q274:a2 < (l0_0.length:Int):=od
  obtain ⟨ad274,e274,hx274_0,hx274_1,hx274_2⟩:=at_T56 (Kd.R_reads' HO0_0.out).2.2 a2 p274 q274
  obtain rfl:ad272=ad274:=(by injection e274)
  replace p274:=eq_true p274
  replace q274:=eq_true q274
  have p8:0≤(a1:Int):=od
  have q8:(a1:Int) < ((l0_0.length:Int):Int):=od
  obtain ⟨go8,co8,eo8,gb8,gl8,cl8,HG8⟩:=Kd.R_form HO0_0.out (by omega)
  (first|cases eo8|(injection eo8 with ea_ en_ ec_;(first|subst ea_|(injection ea_ with ea_;subst ea_));subst ec_;clear en_))
  have GB8:=Aside0.mk gb8
  have GG8:=Aside0.mk HG8
  clear gb8 gl8 HG8
  have HMgo8:=Aside0.mk (show (P0_0_ go8∨w.heap.size≤go8) from (HO0_0.out.1 _ rfl).1)
  (first|simp only [add_plain] at hx272_0|skip)
  (first|simp only [add_plain] at hx272_1|skip)
  (first|simp only [add_plain] at hx272_2|skip)
  (first|simp only [add_plain] at hx274_0|skip)
  (first|simp only [add_plain] at hx274_1|skip)
  (first|simp only [add_plain] at hx274_2|skip)
  obtain ⟨ce8,hcl8,hM8,hcc8,hfr8⟩:=Kd.R_elem HO0_0.out z56 (a1:Int) p8 q8
  obtain rfl:=k56_openM hM8
  have hx8_0:World.cell? _ ⟨go8,(a1:Int).toNat * 3,none⟩=some (.int .i64 ((rd_T56 l0_0 a1).f0)):=hcc8 0 _ rfl
  have hx8_1:World.cell? _ ⟨go8,(a1:Int).toNat * 3 + 1,none⟩=some (.int .i64 ((rd_T56 l0_0 a1).f1)):=hcc8 1 _ rfl
  have hx8_2:World.cell? _ ⟨go8,(a1:Int).toNat * 3 + 2,none⟩=some (.int .i64 ((rd_T56 l0_0 a1).f2)):=hcc8 2 _ rfl
  have hf8_0:World.frozen? _ ⟨go8,(a1:Int).toNat * 3,none⟩=false:=hfr8 0
  have hf8_1:World.frozen? _ ⟨go8,(a1:Int).toNat * 3 + 1,none⟩=false:=hfr8 1
  have hf8_2:World.frozen? _ ⟨go8,(a1:Int).toNat * 3 + 2,none⟩=false:=hfr8 2
  clear hcl8 hcc8 hfr8 hM8
  replace p8:=eq_true p8
  replace q8:=eq_true q8
  obtain ⟨ce18,hcl18,hM18,hcc18,hfr18⟩:=Kd.R_elem HO0_0.out z56 (a1:Int) od (by have h_:(a1:Int) < ((l0_0.length:Int):Int):=od;first|exact h_|(have e_:=(Kd.R_reads' HO0_0.out).1;omega)|simpa using h_)
  obtain rfl:=k56_openM hM18
  have HP18:=(Kd.R_seg HO0_0.out (a1:Int) od (by have h_:(a1:Int) < ((l0_0.length:Int):Int):=od;first|exact h_|(have e_:=(Kd.R_reads' HO0_0.out).1;omega)|simpa using h_) (seg:=[.int .i64 ((rd_T56 l0_0 a2).f0),.int .i64 ((rd_T56 l0_0 a2).f1),.int .i64 ((rd_T56 l0_0 a2).f2)]) (j:=0) hcl18 hcc18 (show 3≤3 from by decide) (x':=(⟨(rd_T56 l0_0 a2).f0,(rd_T56 l0_0 a2).f1,(rd_T56 l0_0 a2).f2⟩:S56)) (k56_mkM _ _ _ (⟨(rd_T56 l0_0 a2).f0,(rd_T56 l0_0 a2).f1,(rd_T56 l0_0 a2).f2⟩:S56) ) (fun _ hk=>hk)).1
  rw [← Ny275.out] at HP18
  have HQ18:=Aside0.mk HP18
  clear hcl18 hcc18 hfr18 hM18 HP18
  refine start_ (n:=10) (S:=fun w'=>w'.cell? ⟨gb271,0,none⟩=some (.slice (some ⟨go8,0,none⟩) l0_0.length co10)∧w'.cell? ⟨gb271,1,none⟩=some (.int .i64 a0_1)∧w'.cell? ⟨go8,((a2).toNat * 3),none⟩=some (.int .i64 ((rd_T56 l0_0 a2).f0))∧w'.cell? ⟨go8,((a2).toNat * 3) + 1,none⟩=some (.int .i64 ((rd_T56 l0_0 a2).f1))∧w'.cell? ⟨go8,((a2).toNat * 3) + 2,none⟩=some (.int .i64 ((rd_T56 l0_0 a2).f2))) (ds:=[9]) (bs 10 0) (by kernel_rfl) rfl rfl ⟨bc BK271 0,bc BK271 1,hx274_0,hx274_1,hx274_2⟩ (fun hHeld=>?_);refine with_tabW impl_Heap_swap.tab2 impl_Heap_swap.bits2 (fun HT_ HW_=>?_)
  generalize w16.drew=w17 at HO0_0 BK271 BK273 HK HB GG8 HQ18 hf8_0 hf8_1 hf8_2 hx272_0 hx272_1 hx272_2 hx274_0 hx274_1 hx274_2 hx8_0 hx8_1 hx8_2 hHeld ⊢
  refine pq 0 12 (bs 10 1) HT_ ?_
  refine pq 2 14 (bs 10 5) HT_ ?_
  refine pq 3 15 (bs 10 13) HT_ ?_
  refine pq 5 17 (bs 10 45) HT_ ?_
  refine tq 1 13 (bs 10 47) HT_ HW_ hHeld ?_
  refine tq 4 16 (bs 10 63) HT_ HW_ hHeld ?_
  refine pq 6 18 (bs 10 127) HT_ ?_
  refine tq 7 19 (bs 10 255) HT_ HW_ hHeld ?_
  refine pq 8 20 (bs 10 511) HT_ ?_
  refine last_ (i:=9) (N:=none) (bs 10 1023) rfl rfl (one_of HT_.out (by kernel_rfl)) (by decide) (fun K hK=>?_)
  refine skip_ (w1:=?_) (by rfl) rfl ?_ ?_
  rotate_left
  ·go_simp
   rfl
  refine hK.out _ _ ?_
  clear hK K
  refine done_ (done_of HT_.out (by kernel_rfl)) ?_
  have n0_:Aside0 (Kd.R k56 56 (((w17.setCell ⟨go8,(a1:Int).toNat * 3,none⟩ (.int .i64 ((rd_T56 l0_0 a2).f0))).setCell ⟨go8,(a1:Int).toNat * 3 + 1,none⟩ (.int .i64 ((rd_T56 l0_0 a2).f1))).setCell ⟨go8,(a1:Int).toNat * 3 + 2,none⟩ (.int .i64 ((rd_T56 l0_0 a2).f2))) w0.heap.size (fun k_=>(P0_0_ k_∨w.heap.size≤k_)∧k_≠gb273) (.slice (some ⟨go8,0,none⟩) l0_0.length co10) y275):=⟨kr HQ18⟩
  have n1_:Aside0 ((((w17.setCell ⟨go8,(a1:Int).toNat * 3,none⟩ (.int .i64 ((rd_T56 l0_0 a2).f0))).setCell ⟨go8,(a1:Int).toNat * 3 + 1,none⟩ (.int .i64 ((rd_T56 l0_0 a2).f1))).setCell ⟨go8,(a1:Int).toNat * 3 + 2,none⟩ (.int .i64 ((rd_T56 l0_0 a2).f2))).heap[gb271]? = some (.cells #[.slice (some ⟨go8,0,none⟩) l0_0.length co10,.int .i64 a0_1] 28 (0,0))):=⟨by (with_reducible repeat (first|refine blk_drewN ?_ _|refine blk_drew ?_|refine blk_alloc ?_ _));refine blk_far ?_ (by have h_:=Kd.R_ne HO0_0.out BK271.out (by decide);intro e_;exact h_ (by rw [e_];rfl)) _;(with_reducible repeat (first|refine blk_drewN ?_ _|refine blk_drew ?_|refine blk_alloc ?_ _));refine blk_far ?_ (by have h_:=Kd.R_ne HO0_0.out BK271.out (by decide);intro e_;exact h_ (by rw [e_];rfl)) _;(with_reducible repeat (first|refine blk_drewN ?_ _|refine blk_drew ?_|refine blk_alloc ?_ _));refine blk_far ?_ (by have h_:=Kd.R_ne HO0_0.out BK271.out (by decide);intro e_;exact h_ (by rw [e_];rfl)) _;(with_reducible repeat (first|refine blk_drewN ?_ _|refine blk_drew ?_|refine blk_alloc ?_ _));exact BK271.out⟩
  have n2_:Aside0 ((((w17.setCell ⟨go8,(a1:Int).toNat * 3,none⟩ (.int .i64 ((rd_T56 l0_0 a2).f0))).setCell ⟨go8,(a1:Int).toNat * 3 + 1,none⟩ (.int .i64 ((rd_T56 l0_0 a2).f1))).setCell ⟨go8,(a1:Int).toNat * 3 + 2,none⟩ (.int .i64 ((rd_T56 l0_0 a2).f2))).heap[gb273]? = some (.cells #[.int .i64 ((rd_T56 l0_0 a1).f0),.int .i64 ((rd_T56 l0_0 a1).f1),.int .i64 ((rd_T56 l0_0 a1).f2)] 56 (0,0))):=⟨by (with_reducible repeat (first|refine blk_drewN ?_ _|refine blk_drew ?_|refine blk_alloc ?_ _));refine blk_far ?_ (by have h_:=Kd.R_away HO0_0.out (fun _ hk=>hk.2);intro e_;exact h_ (by rw [e_];rfl)) _;(with_reducible repeat (first|refine blk_drewN ?_ _|refine blk_drew ?_|refine blk_alloc ?_ _));refine blk_far ?_ (by have h_:=Kd.R_away HO0_0.out (fun _ hk=>hk.2);intro e_;exact h_ (by rw [e_];rfl)) _;(with_reducible repeat (first|refine blk_drewN ?_ _|refine blk_drew ?_|refine blk_alloc ?_ _));refine blk_far ?_ (by have h_:=Kd.R_away HO0_0.out (fun _ hk=>hk.2);intro e_;exact h_ (by rw [e_];rfl)) _;(with_reducible repeat (first|refine blk_drewN ?_ _|refine blk_drew ?_|refine blk_alloc ?_ _));exact BK273.out⟩
  have n3_:Aside0 (Kept w (((w17.setCell ⟨go8,(a1:Int).toNat * 3,none⟩ (.int .i64 ((rd_T56 l0_0 a2).f0))).setCell ⟨go8,(a1:Int).toNat * 3 + 1,none⟩ (.int .i64 ((rd_T56 l0_0 a2).f1))).setCell ⟨go8,(a1:Int).toNat * 3 + 2,none⟩ (.int .i64 ((rd_T56 l0_0 a2).f2))) (fun k_=>P0_0_ k_)):=⟨by repeat (first|(with_reducible first|exact HK.out|apply Kept.alloc|apply Kept.drewN|apply Kept.drew|refine Kept.setCell ?_ HMgo8.out _|refine Kept.setCell ?_ HMgo8.out _|refine Kept.setCell ?_ HMgo8.out _|refine Kept.setCell ?_ (.inr GW271.out) _|refine Kept.setCell ?_ (.inr GW273.out) _)|exact HK.out)⟩
  have n4_:Aside0 (Below w0.heap.size w0 (((w17.setCell ⟨go8,(a1:Int).toNat * 3,none⟩ (.int .i64 ((rd_T56 l0_0 a2).f0))).setCell ⟨go8,(a1:Int).toNat * 3 + 1,none⟩ (.int .i64 ((rd_T56 l0_0 a2).f1))).setCell ⟨go8,(a1:Int).toNat * 3 + 2,none⟩ (.int .i64 ((rd_T56 l0_0 a2).f2)))):=⟨by repeat (first|(with_reducible first|exact HB.out|apply below_alloc|apply pw_below_drewN|apply below_drew1|refine below_set ?_ GB8.out|refine below_set ?_ GB8.out|refine below_set ?_ GB8.out|refine below_set ?_ GE271.out|refine below_set ?_ GE273.out)|exact HB.out)⟩
  (try clear HO0_0)
  (try clear BK271)
  (try clear BK273)
  (try clear HK)
  (try clear HB)
  generalize (((w17.setCell ⟨go8,(a1:Int).toNat * 3,none⟩ (.int .i64 ((rd_T56 l0_0 a2).f0))).setCell ⟨go8,(a1:Int).toNat * 3 + 1,none⟩ (.int .i64 ((rd_T56 l0_0 a2).f1))).setCell ⟨go8,(a1:Int).toNat * 3 + 2,none⟩ (.int .i64 ((rd_T56 l0_0 a2).f2)))=w19 at n0_ n1_ n2_ n3_ n4_ ⊢
  have HO0_0:=n0_
  have BK271:=n1_
  have BK273:=n2_
  have HK:=n3_
  have HB:=n4_
  clear n0_ n1_ n2_ n3_ n4_
  obtain ⟨hcz20_0,hcz20_1,hfz20_0,hfz20_1⟩:=ck2 BK271.out
  obtain ⟨hcz21_0,hcz21_1,hcz21_2,hfz21_0,hfz21_1,hfz21_2⟩:=ck3 BK273.out
  have p9:0≤(a2:Int):=od
  have q9:(a2:Int) < ((l0_0.length:Int):Int):=od
  obtain ⟨ce9,hcl9,hM9,hcc9,hfr9⟩:=Kd.R_elem HO0_0.out z56 (a2:Int) p9 q9
  obtain rfl:=k56_openM hM9
  have hx9_0:w19.cell? ⟨go8,(a2:Int).toNat * 3,none⟩=some (.int .i64 ((rd_T56 y275 a2).f0)):=hcc9 0 _ rfl
  have hx9_1:w19.cell? ⟨go8,(a2:Int).toNat * 3 + 1,none⟩=some (.int .i64 ((rd_T56 y275 a2).f1)):=hcc9 1 _ rfl
  have hx9_2:w19.cell? ⟨go8,(a2:Int).toNat * 3 + 2,none⟩=some (.int .i64 ((rd_T56 y275 a2).f2)):=hcc9 2 _ rfl
  have hf9_0:w19.frozen? ⟨go8,(a2:Int).toNat * 3,none⟩=false:=hfr9 0
  have hf9_1:w19.frozen? ⟨go8,(a2:Int).toNat * 3 + 1,none⟩=false:=hfr9 1
  have hf9_2:w19.frozen? ⟨go8,(a2:Int).toNat * 3 + 2,none⟩=false:=hfr9 2
  clear hcl9 hcc9 hfr9 hM9
  replace p9:=eq_true p9
  replace q9:=eq_true q9
  have HX22:=Aside0.mk (show Kd.R k56 56 w19 w0.heap.size (fun k_=>(P0_0_ k_∨w.heap.size≤k_)∧k_≠gb273) (.slice (some ⟨go8,0,none⟩) l0_0.length co10) y275 from (kr HO0_0))
  obtain ⟨ce22,hcl22,hM22,hcc22,hfr22⟩:=Kd.R_elem HX22.out z56 (a2:Int) od (by have h_:(a2:Int) < ((l0_0.length:Int):Int):=od;first|exact h_|(have e_:=(Kd.R_reads' HO0_0.out).1;omega)|simpa using h_)
  obtain rfl:=k56_openM hM22
  have HP22:=Kd.R_seg HX22.out (a2:Int) od (by have h_:(a2:Int) < ((l0_0.length:Int):Int):=od;first|exact h_|(have e_:=(Kd.R_reads' HO0_0.out).1;omega)|simpa using h_) (seg:=[.int .i64 ((rd_T56 l0_0 a1).f0),.int .i64 ((rd_T56 l0_0 a1).f1),.int .i64 ((rd_T56 l0_0 a1).f2)]) (j:=0) hcl22 hcc22 (show 3≤3 from by decide) (x':=(⟨(rd_T56 l0_0 a1).f0,(rd_T56 l0_0 a1).f1,(rd_T56 l0_0 a1).f2⟩:S56)) (k56_mkM _ _ _ (⟨(rd_T56 l0_0 a1).f0,(rd_T56 l0_0 a1).f1,(rd_T56 l0_0 a1).f2⟩:S56) ) (fun _ hk=>hk)
  have hx22_0:=hcc22 0 _ rfl
  (try simp only [show (k56).sz=3 from rfl,Nat.mul_one,Nat.add_zero] at hx22_0)
  have hf22_0:=hfr22 0
  (try simp only [show (k56).sz=3 from rfl,Nat.mul_one,Nat.add_zero] at hf22_0)
  have hx22_1:=hcc22 1 _ rfl
  (try simp only [show (k56).sz=3 from rfl,Nat.mul_one,Nat.add_zero] at hx22_1)
  have hf22_1:=hfr22 1
  (try simp only [show (k56).sz=3 from rfl,Nat.mul_one,Nat.add_zero] at hf22_1)
  have hx22_2:=hcc22 2 _ rfl
  (try simp only [show (k56).sz=3 from rfl,Nat.mul_one,Nat.add_zero] at hx22_2)
  have hf22_2:=hfr22 2
  (try simp only [show (k56).sz=3 from rfl,Nat.mul_one,Nat.add_zero] at hf22_2)
  clear hcl22 hcc22 hfr22 hM22
  try go_wp2_with (first|((with_reducible refine gate_store (t:=56) (p:=25) rfl ?_);refine sx 56 25 (((w19.setCell ⟨go8,(a2:Int).toNat * 3,none⟩ (.int .i64 ((rd_T56 l0_0 a1).f0))).setCell ⟨go8,(a2:Int).toNat * 3 + 1,none⟩ (.int .i64 ((rd_T56 l0_0 a1).f1))).setCell ⟨go8,(a2:Int).toNat * 3 + 2,none⟩ (.int .i64 ((rd_T56 l0_0 a1).f2))) ?_;intro w23 hw;have hg:w19.grownBy w23 (some go8):=(by rw [hw];exact HP22.2);have hp_:Kd.R k56 56 w23 w0.heap.size (fun k_=>(P0_0_ k_∨w.heap.size≤k_)∧k_≠gb273) (.slice (some ⟨go8,0,none⟩) l0_0.length co10) y276:=(by rw [hw,Ny276.out];exact HP22.1);clear HP22;replace BK271:=Aside0.mk (blk_grown (bk BK271) hg (Kd.R_ne HO0_0.out BK271.out (by decide)));replace BK273:=Aside0.mk (blk_grown (bk BK273) hg (Kd.R_away HO0_0.out (fun _ hk=>hk.2)));replace HB:=Aside0.mk ((by rw [hw];exact below_set (below_set (below_set (HB.out) GB8.out) GB8.out) GB8.out:Below w0.heap.size w0 w23));replace HK:=Aside0.mk (Kept.of_grown (S:=(fun k_=>P0_0_ k_)) hg (by repeat (first|(with_reducible first|exact HK.out|apply Kept.alloc|apply Kept.drewN|apply Kept.drew|refine Kept.setCell ?_ (.inr GW271.out) _|refine Kept.setCell ?_ (.inr GW273.out) _)|exact HK.out)) (fun k_ e_=>(HO0_0.out.1 k_ e_).1));replace HO0_0:=Aside0.mk (hp_);clear hg hw hp_))
  first|go_end0|((try simp only [Exit.inBlock,Exit.then]);refine bodyPost_ret (results_none rfl _ _ _) rfl ?_)
  exact ⟨er,by (with_reducible repeat (first|apply Kd.R_alloc|apply Kd.R_drewN|apply Kd.R_drew));exact Kd.R_mono HO0_0.out (fun _ hk=>hk.1),bl,by repeat (first|(with_reducible first|exact HK.out|apply Kept.alloc|apply Kept.drewN|apply Kept.drew|refine Kept.setCell ?_ (.inr GW271.out) _|refine Kept.setCell ?_ (.inr GW273.out) _)|exact HK.out)⟩
 ·rw [if_neg c4] at H
  exact absurd H (by simp)

end Go.Proofs.Ytdffkcbaijbhoaa.PFnExactSchedule
