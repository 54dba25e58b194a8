/- Contracts of functions of the given program: what each call answers. Written by a program of this session, out of the text of the functions. -/
import Derived.Test.YtdffkcbaijbhoaaPFnExactSchedulex0
import Derived.Test.YtdffkcbaijbhoaaPFnExactSchedulex2
import Derived.Test.YtdffkcbaijbhoaaPrs
namespace Go.Proofs.Ytdffkcbaijbhoaa.PFnExactSchedule
open Go.RowKit Go.Proofs.YtdffkcbaijbhoaaW.PrintWords Go.Proofs.YtdffkcbaijbhoaaW.PrintLast Go.Proofs.YtdffkcbaijbhoaaW.PrintMore Go.Proofs.Ytdffkcbaijbhoaa.Giv Go.Proofs.Ytdffkcbaijbhoaa.Prs
attribute [local go_sem] max2_int min2_int max_two min_two max_three min_three max_four min_four   -- for this text's walks alone
set_option linter.unusedVariables false
set_option linter.unusedSimpArgs false

/-! ### spec_l03Up: function 41 -/
def spec_l03Up.l0:Nat→List (S56)→Int→Option ((List (S56)))
 | 0,_,_=>none
 | k + 1,x0,x1=>if x1 > 0 then (if 0≤x1 then (if x1 < (x0.length:Int) then (if 0≤(wrap64 (Int.tdiv (wrap64 (x1 - 1)) 2)) then (if (wrap64 (Int.tdiv (wrap64 (x1 - 1)) 2)) < (x0.length:Int) then ((spec_l03Before.f ((rd_T56 x0 x1).f0) ((rd_T56 x0 x1).f1) ((rd_T56 x0 x1).f2) ((rd_T56 x0 (wrap64 (Int.tdiv (wrap64 (x1 - 1)) 2))).f0) ((rd_T56 x0 (wrap64 (Int.tdiv (wrap64 (x1 - 1)) 2))).f1) ((rd_T56 x0 (wrap64 (Int.tdiv (wrap64 (x1 - 1)) 2))).f2)).bind fun t164=>(if t164=true then (spec_l03Up.l0 k ((x0.set (x1:Int).toNat (⟨(rd_T56 x0 (wrap64 (Int.tdiv (wrap64 (x1 - 1)) 2))).f0,(rd_T56 x0 (wrap64 (Int.tdiv (wrap64 (x1 - 1)) 2))).f1,(rd_T56 x0 (wrap64 (Int.tdiv (wrap64 (x1 - 1)) 2))).f2⟩:S56)).set ((wrap64 (Int.tdiv (wrap64 (x1 - 1)) 2)):Int).toNat (⟨(rd_T56 x0 x1).f0,(rd_T56 x0 x1).f1,(rd_T56 x0 x1).f2⟩:S56)) (wrap64 (Int.tdiv (wrap64 (x1 - 1)) 2))) else (some x0))) else (none)) else (none)) else (none)) else (none)) else (some x0)
def spec_l03Up.f (k:Nat) (l0:List (S56)) (a1:Int):Option ((List (S56))):=spec_l03Up.l0 k l0 a1
theorem spec_l03Up.mono_l:∀ k,(∀ y0 y1,LeO (spec_l03Up.l0 k y0 y1) (spec_l03Up.l0 (k + 1) y0 y1))
 | 0=>fun _ _ r h=>by simp [spec_l03Up.l0] at h
 | k + 1=>by
  have ih0:=spec_l03Up.mono_l k
  ·intro y0 y1
   unfold spec_l03Up.l0
   repeat' first
   | (with_reducible exact ih0 _ _)
   | (with_reducible exact LeO.refl _)
   | (with_reducible exact LeO.none _)
   | (with_reducible refine LeO.ite ?_ ?_)
   | (with_reducible refine LeO.bind ?_ (fun _=>?_))
   | exact ih0 _ _
   | exact LeO.none _
   | refine LeO.ite ?_ ?_
   | refine LeO.bind ?_ (fun _=>?_)
theorem spec_l03Up.mono:∀ a0 a1 k,LeO (spec_l03Up.f k a0 a1) (spec_l03Up.f (k + 1) a0 a1):=by
 intro a0 a1 k
 have ih0:=spec_l03Up.mono_l k
 unfold spec_l03Up.f
 repeat' first
   | (with_reducible exact ih0 _ _)
   | (with_reducible exact LeO.refl _)
   | (with_reducible exact LeO.none _)
   | (with_reducible refine LeO.ite ?_ ?_)
   | (with_reducible refine LeO.bind ?_ (fun _=>?_))
   | exact ih0 _ _
   | exact LeO.none _
   | refine LeO.ite ?_ ?_
   | refine LeO.bind ?_ (fun _=>?_)
def spec_l03Up.T0:Bool × List (List Nat × List Nat):=(true,[([],[]),([0],[0]),([1],[1]),([2],[2]),([2],[2]),([3,4,2],[2,3,4]),([5,2],[2,5]),([2],[2]),([2],[2]),([8,2],[2,8]),([9,2],[2,9]),([7,10,2],[2,7,10]),([11,2],[2,11]),([6,12,2,2],[2,6,12]),([2,13],[2,13])])
def spec_l03Up.B0:List Nat:=[0,1,3,7,7,31,63,7,7,263,775,1927,3975,8191,16383]
theorem spec_l03Up.tab0:rtab .any (opsOf Try.f41 0)=spec_l03Up.T0:=by kernel_rfl
theorem spec_l03Up.bits0:waitsOk spec_l03Up.T0.2 spec_l03Up.B0=true:=by kernel_rfl
set_option maxHeartbeats 8000000 in
set_option maxRecDepth 100000 in
theorem spec_l03Up.calls (k:Nat) (P0_:Nat→Prop) (u9000_:Value) (l0:List (S56)) (a1:Int) (r:List (S56)) (w0 w:World) (hB:Below w0.heap.size w0 w) (ho0:Kd.R k56 56 w w0.heap.size P0_ u9000_ l0) (h:spec_l03Up.f k l0 a1=some r) :
  Calls Try.prog 41 #[u9000_,.int .i64 a1] w fun e w'=>e = .returned (.tuple #[])∧Kd.R k56 56 w' w0.heap.size (fun k_=>(P0_ k_∨w.heap.size≤k_)) u9000_ r∧Below w0.heap.size w0 w'∧Kept w w' (fun k_=>P0_ k_):=by
 have hu56:=Try.underlying56
 have HO0:=Aside0.mk (show Kd.R k56 56 w w0.heap.size (fun k_=>(P0_ k_∨w.heap.size≤k_)) u9000_ l0 from Kd.R_mono ho0 (fun k_ hk=>(.inl hk)))
 have HK:=Aside0.mk (Kept.refl w (fun k_=>P0_ k_))
 have HW0:=Aside0.mk hB.size
 have HB:=Aside0.mk hB
 clear hB
 have H:(spec_l03Up.l0 k l0 a1)=some r:=h
 clear h
 have H':=Aside0.mk H
 clear H
 go_enter Try.func41,Try.ntmps41
 go_wp2
 go_loopg [1] k (fun kq v1 w'=>∃ (x0_1:List (S56)) (x1_1:Int),v1 = .int .i64 x1_1∧Aside0 (spec_l03Up.l0 kq x0_1 x1_1=some r)∧Aside0 (kq≤k)∧Aside0 (Kd.R k56 56 w' w0.heap.size (fun k_=>(P0_ k_∨w.heap.size≤k_)) u9000_ x0_1)∧Aside0 (Kept w w' (fun k_=>P0_ k_))∧Aside0 (Below w0.heap.size w0 w'))
 case atStart=>exact ⟨(l0),(a1),(by first|rfl|(simp;done)|(simp [*];done)),H',⟨Nat.le_refl _⟩,⟨kr HO0⟩,⟨by repeat (first|(with_reducible first|exact HK.out|apply Kept.alloc|apply Kept.drewN|apply Kept.drew)|exact HK.out)⟩,⟨bl⟩⟩
 case round =>
  clear H'
  try clear p2
  obtain ⟨x0_1,x1_1,rfl,HA,HK1,HO_0,HK,HB⟩:=hrel
  cases gk with
  | zero=>exact absurd HA.out (by simp [spec_l03Up.l0])
  | succ k1 =>
   have H:=HA.out
   clear HA
   simp only [spec_l03Up.l0] at H
   by_cases c3:x1_1 > 0
   ·rw [if_pos c3] at H
    have c3b0:decide (0 < x1_1)=true:=decide_eq_true c3
    clear c3
    by_cases c4:0≤x1_1
    case neg =>
     rw [if_neg c4] at H
     exact absurd H (by simp)
    rw [if_pos c4] at H
    have c4b0:decide (0≤x1_1)=true:=decide_eq_true c4
    clear c4
    by_cases c5:x1_1 < (x0_1.length:Int)
    case neg =>
     rw [if_neg c5] at H
     exact absurd H (by simp)
    rw [if_pos c5] at H
    have c5b0:decide (x1_1 < (x0_1.length:Int))=true:=decide_eq_true c5
    clear c5
    obtain ⟨ji6,hji6⟩:∃ j_:Int,(wrap64 (Int.tdiv (wrap64 (x1_1 - 1)) 2))=j_:=⟨_,rfl⟩
    first|rw [hji6] at H|simp only [hji6] at H
    have hji6w:(IntKind.i64.wrap (Int.tdiv (wrap64 (x1_1 - 1)) 2))=ji6:=(i64_w _).trans hji6
    by_cases c7:0≤(ji6)
    case neg =>
     rw [if_neg c7] at H
     exact absurd H (by simp)
    rw [if_pos c7] at H
    have c7b0:decide (0≤(ji6))=true:=decide_eq_true c7
    clear c7
    by_cases c8:(ji6) < (x0_1.length:Int)
    case neg =>
     rw [if_neg c8] at H
     exact absurd H (by simp)
    rw [if_pos c8] at H
    have c8b0:decide ((ji6) < (x0_1.length:Int))=true:=decide_eq_true c8
    clear c8
    replace H:=Option.bind_eq_some_iff.mp H
    obtain ⟨t164,A90,H⟩:=H
    have A9:=Aside0.mk A90
    clear A90
    by_cases c10:t164=true
    ·subst c10
     rw [if_pos rfl] at H
     obtain ⟨y168,hy168⟩:∃ y_:List (S56),y_=(x0_1.set (x1_1:Int).toNat (⟨(rd_T56 x0_1 (ji6)).f0,(rd_T56 x0_1 (ji6)).f1,(rd_T56 x0_1 (ji6)).f2⟩:S56)):=⟨_,rfl⟩
     replace H:(spec_l03Up.l0 k1 (y168.set ((ji6):Int).toNat (⟨(rd_T56 x0_1 x1_1).f0,(rd_T56 x0_1 x1_1).f1,(rd_T56 x0_1 x1_1).f2⟩:S56)) ji6)=some r:=by first|(rw [hy168];with_reducible exact H)|(have H2_:=(Option.bind_some _ _).symm.trans H;rw [hy168];with_reducible exact H2_)|(have H2_:=(Option.bind_some _ _).symm.trans H;with_reducible exact H2_)|with_reducible exact H|(rw [hy168];exact H)|exact H
     have Ny168:=Aside0.mk hy168
     clear hy168
     obtain ⟨y169,hy169⟩:∃ y_:List (S56),y_=(y168.set ((ji6):Int).toNat (⟨(rd_T56 x0_1 x1_1).f0,(rd_T56 x0_1 x1_1).f1,(rd_T56 x0_1 x1_1).f2⟩:S56)):=⟨_,rfl⟩
     replace H:(spec_l03Up.l0 k1 y169 ji6)=some r:=by first|(rw [hy169];with_reducible exact H)|(have H2_:=(Option.bind_some _ _).symm.trans H;rw [hy169];with_reducible exact H2_)|(have H2_:=(Option.bind_some _ _).symm.trans H;with_reducible exact H2_)|with_reducible exact H|(rw [hy169];exact H)|exact H
     have Ny169:=Aside0.mk hy169
     clear hy169
     have H':=Aside0.mk H
     clear H
     try go_wp2
     replace HO_0:=Aside0.mk (Kd.R_drew HO_0.out)
     replace HK:=Aside0.mk (Kept.drew HK.out)
     replace HB:=Aside0.mk (below_drew1 HB.out)
     obtain ⟨Ao14,co14,eo14⟩:=Kd.R_slice HO_0.out
     (first|subst eo14|(injection eo14 with f1_ f2_ f3_;have f4_:=f1_.symm;have f5_:=f3_.symm;clear f1_ f2_ f3_;subst f4_;subst f5_))
     have p162:0≤(x1_1:Int):=od
     have q162:x1_1 < (x0_1.length:Int):=od
     obtain ⟨ad162,e162,hx162_0,hx162_1,hx162_2⟩:=at_T56 (Kd.R_reads' HO_0.out).2.2 x1_1 p162 q162
     cases e162
     replace p162:=eq_true p162
     replace q162:=eq_true q162
     have p163:0≤((ji6):Int):=od
     have q163:(ji6) < (x0_1.length:Int):=od
     obtain ⟨ad163,e163,hx163_0,hx163_1,hx163_2⟩:=at_T56 (Kd.R_reads' HO_0.out).2.2 (ji6) p163 q163
     obtain rfl:ad162=ad163:=(by injection e163)
     replace p163:=eq_true p163
     replace q163:=eq_true q163
     refine start_ (n:=15) (S:=fun w'=>w'.cell? (ad162.add ((x1_1).toNat * 3))=some (.int .i64 ((rd_T56 x0_1 x1_1).f0))∧w'.cell? ⟨(ad162.add ((x1_1).toNat * 3)).block,(ad162.add ((x1_1).toNat * 3)).off + 1,none⟩=some (.int .i64 ((rd_T56 x0_1 x1_1).f1))∧w'.cell? ⟨(ad162.add ((x1_1).toNat * 3)).block,(ad162.add ((x1_1).toNat * 3)).off + 2,none⟩=some (.int .i64 ((rd_T56 x0_1 x1_1).f2))∧w'.cell? (ad162.add (((ji6)).toNat * 3))=some (.int .i64 ((rd_T56 x0_1 (ji6)).f0))∧w'.cell? ⟨(ad162.add (((ji6)).toNat * 3)).block,(ad162.add (((ji6)).toNat * 3)).off + 1,none⟩=some (.int .i64 ((rd_T56 x0_1 (ji6)).f1))∧w'.cell? ⟨(ad162.add (((ji6)).toNat * 3)).block,(ad162.add (((ji6)).toNat * 3)).off + 2,none⟩=some (.int .i64 ((rd_T56 x0_1 (ji6)).f2))) (ds:=[]) (bs 15 0) (by kernel_rfl) rfl rfl ⟨hx162_0,hx162_1,hx162_2,hx163_0,hx163_1,hx163_2⟩ (fun hHeld=>?_);refine with_tabW spec_l03Up.tab0 spec_l03Up.bits0 (fun HT_ HW_=>?_)
     generalize wr.drew=w13 at HO_0 HK HB hx162_0 hx162_1 hx162_2 hx163_0 hx163_1 hx163_2 hHeld ⊢
     refine pq 0 5 (bs 15 1) HT_ ?_
     refine pq 1 6 (bs 15 3) HT_ ?_
     refine pq 2 7 (bs 15 7) HT_ ?_
     refine pq 3 8 (bs 15 15) HT_ ?_
     refine pq 4 9 (bs 15 31) HT_ ?_
     refine pq 5 10 (bs 15 63) HT_ ?_
     refine pq 7 12 (bs 15 191) HT_ ?_
     refine pq 8 13 (bs 15 447) HT_ ?_
     refine pq 9 14 (bs 15 959) HT_ ?_
     refine pq 10 15 (bs 15 1983) HT_ ?_
     refine pq 11 16 (bs 15 4031) HT_ ?_
     refine tq 6 11 (bs 15 4095) HT_ HW_ hHeld ?_
     refine tq 12 17 (bs 15 8191) HT_ HW_ hHeld ?_
     refine one_ (i:=13) (N:=some 18) (bs 15 16383) rfl rfl (one_of HT_.out (by kernel_rfl)) (by decide) (fun K hK=>?_)
     refine goes_ Try.func68 (by kernel_rfl) rfl #[.agg #[.int .i64 ((rd_T56 x0_1 x1_1).f0),.int .i64 ((rd_T56 x0_1 x1_1).f1),.int .i64 ((rd_T56 x0_1 x1_1).f2)],.agg #[.int .i64 ((rd_T56 x0_1 (ji6)).f0),.int .i64 ((rd_T56 x0_1 (ji6)).f1),.int .i64 ((rd_T56 x0_1 (ji6)).f2)]] (by rfl) rfl rfl (by (try simp only [List.map_toArray,List.map_cons,List.map_nil]);first|done|(simp only [hji6];rfl)|rfl|(simp only [List.length_drop,List.length_take];rfl)) ?_
     with_reducible refine (spec_l03Before.calls ((rd_T56 x0_1 x1_1).f0) ((rd_T56 x0_1 x1_1).f1) ((rd_T56 x0_1 x1_1).f2) ((rd_T56 x0_1 (ji6)).f0) ((rd_T56 x0_1 (ji6)).f1) ((rd_T56 x0_1 (ji6)).f2) true _ A9.out).mono ?_
     rintro e w15 ⟨rfl,hb⟩
     have HS0_:=(hb.cell (World.block_lt_of_cell? _ _ (hHeld.1))).trans (hHeld.1)
     have HS1_:=(hb.cell (World.block_lt_of_cell? _ _ (hHeld.2.1))).trans (hHeld.2.1)
     have HS2_:=(hb.cell (World.block_lt_of_cell? _ _ (hHeld.2.2.1))).trans (hHeld.2.2.1)
     have HS3_:=(hb.cell (World.block_lt_of_cell? _ _ (hHeld.2.2.2.1))).trans (hHeld.2.2.2.1)
     have HS4_:=(hb.cell (World.block_lt_of_cell? _ _ (hHeld.2.2.2.2.1))).trans (hHeld.2.2.2.2.1)
     have HS5_:=(hb.cell (World.block_lt_of_cell? _ _ (hHeld.2.2.2.2.2))).trans (hHeld.2.2.2.2.2)
     refine ⟨_,rfl,?_⟩
     replace HO_0:=Aside0.mk (Kd.R_below (kr HO_0) hb)
     replace HK:=Aside0.mk (Kept.below (S:=(fun k_=>P0_ k_)) (by repeat (first|(with_reducible first|exact HK.out|apply Kept.alloc|apply Kept.drewN|apply Kept.drew)|exact HK.out)) hb)
     replace HB:=Aside0.mk (below_step bl hb)
     (try clear hb)
     (try clear hb2)
     (try clear hk)
     (try clear hi)
     refine hK.out _ _ ⟨HS0_,HS1_,HS2_,HS3_,HS4_,HS5_⟩ (fun hHeld=>?_)
     clear hK K
     refine nrm ?_
     refine pq 14 19 (bs 15 32767) HT_ ?_
     refine done_ (done_of HT_.out (by kernel_rfl)) ?_
     have p165:0≤(x1_1:Int):=od
     have q165:x1_1 < (x0_1.length:Int):=od
     obtain ⟨ad165,e165,hx165_0,hx165_1,hx165_2⟩:=at_T56 (Kd.R_reads' HO_0.out).2.2 x1_1 p165 q165
     obtain rfl:ad162=ad165:=(by injection e165)
     replace p165:=eq_true p165
     replace q165:=eq_true q165
     try go_wp2_with (first|((with_reducible refine gate_dst (N:=4) rfl ?_);refine bx 4 #[.int .i64 0,.int .i64 0,.int .i64 0] 56 ?_;intro gb166 hg w16 hbox hb;replace HO_0:=Aside0.mk (Kd.R_below (Kd.R_elderB (kr HO_0) gb166 (Nat.le_of_eq hg.symm)) hb);have BK166:=Aside0.mk (hbox);have GW166:=Aside0.mk ((by rw [hg];exact (by first|exact HK.out.1|exact (show Kept w _ (fun k_=>P0_ k_) from by repeat (first|(with_reducible first|exact HK.out|apply Kept.alloc|apply Kept.drewN|apply Kept.drew)|exact HK.out)).1):w.heap.size≤gb166));replace HK:=Aside0.mk (Kept.below (S:=(fun k_=>P0_ k_)) (by repeat (first|(with_reducible first|exact HK.out|apply Kept.alloc|apply Kept.drewN|apply Kept.drew)|exact HK.out)) hb);have GE166:=Aside0.mk (bz hg:w0.heap.size≤gb166);replace HB:=Aside0.mk (below_step bl hb);clear hb hbox hg;obtain ⟨hcz17_0,hcz17_1,hcz17_2,hfz17_0,hfz17_1,hfz17_2⟩:=ck3 BK166.out)|((with_reducible refine gate_store (t:=56) (p:=4) rfl ?_);refine sx 56 4 (((w16.setCell ⟨gb166,0,none⟩ (.int .i64 ((rd_T56 x0_1 x1_1).f0))).setCell ⟨gb166,1,none⟩ (.int .i64 ((rd_T56 x0_1 x1_1).f1))).setCell ⟨gb166,2,none⟩ (.int .i64 ((rd_T56 x0_1 x1_1).f2))) ?_;intro w18 hw;have n0_:Aside0 (Kd.R k56 56 w18 w0.heap.size (fun k_=>(P0_ k_∨w.heap.size≤k_)∧k_≠gb166) (.slice (some ad162) x0_1.length co14) x0_1):=⟨(by rw [hw];exact (by (with_reducible repeat (first|apply Kd.R_alloc|apply Kd.R_drewN|apply Kd.R_drew));exact Kd.R_mono (Kd.R_far (p:=⟨gb166,2,none⟩) (Kd.R_far (p:=⟨gb166,1,none⟩) (Kd.R_far (p:=⟨gb166,0,none⟩) (Kd.R_mono HO_0.out (fun k_ hk=>(⟨hk,hk.2⟩:_∧k_≠gb166))) (fun _ hk=>hk.2) (.int .i64 ((rd_T56 x0_1 x1_1).f0))) (fun _ hk=>hk.2) (.int .i64 ((rd_T56 x0_1 x1_1).f1))) (fun _ hk=>hk.2) (.int .i64 ((rd_T56 x0_1 x1_1).f2))) (fun _ hk=>⟨hk.1.1,hk.1.2⟩)))⟩;have n1_:Aside0 (w18.heap[gb166]? = some (.cells #[.int .i64 ((rd_T56 x0_1 x1_1).f0),.int .i64 ((rd_T56 x0_1 x1_1).f1),.int .i64 ((rd_T56 x0_1 x1_1).f2)] 56 (0,0))):=⟨(by rw [hw];exact (by (with_reducible repeat (first|refine blk_drewN ?_ _|refine blk_drew ?_|refine blk_alloc ?_ _));refine blk_put (cs:=#[.int .i64 ((rd_T56 x0_1 x1_1).f0),.int .i64 ((rd_T56 x0_1 x1_1).f1),.int .i64 0]) ?_ 2 _ rfl;(with_reducible repeat (first|refine blk_drewN ?_ _|refine blk_drew ?_|refine blk_alloc ?_ _));refine blk_put (cs:=#[.int .i64 ((rd_T56 x0_1 x1_1).f0),.int .i64 0,.int .i64 0]) ?_ 1 _ rfl;(with_reducible repeat (first|refine blk_drewN ?_ _|refine blk_drew ?_|refine blk_alloc ?_ _));refine blk_put (cs:=#[.int .i64 0,.int .i64 0,.int .i64 0]) ?_ 0 _ rfl;(with_reducible repeat (first|refine blk_drewN ?_ _|refine blk_drew ?_|refine blk_alloc ?_ _));exact BK166.out))⟩;have n2_:Aside0 (Kept w w18 (fun k_=>P0_ k_)):=⟨(by rw [hw];exact (by repeat (first|(with_reducible first|exact HK.out|apply Kept.alloc|apply Kept.drewN|apply Kept.drew|refine Kept.setCell ?_ (.inr GW166.out) _)|exact HK.out)))⟩;have n3_:Aside0 (Below w0.heap.size w0 w18):=⟨(by rw [hw];exact bl)⟩;clear hw;clear HO_0;clear BK166;clear HK;clear HB;have HO_0:=n0_;have BK166:=n1_;have HK:=n2_;have HB:=n3_;clear n0_ n1_ n2_ n3_;have p167:0≤((ji6):Int):=od;have q167:(ji6) < (x0_1.length:Int):=od;obtain ⟨ad167,e167,hx167_0,hx167_1,hx167_2⟩:=at_T56 (Kd.R_reads' HO_0.out).2.2 (ji6) p167 q167;obtain rfl:ad162=ad167:=(by injection e167);replace p167:=eq_true p167;replace q167:=eq_true q167;have p11:0≤(x1_1:Int):=od;have q11:(x1_1:Int) < ((x0_1.length:Int):Int):=od;obtain ⟨go11,co11,eo11,gb11,gl11,cl11,HG11⟩:=Kd.R_form HO_0.out (by omega);(first|cases eo11|(injection eo11 with ea_ en_ ec_;(first|subst ea_|(injection ea_ with ea_;subst ea_));subst ec_;clear en_));have GB11:=Aside0.mk gb11;have GG11:=Aside0.mk HG11;clear gb11 gl11 HG11;have HMgo11:=Aside0.mk (show (P0_ go11∨w.heap.size≤go11) from (HO_0.out.1 _ rfl).1);(first|simp only [add_plain] at hx162_0|skip);(first|simp only [add_plain] at hx162_1|skip);(first|simp only [add_plain] at hx162_2|skip);(first|simp only [add_plain] at hx163_0|skip);(first|simp only [add_plain] at hx163_1|skip);(first|simp only [add_plain] at hx163_2|skip);(first|simp only [add_plain] at hx165_0|skip);(first|simp only [add_plain] at hx165_1|skip);(first|simp only [add_plain] at hx165_2|skip);(first|simp only [add_plain] at hx167_0|skip);(first|simp only [add_plain] at hx167_1|skip);(first|simp only [add_plain] at hx167_2|skip);obtain ⟨ce11,hcl11,hM11,hcc11,hfr11⟩:=Kd.R_elem HO_0.out z56 (x1_1:Int) p11 q11;obtain rfl:=k56_openM hM11;have hx11_0:w18.cell? ⟨go11,(x1_1:Int).toNat * 3,none⟩=some (.int .i64 ((rd_T56 x0_1 x1_1).f0)):=hcc11 0 _ rfl;have hx11_1:w18.cell? ⟨go11,(x1_1:Int).toNat * 3 + 1,none⟩=some (.int .i64 ((rd_T56 x0_1 x1_1).f1)):=hcc11 1 _ rfl;have hx11_2:w18.cell? ⟨go11,(x1_1:Int).toNat * 3 + 2,none⟩=some (.int .i64 ((rd_T56 x0_1 x1_1).f2)):=hcc11 2 _ rfl;have hf11_0:w18.frozen? ⟨go11,(x1_1:Int).toNat * 3,none⟩=false:=hfr11 0;have hf11_1:w18.frozen? ⟨go11,(x1_1:Int).toNat * 3 + 1,none⟩=false:=hfr11 1;have hf11_2:w18.frozen? ⟨go11,(x1_1:Int).toNat * 3 + 2,none⟩=false:=hfr11 2;clear hcl11 hcc11 hfr11 hM11;replace p11:=eq_true p11;replace q11:=eq_true q11;have HX19:=Aside0.mk (show Kd.R k56 56 w18 w0.heap.size (fun k_=>(P0_ k_∨w.heap.size≤k_)∧k_≠gb166) (.slice (some ⟨go11,0,none⟩) x0_1.length co14) x0_1 from (kr HO_0));obtain ⟨ce19,hcl19,hM19,hcc19,hfr19⟩:=Kd.R_elem HX19.out z56 (x1_1:Int) od (by have h_:(x1_1:Int) < ((x0_1.length:Int):Int):=od;first|exact h_|(have e_:=(Kd.R_reads' HO_0.out).1;omega)|simpa using h_);obtain rfl:=k56_openM hM19;have HP19:=Kd.R_seg HX19.out (x1_1:Int) od (by have h_:(x1_1:Int) < ((x0_1.length:Int):Int):=od;first|exact h_|(have e_:=(Kd.R_reads' HO_0.out).1;omega)|simpa using h_) (seg:=[.int .i64 ((rd_T56 x0_1 (ji6)).f0),.int .i64 ((rd_T56 x0_1 (ji6)).f1),.int .i64 ((rd_T56 x0_1 (ji6)).f2)]) (j:=0) hcl19 hcc19 (show 3≤3 from by decide) (x':=(⟨(rd_T56 x0_1 (ji6)).f0,(rd_T56 x0_1 (ji6)).f1,(rd_T56 x0_1 (ji6)).f2⟩:S56)) (k56_mkM _ _ _ (⟨(rd_T56 x0_1 (ji6)).f0,(rd_T56 x0_1 (ji6)).f1,(rd_T56 x0_1 (ji6)).f2⟩:S56) ) (fun _ hk=>hk);have hx19_0:=hcc19 0 _ rfl;(try simp only [show (k56).sz=3 from rfl,Nat.mul_one,Nat.add_zero] at hx19_0);have hf19_0:=hfr19 0;(try simp only [show (k56).sz=3 from rfl,Nat.mul_one,Nat.add_zero] at hf19_0);have hx19_1:=hcc19 1 _ rfl;(try simp only [show (k56).sz=3 from rfl,Nat.mul_one,Nat.add_zero] at hx19_1);have hf19_1:=hfr19 1;(try simp only [show (k56).sz=3 from rfl,Nat.mul_one,Nat.add_zero] at hf19_1);have hx19_2:=hcc19 2 _ rfl;(try simp only [show (k56).sz=3 from rfl,Nat.mul_one,Nat.add_zero] at hx19_2);have hf19_2:=hfr19 2;(try simp only [show (k56).sz=3 from rfl,Nat.mul_one,Nat.add_zero] at hf19_2);clear hcl19 hcc19 hfr19 hM19)|((with_reducible refine gate_store (t:=56) (p:=32) rfl ?_);refine sx 56 32 (((w18.setCell ⟨go11,(x1_1:Int).toNat * 3,none⟩ (.int .i64 ((rd_T56 x0_1 (ji6)).f0))).setCell ⟨go11,(x1_1:Int).toNat * 3 + 1,none⟩ (.int .i64 ((rd_T56 x0_1 (ji6)).f1))).setCell ⟨go11,(x1_1:Int).toNat * 3 + 2,none⟩ (.int .i64 ((rd_T56 x0_1 (ji6)).f2))) ?_;intro w20 hw;have hg:w18.grownBy w20 (some go11):=(by rw [hw];exact HP19.2);have hp_:Kd.R k56 56 w20 w0.heap.size (fun k_=>(P0_ k_∨w.heap.size≤k_)∧k_≠gb166) (.slice (some ⟨go11,0,none⟩) x0_1.length co14) y168:=(by rw [hw,Ny168.out];exact HP19.1);clear HP19;replace BK166:=Aside0.mk (blk_grown (bk BK166) hg (Kd.R_away HO_0.out (fun _ hk=>hk.2)));replace HB:=Aside0.mk ((by rw [hw];exact below_set (below_set (below_set (HB.out) GB11.out) GB11.out) GB11.out:Below w0.heap.size w0 w20));replace HK:=Aside0.mk (Kept.of_grown (S:=(fun k_=>P0_ k_)) hg (by repeat (first|(with_reducible first|exact HK.out|apply Kept.alloc|apply Kept.drewN|apply Kept.drew|refine Kept.setCell ?_ (.inr GW166.out) _)|exact HK.out)) (fun k_ e_=>(HO_0.out.1 k_ e_).1));replace HO_0:=Aside0.mk (hp_);clear hg hw hp_;obtain ⟨hcz21_0,hcz21_1,hcz21_2,hfz21_0,hfz21_1,hfz21_2⟩:=ck3 BK166.out;have p12:0≤((ji6):Int):=od;have q12:((ji6):Int) < ((x0_1.length:Int):Int):=od;obtain ⟨ce12,hcl12,hM12,hcc12,hfr12⟩:=Kd.R_elem HO_0.out z56 ((ji6):Int) p12 q12;obtain rfl:=k56_openM hM12;have hx12_0:w20.cell? ⟨go11,((ji6):Int).toNat * 3,none⟩=some (.int .i64 ((rd_T56 y168 (ji6)).f0)):=hcc12 0 _ rfl;have hx12_1:w20.cell? ⟨go11,((ji6):Int).toNat * 3 + 1,none⟩=some (.int .i64 ((rd_T56 y168 (ji6)).f1)):=hcc12 1 _ rfl;have hx12_2:w20.cell? ⟨go11,((ji6):Int).toNat * 3 + 2,none⟩=some (.int .i64 ((rd_T56 y168 (ji6)).f2)):=hcc12 2 _ rfl;have hf12_0:w20.frozen? ⟨go11,((ji6):Int).toNat * 3,none⟩=false:=hfr12 0;have hf12_1:w20.frozen? ⟨go11,((ji6):Int).toNat * 3 + 1,none⟩=false:=hfr12 1;have hf12_2:w20.frozen? ⟨go11,((ji6):Int).toNat * 3 + 2,none⟩=false:=hfr12 2;clear hcl12 hcc12 hfr12 hM12;replace p12:=eq_true p12;replace q12:=eq_true q12;have HX22:=Aside0.mk (show Kd.R k56 56 w20 w0.heap.size (fun k_=>(P0_ k_∨w.heap.size≤k_)∧k_≠gb166) (.slice (some ⟨go11,0,none⟩) x0_1.length co14) y168 from (kr HO_0));obtain ⟨ce22,hcl22,hM22,hcc22,hfr22⟩:=Kd.R_elem HX22.out z56 ((ji6):Int) od (by have h_:((ji6):Int) < ((x0_1.length:Int):Int):=od;first|exact h_|(have e_:=(Kd.R_reads' HO_0.out).1;omega)|simpa using h_);obtain rfl:=k56_openM hM22;have HP22:=Kd.R_seg HX22.out ((ji6):Int) od (by have h_:((ji6):Int) < ((x0_1.length:Int):Int):=od;first|exact h_|(have e_:=(Kd.R_reads' HO_0.out).1;omega)|simpa using h_) (seg:=[.int .i64 ((rd_T56 x0_1 x1_1).f0),.int .i64 ((rd_T56 x0_1 x1_1).f1),.int .i64 ((rd_T56 x0_1 x1_1).f2)]) (j:=0) hcl22 hcc22 (show 3≤3 from by decide) (x':=(⟨(rd_T56 x0_1 x1_1).f0,(rd_T56 x0_1 x1_1).f1,(rd_T56 x0_1 x1_1).f2⟩:S56)) (k56_mkM _ _ _ (⟨(rd_T56 x0_1 x1_1).f0,(rd_T56 x0_1 x1_1).f1,(rd_T56 x0_1 x1_1).f2⟩:S56) ) (fun _ hk=>hk);have hx22_0:=hcc22 0 _ rfl;(try simp only [show (k56).sz=3 from rfl,Nat.mul_one,Nat.add_zero] at hx22_0);have hf22_0:=hfr22 0;(try simp only [show (k56).sz=3 from rfl,Nat.mul_one,Nat.add_zero] at hf22_0);have hx22_1:=hcc22 1 _ rfl;(try simp only [show (k56).sz=3 from rfl,Nat.mul_one,Nat.add_zero] at hx22_1);have hf22_1:=hfr22 1;(try simp only [show (k56).sz=3 from rfl,Nat.mul_one,Nat.add_zero] at hf22_1);have hx22_2:=hcc22 2 _ rfl;(try simp only [show (k56).sz=3 from rfl,Nat.mul_one,Nat.add_zero] at hx22_2);have hf22_2:=hfr22 2;(try simp only [show (k56).sz=3 from rfl,Nat.mul_one,Nat.add_zero] at hf22_2);clear hcl22 hcc22 hfr22 hM22)|((with_reducible refine gate_store (t:=56) (p:=38) rfl ?_);refine sx 56 38 (((w20.setCell ⟨go11,((ji6):Int).toNat * 3,none⟩ (.int .i64 ((rd_T56 x0_1 x1_1).f0))).setCell ⟨go11,((ji6):Int).toNat * 3 + 1,none⟩ (.int .i64 ((rd_T56 x0_1 x1_1).f1))).setCell ⟨go11,((ji6):Int).toNat * 3 + 2,none⟩ (.int .i64 ((rd_T56 x0_1 x1_1).f2))) ?_;intro w23 hw;have hg:w20.grownBy w23 (some go11):=(by rw [hw];exact HP22.2);have hp_:Kd.R k56 56 w23 w0.heap.size (fun k_=>(P0_ k_∨w.heap.size≤k_)∧k_≠gb166) (.slice (some ⟨go11,0,none⟩) x0_1.length co14) y169:=(by rw [hw,Ny169.out];exact HP22.1);clear HP22;replace BK166:=Aside0.mk (blk_grown (bk BK166) hg (Kd.R_away HO_0.out (fun _ hk=>hk.2)));replace HB:=Aside0.mk ((by rw [hw];exact below_set (below_set (below_set (HB.out) GB11.out) GB11.out) GB11.out:Below w0.heap.size w0 w23));replace HK:=Aside0.mk (Kept.of_grown (S:=(fun k_=>P0_ k_)) hg (by repeat (first|(with_reducible first|exact HK.out|apply Kept.alloc|apply Kept.drewN|apply Kept.drew|refine Kept.setCell ?_ (.inr GW166.out) _)|exact HK.out)) (fun k_ e_=>(HO_0.out.1 k_ e_).1));replace HO_0:=Aside0.mk (hp_);clear hg hw hp_))
     go_roundg k1
     case measure=>have:=HK1.out;omega
     case rel=>exact ⟨(y169),(ji6),(by first|rfl|(simp;done)|(simp only [← hji6] <;> (first|rfl|simp))|(simp [*];done)),H',⟨by have:=HK1.out;omega⟩,⟨by (with_reducible repeat (first|apply Kd.R_alloc|apply Kd.R_drewN|apply Kd.R_drew));exact Kd.R_mono HO_0.out (fun _ hk=>hk.1)⟩,⟨by repeat (first|(with_reducible first|exact HK.out|apply Kept.alloc|apply Kept.drewN|apply Kept.drew|refine Kept.setCell ?_ (.inr GW166.out) _)|exact HK.out)⟩,⟨bl⟩⟩
    ·replace c10:=Bool.eq_false_iff.mpr c10
     subst c10
     rw [if_neg nft] at H
     obtain rfl:=Option.some.inj H
     try go_wp2
     replace HO_0:=Aside0.mk (Kd.R_drew HO_0.out)
     replace HK:=Aside0.mk (Kept.drew HK.out)
     replace HB:=Aside0.mk (below_drew1 HB.out)
     obtain ⟨Ao25,co25,eo25⟩:=Kd.R_slice HO_0.out
     (first|subst eo25|(injection eo25 with f1_ f2_ f3_;have f4_:=f1_.symm;have f5_:=f3_.symm;clear f1_ f2_ f3_;subst f4_;subst f5_))
     have p162:0≤(x1_1:Int):=od
     have q162:x1_1 < (x0_1.length:Int):=od
     obtain ⟨ad162,e162,hx162_0,hx162_1,hx162_2⟩:=at_T56 (Kd.R_reads' HO_0.out).2.2 x1_1 p162 q162
     cases e162
     replace p162:=eq_true p162
     replace q162:=eq_true q162
     have p163:0≤((ji6):Int):=od
     have q163:(ji6) < (x0_1.length:Int):=od
     obtain ⟨ad163,e163,hx163_0,hx163_1,hx163_2⟩:=at_T56 (Kd.R_reads' HO_0.out).2.2 (ji6) p163 q163
     obtain rfl:ad162=ad163:=(by injection e163)
     replace p163:=eq_true p163
     replace q163:=eq_true q163
     refine start_ (n:=15) (S:=fun w'=>w'.cell? (ad162.add ((x1_1).toNat * 3))=some (.int .i64 ((rd_T56 x0_1 x1_1).f0))∧w'.cell? ⟨(ad162.add ((x1_1).toNat * 3)).block,(ad162.add ((x1_1).toNat * 3)).off + 1,none⟩=some (.int .i64 ((rd_T56 x0_1 x1_1).f1))∧w'.cell? ⟨(ad162.add ((x1_1).toNat * 3)).block,(ad162.add ((x1_1).toNat * 3)).off + 2,none⟩=some (.int .i64 ((rd_T56 x0_1 x1_1).f2))∧w'.cell? (ad162.add (((ji6)).toNat * 3))=some (.int .i64 ((rd_T56 x0_1 (ji6)).f0))∧w'.cell? ⟨(ad162.add (((ji6)).toNat * 3)).block,(ad162.add (((ji6)).toNat * 3)).off + 1,none⟩=some (.int .i64 ((rd_T56 x0_1 (ji6)).f1))∧w'.cell? ⟨(ad162.add (((ji6)).toNat * 3)).block,(ad162.add (((ji6)).toNat * 3)).off + 2,none⟩=some (.int .i64 ((rd_T56 x0_1 (ji6)).f2))) (ds:=[]) (bs 15 0) (by kernel_rfl) rfl rfl ⟨hx162_0,hx162_1,hx162_2,hx163_0,hx163_1,hx163_2⟩ (fun hHeld=>?_);refine with_tabW spec_l03Up.tab0 spec_l03Up.bits0 (fun HT_ HW_=>?_)
     generalize wr.drew=w24 at HO_0 HK HB hx162_0 hx162_1 hx162_2 hx163_0 hx163_1 hx163_2 hHeld ⊢
     refine pq 0 5 (bs 15 1) HT_ ?_
     refine pq 1 6 (bs 15 3) HT_ ?_
     refine pq 2 7 (bs 15 7) HT_ ?_
     refine pq 3 8 (bs 15 15) HT_ ?_
     refine pq 4 9 (bs 15 31) HT_ ?_
     refine pq 5 10 (bs 15 63) HT_ ?_
     refine pq 7 12 (bs 15 191) HT_ ?_
     refine pq 8 13 (bs 15 447) HT_ ?_
     refine pq 9 14 (bs 15 959) HT_ ?_
     refine pq 10 15 (bs 15 1983) HT_ ?_
     refine pq 11 16 (bs 15 4031) HT_ ?_
     refine tq 6 11 (bs 15 4095) HT_ HW_ hHeld ?_
     refine tq 12 17 (bs 15 8191) HT_ HW_ hHeld ?_
     refine one_ (i:=13) (N:=some 18) (bs 15 16383) rfl rfl (one_of HT_.out (by kernel_rfl)) (by decide) (fun K hK=>?_)
     refine goes_ Try.func68 (by kernel_rfl) rfl #[.agg #[.int .i64 ((rd_T56 x0_1 x1_1).f0),.int .i64 ((rd_T56 x0_1 x1_1).f1),.int .i64 ((rd_T56 x0_1 x1_1).f2)],.agg #[.int .i64 ((rd_T56 x0_1 (ji6)).f0),.int .i64 ((rd_T56 x0_1 (ji6)).f1),.int .i64 ((rd_T56 x0_1 (ji6)).f2)]] (by rfl) rfl rfl (by (try simp only [List.map_toArray,List.map_cons,List.map_nil]);first|done|(simp only [hji6];rfl)|rfl|(simp only [List.length_drop,List.length_take];rfl)) ?_
     with_reducible refine (spec_l03Before.calls ((rd_T56 x0_1 x1_1).f0) ((rd_T56 x0_1 x1_1).f1) ((rd_T56 x0_1 x1_1).f2) ((rd_T56 x0_1 (ji6)).f0) ((rd_T56 x0_1 (ji6)).f1) ((rd_T56 x0_1 (ji6)).f2) false _ A9.out).mono ?_
     rintro e w26 ⟨rfl,hb⟩
     have HS0_:=(hb.cell (World.block_lt_of_cell? _ _ (hHeld.1))).trans (hHeld.1)
     have HS1_:=(hb.cell (World.block_lt_of_cell? _ _ (hHeld.2.1))).trans (hHeld.2.1)
     have HS2_:=(hb.cell (World.block_lt_of_cell? _ _ (hHeld.2.2.1))).trans (hHeld.2.2.1)
     have HS3_:=(hb.cell (World.block_lt_of_cell? _ _ (hHeld.2.2.2.1))).trans (hHeld.2.2.2.1)
     have HS4_:=(hb.cell (World.block_lt_of_cell? _ _ (hHeld.2.2.2.2.1))).trans (hHeld.2.2.2.2.1)
     have HS5_:=(hb.cell (World.block_lt_of_cell? _ _ (hHeld.2.2.2.2.2))).trans (hHeld.2.2.2.2.2)
     refine ⟨_,rfl,?_⟩
     replace HO_0:=Aside0.mk (Kd.R_below (kr HO_0) hb)
     replace HK:=Aside0.mk (Kept.below (S:=(fun k_=>P0_ k_)) (by repeat (first|(with_reducible first|exact HK.out|apply Kept.alloc|apply Kept.drewN|apply Kept.drew)|exact HK.out)) hb)
     replace HB:=Aside0.mk (below_step bl hb)
     (try clear hb)
     (try clear hb2)
     (try clear hk)
     (try clear hi)
     refine hK.out _ _ ⟨HS0_,HS1_,HS2_,HS3_,HS4_,HS5_⟩ (fun hHeld=>?_)
     clear hK K
     refine nrm ?_
     refine pq 14 19 (bs 15 32767) HT_ ?_
     refine done_ (done_of HT_.out (by kernel_rfl)) ?_
     try go_wp2
     first|go_end0|((try simp only [Exit.inBlock,Exit.then]);refine bodyPost_ret (results_none rfl _ _ _) rfl ?_)
     exact ⟨by first|rfl|(simp [errW_none,errW_some] <;> rfl)|(simp only [← hji6];first|rfl|(simp [errW_none,errW_some] <;> rfl))|(simp [*,errW_none,errW_some] <;> rfl),kr HO_0,bl,by repeat (first|(with_reducible first|exact HK.out|apply Kept.alloc|apply Kept.drewN|apply Kept.drew)|exact HK.out)⟩
   ·rw [if_neg c3] at H
    have c3b0:decide (0 < x1_1)=false:=decide_eq_false c3
    clear c3
    obtain rfl:=Option.some.inj H
    try go_wp2
    replace HO_0:=Aside0.mk (Kd.R_drew HO_0.out)
    replace HK:=Aside0.mk (Kept.drew HK.out)
    replace HB:=Aside0.mk (below_drew1 HB.out)
    refine start_ (n:=15) (S:=fun w'=>True) (ds:=[]) (bs 15 0) (by kernel_rfl) rfl rfl trivial (fun hHeld=>?_);refine with_tabW spec_l03Up.tab0 spec_l03Up.bits0 (fun HT_ HW_=>?_)
    generalize wr.drew=w27 at HO_0 HK HB hHeld ⊢
    refine pq 0 5 (bs 15 1) HT_ ?_
    refine pq 1 6 (bs 15 3) HT_ ?_
    refine pq 2 7 (bs 15 7) HT_ ?_
    refine uq 3 8 (bs 15 15) HT_ ?_
    refine uq 4 9 (bs 15 31) HT_ ?_
    refine uq 5 10 (bs 15 63) HT_ ?_
    refine uq 6 11 (bs 15 127) HT_ ?_
    refine uq 7 12 (bs 15 255) HT_ ?_
    refine uq 8 13 (bs 15 511) HT_ ?_
    refine uq 9 14 (bs 15 1023) HT_ ?_
    refine uq 10 15 (bs 15 2047) HT_ ?_
    refine uq 11 16 (bs 15 4095) HT_ ?_
    refine uq 12 17 (bs 15 8191) HT_ ?_
    refine uq 13 18 (bs 15 16383) HT_ ?_
    refine pq 14 19 (bs 15 32767) HT_ ?_
    refine done_ (done_of HT_.out (by kernel_rfl)) ?_
    try go_wp2
    first|go_end0|((try simp only [Exit.inBlock,Exit.then]);refine bodyPost_ret (results_none rfl _ _ _) rfl ?_)
    exact ⟨er,kr HO_0,bl,by repeat (first|(with_reducible first|exact HK.out|apply Kept.alloc|apply Kept.drewN|apply Kept.drew)|exact HK.out)⟩

end Go.Proofs.Ytdffkcbaijbhoaa.PFnExactSchedule
