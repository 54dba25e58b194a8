/- Contracts of functions of the given program: what each call answers. Written by a program of this session, out of the text of the functions. -/
import Derived.Test.YtdffkcbaijbhoaaPFnExactCancelDuex0
import Derived.Test.YtdffkcbaijbhoaaPFnExactCancelDuex6
import Derived.Test.YtdffkcbaijbhoaaPFnExactCancelDuex8
import Derived.Test.YtdffkcbaijbhoaaPFnExactCancelDuex10
import Derived.Test.YtdffkcbaijbhoaaPFnExactCancelDuex11
import Derived.Test.YtdffkcbaijbhoaaPrs
namespace Go.Proofs.Ytdffkcbaijbhoaa.PFnExactCancelDue
open Go.RowKit Go.Proofs.YtdffkcbaijbhoaaW.PrintWords Go.Proofs.YtdffkcbaijbhoaaW.PrintLast Go.Proofs.YtdffkcbaijbhoaaW.PrintMore Go.Proofs.Ytdffkcbaijbhoaa.Giv Go.Proofs.Ytdffkcbaijbhoaa.Prs
attribute [local go_sem] max2_int min2_int max_two min_two max_three min_three max_four min_four   -- for this text's walks alone
set_option linter.unusedVariables false
set_option linter.unusedSimpArgs false

/-! ### impl_Heap_remove: function 47 -/
def impl_Heap_remove.f (k:Nat) (l:List S56) (q:Int) (a1:Int):Option (List S56):=if 0≤a1 then (if a1 < (l.length:Int) then (if a1 < (l.length:Int) - 1 then ((impl_Heap_up.f k ((l.set a1.toNat (rd_T56 l ((l.length:Int) - 1))).take (l.length - 1)) q a1).bind fun t=>impl_Heap_down.f k t q a1) else some ((l.set a1.toNat (rd_T56 l ((l.length:Int) - 1))).take (l.length - 1))) else none) else none
theorem impl_Heap_remove.mono:∀ a0 a1 a2 k,LeO (impl_Heap_remove.f k a0 a1 a2) (impl_Heap_remove.f (k + 1) a0 a1 a2):=by
 intro a0 a1 a2 k
 unfold impl_Heap_remove.f
 exact LeO.ite (LeO.ite (LeO.ite (LeO.bind (impl_Heap_up.mono _ _ _ _) (fun _=>impl_Heap_down.mono _ _ _ _)) (LeO.refl _)) (LeO.refl _)) (LeO.refl _)
set_option maxHeartbeats 8000000 in
set_option maxRecDepth 100000 in
theorem impl_Heap_remove.calls (k:Nat) (u:Value) (l:List S56) (q a1:Int) (r:List S56) (g:Nat) (w0 w:World) (hB:Below w0.heap.size w0 w) (hge:w0.heap.size≤g) (hb:w.heap[g]? = some (.cells #[u,.int .i64 q] 28 (0,0))) (ho:Kd.R k56 56 w w0.heap.size (fun _=>True) u l) (h:impl_Heap_remove.f k l q a1=some r) :
  Calls Try.prog 47 #[.pointer (some ⟨g,0,none⟩),.int .i64 a1] w fun e w'=>e = .returned (.tuple #[])∧∃ v',Kd.R k56 56 w' w0.heap.size (fun _=>True) v' r∧w'.heap[g]? = some (.cells #[v',.int .i64 q] 28 (0,0))∧Below w0.heap.size w0 w'∧Kept w w' (fun k_=>some k_=u.ownBlock∨k_=g):=by
 have hu28:=Try.underlying28
 have hu56:=Try.underlying56
 unfold impl_Heap_remove.f at h
 by_cases c0:0≤a1
 ·by_cases c1:a1 < (l.length:Int)
  ·rw [if_pos c0,if_pos c1] at h
   obtain ⟨go,co,rfl,gb,gl,cl,hG⟩:=Kd.R_form ho (by omega)
   have hlen:l.length≤9223372036854775807:=(Kd.R_reads' ho).2.2.2.1
   have hco:l.length≤co:=(Kd.R_reads' ho).2.1
   have hne:g≠go:=by have h_:=Kd.R_ne ho hb (by decide);intro e_;exact h_ (by rw [e_];rfl)
   obtain ⟨la,hla⟩:∃ la:Int,la=(l.length:Int) - 1:=⟨_,rfl⟩
   rw [← hla] at h
   have hw1:wrap64 ((l.length:Int) - 1)=la:=by unfold wrap64;omega
   have hw2:IntKind.i64.wrap ((l.length:Int) - 1)=la:=(i64_w _).trans hw1
   have l0:0≤la:=by omega
   have l1:la < (l.length:Int):=by omega
   have l2:la.toNat=l.length - 1:=by omega
   have l3:la≤(co:Int):=by omega
   rw [← l2] at h
   have HO:=Aside0.mk (Kd.R_drew ho)
   have BK:=Aside0.mk (blk_drew hb)
   have HB:=Aside0.mk (below_drew1 hB)
   obtain ⟨S,hS⟩:∃ S:Nat→Prop,S=(fun k_=>some k_=(Value.slice (some ⟨go,0,none⟩) l.length co).ownBlock∨k_=g):=⟨_,rfl⟩
   rw [← hS]
   have Sgo:Aside0 (S go):=⟨by rw [hS];exact .inl rfl⟩
   have Sg:Aside0 (S g):=⟨by rw [hS];exact .inr rfl⟩
   clear hS
   have HK:=Aside0.mk (Kept.drew (Kept.refl w S))
   have HH:=Aside0.mk h
   have NE:=Aside0.mk hne
   have GB:=Aside0.mk gb
   have GE:=Aside0.mk hge
   have L0:=Aside0.mk l0
   have L1:=Aside0.mk l1
   have L2:=Aside0.mk l2
   have A0:=Aside0.mk c0
   have A1:=Aside0.mk c1
   have HL:=Aside0.mk hlen
   have HLA:=Aside0.mk hla
   have HC:=Aside0.mk hco
   have hcz0:w.cell? ⟨g,0,none⟩=some (.slice (some ⟨go,0,none⟩) l.length co):=(blk_cell hb 0).trans rfl
   have hcz1:w.cell? ⟨g,1,none⟩=some (.int .i64 q):=(blk_cell hb 1).trans rfl
   have hfz0:=blk_frozen hb 0
   have hfz1:=blk_frozen hb 1
   have c0b:decide (0≤a1)=true:=decide_eq_true c0
   have c1b:decide (a1 < (l.length:Int))=true:=decide_eq_true c1
   have l0b:decide (0≤la)=true:=decide_eq_true l0
   have l1b:decide (la < (l.length:Int))=true:=decide_eq_true l1
   have l3b:decide (la≤(co:Int))=true:=decide_eq_true l3
   replace c0:=eq_true c0
   replace c1:=eq_true c1
   replace l0:=eq_true l0
   replace l1:=eq_true l1
   replace l3:=eq_true l3
   clear hla l2 h hB hge hlen hco hne gb gl hG cl
   go_enter Try.func47,Try.ntmps47
   go_wp2
   obtain ⟨ce,hcl,hM,hcc,hfr⟩:=Kd.R_elem HO.out z56 a1 A0.out A1.out
   obtain rfl:=k56_openM hM
   have hx0:World.cell? _ ⟨go,a1.toNat * 3,none⟩=some (.int .i64 ((rd_T56 l a1).f0)):=hcc 0 _ rfl
   have hx1:World.cell? _ ⟨go,a1.toNat * 3 + 1,none⟩=some (.int .i64 ((rd_T56 l a1).f1)):=hcc 1 _ rfl
   have hx2:World.cell? _ ⟨go,a1.toNat * 3 + 2,none⟩=some (.int .i64 ((rd_T56 l a1).f2)):=hcc 2 _ rfl
   have hf0:World.frozen? _ ⟨go,a1.toNat * 3,none⟩=false:=hfr 0
   have hf1:World.frozen? _ ⟨go,a1.toNat * 3 + 1,none⟩=false:=hfr 1
   have hf2:World.frozen? _ ⟨go,a1.toNat * 3 + 2,none⟩=false:=hfr 2
   obtain ⟨ce',hcl',hM',hcc',hfr'⟩:=Kd.R_elem HO.out z56 la L0.out L1.out
   obtain rfl:=k56_openM hM'
   have hy0:World.cell? _ ⟨go,la.toNat * 3,none⟩=some (.int .i64 ((rd_T56 l la).f0)):=hcc' 0 _ rfl
   have hy1:World.cell? _ ⟨go,la.toNat * 3 + 1,none⟩=some (.int .i64 ((rd_T56 l la).f1)):=hcc' 1 _ rfl
   have hy2:World.cell? _ ⟨go,la.toNat * 3 + 2,none⟩=some (.int .i64 ((rd_T56 l la).f2)):=hcc' 2 _ rfl
   have HQ:=Aside0.mk (Kd.R_seg HO.out a1 A0.out A1.out (seg:=[.int .i64 ((rd_T56 l la).f0),.int .i64 ((rd_T56 l la).f1),.int .i64 ((rd_T56 l la).f2)]) (j:=0) hcl hcc (show 3≤3 from by decide) (x':=rd_T56 l la) (k56_mkM _ _ _ (rd_T56 l la)) (fun _ hk=>hk)).1
   clear hcl hM hcc hfr hcl' hM' hcc' hfr' hcz0 hcz1 hfz0 hfz1
   refine start_ (n:=14) (S:=fun w'=>w'.cell? ⟨g,0,none⟩=some (.slice (some ⟨go,0,none⟩) l.length co)∧w'.cell? ⟨g,1,none⟩=some (.int .i64 q)∧w'.cell? ⟨go,la.toNat * 3,none⟩=some (.int .i64 ((rd_T56 l la).f0))∧w'.cell? ⟨go,la.toNat * 3 + 1,none⟩=some (.int .i64 ((rd_T56 l la).f1))∧w'.cell? ⟨go,la.toNat * 3 + 2,none⟩=some (.int .i64 ((rd_T56 l la).f2))) (ds:=[13]) (bs 14 0) (by kernel_rfl) rfl rfl ⟨bc BK 0,bc BK 1,hy0,hy1,hy2⟩ (fun hHeld=>?_)
   generalize w.drew=w1 at HO BK HB HK HQ hx0 hx1 hx2 hf0 hf1 hf2 hy0 hy1 hy2 hHeld ⊢
   refine pk 0 11 (bs 14 1) ?_
   refine pk 1 12 (bs 14 3) ?_
   refine pk 2 13 (bs 14 7) ?_
   refine tk 3 14 (bs 14 15) hHeld ?_
   refine pk 4 15 (bs 14 31) ?_
   refine pk 5 16 (bs 14 63) ?_
   refine pk 6 17 (bs 14 127) ?_
   refine pk 7 18 (bs 14 255) ?_
   refine tk 8 19 (bs 14 511) hHeld ?_
   refine pk 9 20 (bs 14 1023) ?_
   refine pk 10 21 (bs 14 2047) ?_
   refine tk 11 22 (bs 14 4095) hHeld ?_
   refine pk 12 23 (bs 14 8191) ?_
   refine last_ (i:=13) (N:=none) (bs 14 16383) rfl rfl (by kernel_rfl) (by decide) (fun K hK=>?_)
   refine skip_ (w1:=?_) (by rfl) rfl ?_ ?_
   rotate_left
   ·go_simp
    rfl
   refine hK.out _ _ ?_
   clear hK K
   refine done_ (by kernel_rfl) ?_
   have n0_:Aside0 (Kd.R k56 56 (((w1.setCell ⟨go,a1.toNat * 3,none⟩ (.int .i64 ((rd_T56 l la).f0))).setCell ⟨go,a1.toNat * 3 + 1,none⟩ (.int .i64 ((rd_T56 l la).f1))).setCell ⟨go,a1.toNat * 3 + 2,none⟩ (.int .i64 ((rd_T56 l la).f2))) w0.heap.size (fun _=>True) (.slice (some ⟨go,0,none⟩) l.length co) (l.set a1.toNat (rd_T56 l la))):=⟨HQ.out⟩
   have n1_:Aside0 ((((w1.setCell ⟨go,a1.toNat * 3,none⟩ (.int .i64 ((rd_T56 l la).f0))).setCell ⟨go,a1.toNat * 3 + 1,none⟩ (.int .i64 ((rd_T56 l la).f1))).setCell ⟨go,a1.toNat * 3 + 2,none⟩ (.int .i64 ((rd_T56 l la).f2))).heap[g]? = some (.cells #[.slice (some ⟨go,0,none⟩) l.length co,.int .i64 q] 28 (0,0))):=⟨blk_far (blk_far (blk_far BK.out NE.out _) NE.out _) NE.out _⟩
   have n2_:Aside0 (Kept w (((w1.setCell ⟨go,a1.toNat * 3,none⟩ (.int .i64 ((rd_T56 l la).f0))).setCell ⟨go,a1.toNat * 3 + 1,none⟩ (.int .i64 ((rd_T56 l la).f1))).setCell ⟨go,a1.toNat * 3 + 2,none⟩ (.int .i64 ((rd_T56 l la).f2))) S):=⟨Kept.setCell (Kept.setCell (Kept.setCell HK.out (.inl Sgo.out) _) (.inl Sgo.out) _) (.inl Sgo.out) _⟩
   have n3_:Aside0 (Below w0.heap.size w0 (((w1.setCell ⟨go,a1.toNat * 3,none⟩ (.int .i64 ((rd_T56 l la).f0))).setCell ⟨go,a1.toNat * 3 + 1,none⟩ (.int .i64 ((rd_T56 l la).f1))).setCell ⟨go,a1.toNat * 3 + 2,none⟩ (.int .i64 ((rd_T56 l la).f2)))):=⟨below_set (below_set (below_set HB.out GB.out) GB.out) GB.out⟩
   clear HO BK HK HB HQ hx0 hx1 hx2 hf0 hf1 hf2 hy0 hy1 hy2 hHeld
   generalize (((w1.setCell ⟨go,a1.toNat * 3,none⟩ (.int .i64 ((rd_T56 l la).f0))).setCell ⟨go,a1.toNat * 3 + 1,none⟩ (.int .i64 ((rd_T56 l la).f1))).setCell ⟨go,a1.toNat * 3 + 2,none⟩ (.int .i64 ((rd_T56 l la).f2)))=w2 at n0_ n1_ n2_ n3_ ⊢
   obtain ⟨hcz0,hcz1,hfz0,hfz1⟩:=ck2 n1_.out
   generalize l.set a1.toNat (rd_T56 l la)=l' at n0_ HH
   obtain ⟨v',hv'⟩:∃ v':Value,v' = .slice (some ⟨go,0,none⟩) la.toNat co:=⟨_,rfl⟩
   have OW:Aside0 (v'.ownBlock=some go):=⟨by rw [hv'];rfl⟩
   have HR3:Aside0 (Kd.R k56 56 (w2.setCell ⟨g,0,none⟩ v') w0.heap.size (fun k_=>some k_=v'.ownBlock) v' (l'.take la.toNat)):=by
    have h1:Kd.R k56 56 w2 w0.heap.size (fun k_=>some k_=v'.ownBlock) v' (l'.take la.toNat):=by
     rw [hv'];exact Kd.R_tight rfl (Kd.R_take n0_.out (by have:=(Kd.R_reads' n0_.out).1;have:=L1.out;have:=L0.out;omega))
    exact ⟨Kd.R_far (p:=⟨g,0,none⟩) h1 (fun k_ hk_ e_=>NE.out (by have h2:some k_=some go:=hk_.trans OW.out;injection h2 with h2;rw [← h2];exact e_.symm)) v'⟩
   have BK3:Aside0 ((w2.setCell ⟨g,0,none⟩ v').heap[g]? = some (.cells #[v',.int .i64 q] 28 (0,0))):=⟨blk_put n1_.out 0 v' rfl⟩
   have HK3:Aside0 (Kept w (w2.setCell ⟨g,0,none⟩ v') S):=⟨Kept.setCell n2_.out (.inl Sg.out) _⟩
   have HB3:Aside0 (Below w0.heap.size w0 (w2.setCell ⟨g,0,none⟩ v')):=⟨below_set n3_.out GE.out⟩
   have NG:Aside0 (¬ some g=v'.ownBlock):=⟨fun e_=>NE.out (by have h2:some g=some go:=e_.trans OW.out;injection h2)⟩
   have SG:Aside0 (∀ k_,some k_=v'.ownBlock→S k_∨w.heap.size≤k_):=⟨fun k_ e_=>.inl (by have h2:some k_=some go:=e_.trans OW.out;injection h2 with h2;rw [h2];exact Sgo.out)⟩
   clear n0_ n1_ n2_ n3_ OW Sg Sgo
   have HV:=Aside0.mk hv'
   clear hv'
   by_cases c2:a1 < la
   ·have c2b:decide (a1 < la)=true:=decide_eq_true c2
    have H:=HH.out
    rw [if_pos c2] at H
    obtain ⟨t,ht,hd⟩:=Option.bind_eq_some_iff.mp H
    have HT:=Aside0.mk ht
    have HD:=Aside0.mk hd
    clear H ht hd HH c2
    go_wp2_with fail
    rw [← HV.out]
    refine (impl_Heap_up.calls k (fun k_=>some k_=v'.ownBlock) v' (l'.take la.toNat) q a1 t w0 _ HB3.out HR3.out HT.out).mono ?_
    rintro e w4 ⟨rfl,hy,hb4,hk4⟩
    have HR4:=Aside0.mk (Kd.R_tight (d:=k56) rfl hy)
    have BK4:=Aside0.mk (blk_kept BK3.out hk4 NG.out)
    have HK4:=Aside0.mk (Kept.then_ HK3.out hk4 SG.out)
    have HB4:=Aside0.mk hb4
    clear hy hb4 hk4 HR3 BK3 HK3 HB3 hcz0 hcz1 hfz0 hfz1
    obtain ⟨hcz0,hcz1,hfz0,hfz1⟩:=ck2 BK4.out
    go_wp2_with fail
    refine (impl_Heap_down.calls k (fun k_=>some k_=v'.ownBlock) v' t q a1 r w0 _ HB4.out HR4.out HD.out).mono ?_
    rintro e w5 ⟨rfl,hy,hb5,hk5⟩
    have HR5:=Aside0.mk hy
    have BK5:=Aside0.mk (blk_kept BK4.out hk5 NG.out)
    have HK5:=Aside0.mk (Kept.then_ HK4.out hk5 SG.out)
    have HB5:=Aside0.mk hb5
    clear hy hb5 hk5
    go_wp2
    first|go_end0|((try simp only [Exit.inBlock,Exit.then]);refine bodyPost_ret (results_none rfl _ _ _) rfl ?_)
    exact ⟨rfl,v',Kd.R_mono HR5.out (fun _ _=>trivial),BK5.out,HB5.out,HK5.out⟩
   ·have c2b:decide (a1 < la)=false:=decide_eq_false c2
    have H:=HH.out
    rw [if_neg c2] at H
    obtain rfl:=Option.some.inj H
    clear HH H c2
    go_wp2
    first|go_end0|((try simp only [Exit.inBlock,Exit.then]);refine bodyPost_ret (results_none rfl _ _ _) rfl ?_)
    rw [← HV.out]
    exact ⟨rfl,v',Kd.R_mono HR3.out (fun _ _=>trivial),BK3.out,HB3.out,HK3.out⟩
  ·rw [if_pos c0,if_neg c1] at h;cases h
 ·rw [if_neg c0] at h;cases h

/-! ### impl_CancelDue: function 12 -/
def impl_CancelDue.f (k:Nat) (l0_0:List (S56)) (a0_1:Int) (a1:Int):Option ((List (S56)) × Int × Bool):=(impl_ownHeap.f l0_0 a0_1).bind fun b=>((impl_Heap_place.f l0_0 a0_1 a1).bind fun p=>((impl_HeapOk.f k l0_0 a0_1).bind fun t=>(if t=true then (if p < 0 then (some (b.1,b.2,false)) else ((impl_Heap_remove.f k b.1 b.2 p).bind fun z=>(some (z,b.2,true)))) else (some (b.1,b.2,false)))))
theorem impl_CancelDue.mono:∀ a0 a1 a2 k,LeO (impl_CancelDue.f k a0 a1 a2) (impl_CancelDue.f (k + 1) a0 a1 a2):=by
 intro a0 a1 a2 k
 unfold impl_CancelDue.f
 refine LeO.bind (LeO.refl _) (fun _=>LeO.bind (LeO.refl _) (fun _=>LeO.bind (impl_HeapOk.mono _ _ _) (fun _=>LeO.ite (LeO.ite (LeO.refl _) (LeO.bind (impl_Heap_remove.mono _ _ _ _) (fun _=>LeO.refl _))) (LeO.refl _))))
set_option maxHeartbeats 8000000 in
set_option maxRecDepth 100000 in
theorem impl_CancelDue.calls (k:Nat) (A0_0:Option Addr) (c0_0:Nat) (l0_0:List (S56)) (a0_1:Int) (a1:Int) (r1:List (S56)) (r2:Int) (r3:Bool) (w:World) (hr0_0:Kd.C k56 w A0_0 l0_0.length l0_0) (hc0_0:l0_0.length≤c0_0) (h:impl_CancelDue.f k l0_0 a0_1 a1=some (r1,r2,r3)) :
  Calls Try.prog 12 #[.agg #[.slice A0_0 l0_0.length c0_0,.int .i64 a0_1],.int .i64 a1] w fun e w'=>∃ v0_:Value,e = .returned (.tuple #[.agg #[v0_,.int .i64 r2],.bool r3])∧Kd.R k56 56 w' w.heap.size (fun _=>True) v0_ r1∧Below w.heap.size w w':=by
 have hu1:=Try.underlying28
 have hu2:=Try.underlying56
 unfold impl_CancelDue.f at h
 obtain ⟨⟨yy,q⟩,hown,h⟩:=Option.bind_eq_some_iff.mp h
 obtain ⟨p,hpl,h⟩:=Option.bind_eq_some_iff.mp h
 obtain ⟨t,hok,h⟩:=Option.bind_eq_some_iff.mp h
 have HR:=Aside0.mk hr0_0
 have HC:=Aside0.mk hc0_0
 have A1:=Aside0.mk hown
 have A2:=Aside0.mk hpl
 have A3:=Aside0.mk hok
 have HB:=Aside0.mk (Below.refl w.heap.size w)
 clear hr0_0 hc0_0 hown hpl hok
 cases t with
 | false =>
  simp only [Bool.false_eq_true,if_false] at h
  obtain ⟨rfl,rfl,rfl⟩:yy=r1∧q=r2∧false=r3:=by have h2:=Option.some.inj h;injection h2 with h3 h4;injection h4 with h5 h6;exact ⟨h3,h5,h6⟩
  clear h
  go_enter Try.func12,Try.ntmps12
  go_wp2_with (first|((with_reducible refine gate_dst (N:=2) rfl ?_);refine bx 2 #[.slice A0_0 l0_0.length c0_0,.int .i64 a0_1] 28 ?_;intro gba hg w1 hbox hb;have GEa:=Aside0.mk (bz hg:w.heap.size≤gba);replace HB:=Aside0.mk (below_step bl hb);have BKa:=Aside0.mk hbox;clear hb hbox hg;obtain ⟨za_0,za_1,fa_0,fa_1⟩:=ck2 BKa.out)|((with_reducible refine gate_dst (N:=4) rfl ?_);refine bx 4 #[.slice none 0 0,.int .i64 0] 28 ?_;intro gbb hg w2 hbox hb;have GEb:=Aside0.mk (bz hg:w.heap.size≤gbb);have NBa_b:=Aside0.mk (nl hg BKa:gba≠gbb);have NBb_a:=Aside0.mk (nr hg BKa:gbb≠gba);replace BKa:=Aside0.mk (blk_below (bk BKa) hb);replace HB:=Aside0.mk (below_step bl hb);have BKb:=Aside0.mk hbox;clear hb hbox hg;(try clear za_0);(try clear za_1);(try clear fa_0);(try clear fa_1);obtain ⟨za_0,za_1,fa_0,fa_1⟩:=ck2 BKa.out;obtain ⟨zb_0,zb_1,fb_0,fb_1⟩:=ck2 BKb.out)|((with_reducible refine gate_callee (f:=44) rfl ?_);refine gl _ Try.func44 #[.agg #[.slice A0_0 l0_0.length c0_0,.int .i64 a0_1]] ?_;(with_reducible refine (impl_ownHeap.calls A0_0 c0_0 l0_0 a0_1 yy q _ ?s1 ?s2 A1.out).mono ?_);(case s1=>exact kc HR);(case s2=>exact HC.out);rintro e w3 ⟨v0,rfl,ho,hb⟩;refine ⟨_,rfl,?_⟩;obtain ⟨Ao,co,rfl⟩:=Kd.R_slice ho;have HO:=Aside0.mk (Kd.R_lower ho (below_size bl));clear ho;replace BKa:=Aside0.mk (blk_below (bk BKa) hb);replace BKb:=Aside0.mk (blk_below (bk BKb) hb);replace HB:=Aside0.mk (below_step bl hb);(try clear hb);(try clear za_0);(try clear za_1);(try clear fa_0);(try clear fa_1);(try clear zb_0);(try clear zb_1);(try clear fb_0);(try clear fb_1);obtain ⟨za_0,za_1,fa_0,fa_1⟩:=ck2 BKa.out;obtain ⟨zb_0,zb_1,fb_0,fb_1⟩:=ck2 BKb.out)|((with_reducible refine gate_dst (N:=6) rfl ?_);refine bx 6 #[.slice none 0 0,.int .i64 0] 28 ?_;intro gbc hg w4 hbox hb;have GEc:=Aside0.mk (bz hg:w.heap.size≤gbc);have NBa_c:=Aside0.mk (nl hg BKa:gba≠gbc);have NBc_a:=Aside0.mk (nr hg BKa:gbc≠gba);have NBb_c:=Aside0.mk (nl hg BKb:gbb≠gbc);have NBc_b:=Aside0.mk (nr hg BKb:gbc≠gbb);replace BKa:=Aside0.mk (blk_below (bk BKa) hb);replace BKb:=Aside0.mk (blk_below (bk BKb) hb);replace HO:=Aside0.mk (Kd.R_below (kr HO) hb);replace HB:=Aside0.mk (below_step bl hb);have BKc:=Aside0.mk hbox;clear hb hbox hg;(try clear za_0);(try clear za_1);(try clear fa_0);(try clear fa_1);(try clear zb_0);(try clear zb_1);(try clear fb_0);(try clear fb_1);obtain ⟨za_0,za_1,fa_0,fa_1⟩:=ck2 BKa.out;obtain ⟨zb_0,zb_1,fb_0,fb_1⟩:=ck2 BKb.out;obtain ⟨zc_0,zc_1,fc_0,fc_1⟩:=ck2 BKc.out)|((with_reducible refine gate_store (t:=28) (p:=6) rfl ?_);refine sx 28 6 ((w4.setCell ⟨gbc,0,none⟩ (.slice Ao yy.length co)).setCell ⟨gbc,1,none⟩ (.int .i64 q)) ?_;intro w5 hw;replace HO:Aside0 (Kd.R k56 56 w5 w.heap.size (fun _=>True) (.slice Ao yy.length co) yy):=⟨by rw [hw];exact Kd.R_mono (Kd.R_far (p:=⟨gbc,1,none⟩) (Kd.R_far (p:=⟨gbc,0,none⟩) (Kd.R_types HO.out BKc.out (by decide)) (fun _ hk=>hk.2) _) (fun _ hk=>hk.2) _) (fun _ _=>trivial)⟩;replace BKa:Aside0 (w5.heap[gba]? = some (.cells #[.slice A0_0 l0_0.length c0_0,.int .i64 a0_1] 28 (0,0))):=⟨by rw [hw];exact (blk_far (blk_far BKa.out NBa_c.out _) NBa_c.out _)⟩;replace BKb:Aside0 (w5.heap[gbb]? = some (.cells #[.slice none 0 0,.int .i64 0] 28 (0,0))):=⟨by rw [hw];exact (blk_far (blk_far BKb.out NBb_c.out _) NBb_c.out _)⟩;replace BKc:Aside0 (w5.heap[gbc]? = some (.cells #[.slice Ao yy.length co,.int .i64 q] 28 (0,0))):=⟨by rw [hw];exact (blk_put (blk_put BKc.out 0 _ rfl) 1 _ rfl)⟩;replace HB:Aside0 (Below w.heap.size w w5):=⟨by rw [hw];exact (below_set (below_set HB.out GEc.out) GEc.out)⟩;clear hw;(try clear za_0);(try clear za_1);(try clear fa_0);(try clear fa_1);(try clear zb_0);(try clear zb_1);(try clear fb_0);(try clear fb_1);(try clear zc_0);(try clear zc_1);(try clear fc_0);(try clear fc_1);obtain ⟨za_0,za_1,fa_0,fa_1⟩:=ck2 BKa.out;obtain ⟨zb_0,zb_1,fb_0,fb_1⟩:=ck2 BKb.out;obtain ⟨zc_0,zc_1,fc_0,fc_1⟩:=ck2 BKc.out)|((with_reducible refine gate_callee (f:=45) rfl ?_);refine gl _ Try.func45 #[.agg #[.slice A0_0 l0_0.length c0_0,.int .i64 a0_1],.int .i64 a1] ?_;(with_reducible refine (impl_Heap_place.calls A0_0 c0_0 l0_0 a0_1 a1 p _ ?s1 ?s2 A2.out).mono ?_);(case s1=>exact kc HR);(case s2=>exact HC.out);rintro e w6 ⟨rfl,hb⟩;refine ⟨_,rfl,?_⟩;replace BKa:=Aside0.mk (blk_below (bk BKa) hb);replace BKb:=Aside0.mk (blk_below (bk BKb) hb);replace BKc:=Aside0.mk (blk_below (bk BKc) hb);replace HO:=Aside0.mk (Kd.R_below (kr HO) hb);replace HB:=Aside0.mk (below_step bl hb);(try clear hb);(try clear za_0);(try clear za_1);(try clear fa_0);(try clear fa_1);(try clear zb_0);(try clear zb_1);(try clear fb_0);(try clear fb_1);(try clear zc_0);(try clear zc_1);(try clear fc_0);(try clear fc_1);obtain ⟨za_0,za_1,fa_0,fa_1⟩:=ck2 BKa.out;obtain ⟨zb_0,zb_1,fb_0,fb_1⟩:=ck2 BKb.out;obtain ⟨zc_0,zc_1,fc_0,fc_1⟩:=ck2 BKc.out)|((with_reducible refine gate_callee (f:=46) rfl ?_);refine gl _ Try.func46 #[.agg #[.slice A0_0 l0_0.length c0_0,.int .i64 a0_1]] ?_;(with_reducible refine (impl_HeapOk.calls k A0_0 c0_0 l0_0 a0_1 false _ ?s1 ?s2 A3.out).mono ?_);(case s1=>exact kc HR);(case s2=>exact HC.out);rintro e w7 ⟨rfl,hb⟩;refine ⟨_,rfl,?_⟩;replace BKa:=Aside0.mk (blk_below (bk BKa) hb);replace BKb:=Aside0.mk (blk_below (bk BKb) hb);replace BKc:=Aside0.mk (blk_below (bk BKc) hb);replace HO:=Aside0.mk (Kd.R_below (kr HO) hb);replace HB:=Aside0.mk (below_step bl hb);(try clear hb);(try clear za_0);(try clear za_1);(try clear fa_0);(try clear fa_1);(try clear zb_0);(try clear zb_1);(try clear fb_0);(try clear fb_1);(try clear zc_0);(try clear zc_1);(try clear fc_0);(try clear fc_1);obtain ⟨za_0,za_1,fa_0,fa_1⟩:=ck2 BKa.out;obtain ⟨zb_0,zb_1,fb_0,fb_1⟩:=ck2 BKb.out;obtain ⟨zc_0,zc_1,fc_0,fc_1⟩:=ck2 BKc.out)|((with_reducible refine gate_store (t:=28) (p:=4) rfl ?_);refine sx 28 4 ((w7.setCell ⟨gbb,0,none⟩ ((.slice Ao yy.length co))).setCell ⟨gbb,1,none⟩ (.int .i64 q)) ?_;intro w9 hw;replace HO:Aside0 (Kd.R k56 56 w9 w.heap.size (fun _=>True) (.slice Ao yy.length co) yy):=⟨by rw [hw];exact Kd.R_mono (Kd.R_far (p:=⟨gbb,1,none⟩) (Kd.R_far (p:=⟨gbb,0,none⟩) (Kd.R_types HO.out BKb.out (by decide)) (fun _ hk=>hk.2) _) (fun _ hk=>hk.2) _) (fun _ _=>trivial)⟩;replace BKa:Aside0 (w9.heap[gba]? = some (.cells #[.slice A0_0 l0_0.length c0_0,.int .i64 a0_1] 28 (0,0))):=⟨by rw [hw];exact (blk_far (blk_far BKa.out NBa_b.out _) NBa_b.out _)⟩;replace BKc:Aside0 (w9.heap[gbc]? = some (.cells #[.slice Ao yy.length co,.int .i64 q] 28 (0,0))):=⟨by rw [hw];exact (blk_far (blk_far BKc.out NBc_b.out _) NBc_b.out _)⟩;replace BKb:Aside0 (w9.heap[gbb]? = some (.cells #[(.slice Ao yy.length co),.int .i64 q] 28 (0,0))):=⟨by rw [hw];exact (blk_put (blk_put BKb.out 0 _ rfl) 1 _ rfl)⟩;replace HB:Aside0 (Below w.heap.size w w9):=⟨by rw [hw];exact (below_set (below_set HB.out GEb.out) GEb.out)⟩;clear hw;(try clear za_0);(try clear za_1);(try clear fa_0);(try clear fa_1);(try clear zb_0);(try clear zb_1);(try clear fb_0);(try clear fb_1);(try clear zc_0);(try clear zc_1);(try clear fc_0);(try clear fc_1);obtain ⟨za_0,za_1,fa_0,fa_1⟩:=ck2 BKa.out;obtain ⟨zb_0,zb_1,fb_0,fb_1⟩:=ck2 BKb.out;obtain ⟨zc_0,zc_1,fc_0,fc_1⟩:=ck2 BKc.out))
  refine bodyPost_ret (results_ct rfl _ _ gbb 28 #[(.slice Ao yy.length co),.int .i64 q] (0,0) _ rfl BKb.out Try.underlying28 rfl (by kernel_rfl)) rfl ?_
  exact ⟨_,rfl,Kd.R_mono HO.out (fun _ _=>trivial),HB.out⟩
 | true =>
  simp only [if_true] at h
  by_cases c1:p < 0
  ·rw [if_pos c1] at h
   have c1b:decide (p < 0)=true:=decide_eq_true c1
   clear c1
   obtain ⟨rfl,rfl,rfl⟩:yy=r1∧q=r2∧false=r3:=by have h2:=Option.some.inj h;injection h2 with h3 h4;injection h4 with h5 h6;exact ⟨h3,h5,h6⟩
   clear h
   go_enter Try.func12,Try.ntmps12
   go_wp2_with (first|((with_reducible refine gate_dst (N:=2) rfl ?_);refine bx 2 #[.slice A0_0 l0_0.length c0_0,.int .i64 a0_1] 28 ?_;intro gba hg w1 hbox hb;have GEa:=Aside0.mk (bz hg:w.heap.size≤gba);replace HB:=Aside0.mk (below_step bl hb);have BKa:=Aside0.mk hbox;clear hb hbox hg;obtain ⟨za_0,za_1,fa_0,fa_1⟩:=ck2 BKa.out)|((with_reducible refine gate_dst (N:=4) rfl ?_);refine bx 4 #[.slice none 0 0,.int .i64 0] 28 ?_;intro gbb hg w2 hbox hb;have GEb:=Aside0.mk (bz hg:w.heap.size≤gbb);have NBa_b:=Aside0.mk (nl hg BKa:gba≠gbb);have NBb_a:=Aside0.mk (nr hg BKa:gbb≠gba);replace BKa:=Aside0.mk (blk_below (bk BKa) hb);replace HB:=Aside0.mk (below_step bl hb);have BKb:=Aside0.mk hbox;clear hb hbox hg;(try clear za_0);(try clear za_1);(try clear fa_0);(try clear fa_1);obtain ⟨za_0,za_1,fa_0,fa_1⟩:=ck2 BKa.out;obtain ⟨zb_0,zb_1,fb_0,fb_1⟩:=ck2 BKb.out)|((with_reducible refine gate_callee (f:=44) rfl ?_);refine gl _ Try.func44 #[.agg #[.slice A0_0 l0_0.length c0_0,.int .i64 a0_1]] ?_;(with_reducible refine (impl_ownHeap.calls A0_0 c0_0 l0_0 a0_1 yy q _ ?s1 ?s2 A1.out).mono ?_);(case s1=>exact kc HR);(case s2=>exact HC.out);rintro e w3 ⟨v0,rfl,ho,hb⟩;refine ⟨_,rfl,?_⟩;obtain ⟨Ao,co,rfl⟩:=Kd.R_slice ho;have HO:=Aside0.mk (Kd.R_lower ho (below_size bl));clear ho;replace BKa:=Aside0.mk (blk_below (bk BKa) hb);replace BKb:=Aside0.mk (blk_below (bk BKb) hb);replace HB:=Aside0.mk (below_step bl hb);(try clear hb);(try clear za_0);(try clear za_1);(try clear fa_0);(try clear fa_1);(try clear zb_0);(try clear zb_1);(try clear fb_0);(try clear fb_1);obtain ⟨za_0,za_1,fa_0,fa_1⟩:=ck2 BKa.out;obtain ⟨zb_0,zb_1,fb_0,fb_1⟩:=ck2 BKb.out)|((with_reducible refine gate_dst (N:=6) rfl ?_);refine bx 6 #[.slice none 0 0,.int .i64 0] 28 ?_;intro gbc hg w4 hbox hb;have GEc:=Aside0.mk (bz hg:w.heap.size≤gbc);have NBa_c:=Aside0.mk (nl hg BKa:gba≠gbc);have NBc_a:=Aside0.mk (nr hg BKa:gbc≠gba);have NBb_c:=Aside0.mk (nl hg BKb:gbb≠gbc);have NBc_b:=Aside0.mk (nr hg BKb:gbc≠gbb);replace BKa:=Aside0.mk (blk_below (bk BKa) hb);replace BKb:=Aside0.mk (blk_below (bk BKb) hb);replace HO:=Aside0.mk (Kd.R_below (kr HO) hb);replace HB:=Aside0.mk (below_step bl hb);have BKc:=Aside0.mk hbox;clear hb hbox hg;(try clear za_0);(try clear za_1);(try clear fa_0);(try clear fa_1);(try clear zb_0);(try clear zb_1);(try clear fb_0);(try clear fb_1);obtain ⟨za_0,za_1,fa_0,fa_1⟩:=ck2 BKa.out;obtain ⟨zb_0,zb_1,fb_0,fb_1⟩:=ck2 BKb.out;obtain ⟨zc_0,zc_1,fc_0,fc_1⟩:=ck2 BKc.out)|((with_reducible refine gate_store (t:=28) (p:=6) rfl ?_);refine sx 28 6 ((w4.setCell ⟨gbc,0,none⟩ (.slice Ao yy.length co)).setCell ⟨gbc,1,none⟩ (.int .i64 q)) ?_;intro w5 hw;replace HO:Aside0 (Kd.R k56 56 w5 w.heap.size (fun _=>True) (.slice Ao yy.length co) yy):=⟨by rw [hw];exact Kd.R_mono (Kd.R_far (p:=⟨gbc,1,none⟩) (Kd.R_far (p:=⟨gbc,0,none⟩) (Kd.R_types HO.out BKc.out (by decide)) (fun _ hk=>hk.2) _) (fun _ hk=>hk.2) _) (fun _ _=>trivial)⟩;replace BKa:Aside0 (w5.heap[gba]? = some (.cells #[.slice A0_0 l0_0.length c0_0,.int .i64 a0_1] 28 (0,0))):=⟨by rw [hw];exact (blk_far (blk_far BKa.out NBa_c.out _) NBa_c.out _)⟩;replace BKb:Aside0 (w5.heap[gbb]? = some (.cells #[.slice none 0 0,.int .i64 0] 28 (0,0))):=⟨by rw [hw];exact (blk_far (blk_far BKb.out NBb_c.out _) NBb_c.out _)⟩;replace BKc:Aside0 (w5.heap[gbc]? = some (.cells #[.slice Ao yy.length co,.int .i64 q] 28 (0,0))):=⟨by rw [hw];exact (blk_put (blk_put BKc.out 0 _ rfl) 1 _ rfl)⟩;replace HB:Aside0 (Below w.heap.size w w5):=⟨by rw [hw];exact (below_set (below_set HB.out GEc.out) GEc.out)⟩;clear hw;(try clear za_0);(try clear za_1);(try clear fa_0);(try clear fa_1);(try clear zb_0);(try clear zb_1);(try clear fb_0);(try clear fb_1);(try clear zc_0);(try clear zc_1);(try clear fc_0);(try clear fc_1);obtain ⟨za_0,za_1,fa_0,fa_1⟩:=ck2 BKa.out;obtain ⟨zb_0,zb_1,fb_0,fb_1⟩:=ck2 BKb.out;obtain ⟨zc_0,zc_1,fc_0,fc_1⟩:=ck2 BKc.out)|((with_reducible refine gate_callee (f:=45) rfl ?_);refine gl _ Try.func45 #[.agg #[.slice A0_0 l0_0.length c0_0,.int .i64 a0_1],.int .i64 a1] ?_;(with_reducible refine (impl_Heap_place.calls A0_0 c0_0 l0_0 a0_1 a1 p _ ?s1 ?s2 A2.out).mono ?_);(case s1=>exact kc HR);(case s2=>exact HC.out);rintro e w6 ⟨rfl,hb⟩;refine ⟨_,rfl,?_⟩;replace BKa:=Aside0.mk (blk_below (bk BKa) hb);replace BKb:=Aside0.mk (blk_below (bk BKb) hb);replace BKc:=Aside0.mk (blk_below (bk BKc) hb);replace HO:=Aside0.mk (Kd.R_below (kr HO) hb);replace HB:=Aside0.mk (below_step bl hb);(try clear hb);(try clear za_0);(try clear za_1);(try clear fa_0);(try clear fa_1);(try clear zb_0);(try clear zb_1);(try clear fb_0);(try clear fb_1);(try clear zc_0);(try clear zc_1);(try clear fc_0);(try clear fc_1);obtain ⟨za_0,za_1,fa_0,fa_1⟩:=ck2 BKa.out;obtain ⟨zb_0,zb_1,fb_0,fb_1⟩:=ck2 BKb.out;obtain ⟨zc_0,zc_1,fc_0,fc_1⟩:=ck2 BKc.out)|((with_reducible refine gate_callee (f:=46) rfl ?_);refine gl _ Try.func46 #[.agg #[.slice A0_0 l0_0.length c0_0,.int .i64 a0_1]] ?_;(with_reducible refine (impl_HeapOk.calls k A0_0 c0_0 l0_0 a0_1 true _ ?s1 ?s2 A3.out).mono ?_);(case s1=>exact kc HR);(case s2=>exact HC.out);rintro e w7 ⟨rfl,hb⟩;refine ⟨_,rfl,?_⟩;replace BKa:=Aside0.mk (blk_below (bk BKa) hb);replace BKb:=Aside0.mk (blk_below (bk BKb) hb);replace BKc:=Aside0.mk (blk_below (bk BKc) hb);replace HO:=Aside0.mk (Kd.R_below (kr HO) hb);replace HB:=Aside0.mk (below_step bl hb);(try clear hb);(try clear za_0);(try clear za_1);(try clear fa_0);(try clear fa_1);(try clear zb_0);(try clear zb_1);(try clear fb_0);(try clear fb_1);(try clear zc_0);(try clear zc_1);(try clear fc_0);(try clear fc_1);obtain ⟨za_0,za_1,fa_0,fa_1⟩:=ck2 BKa.out;obtain ⟨zb_0,zb_1,fb_0,fb_1⟩:=ck2 BKb.out;obtain ⟨zc_0,zc_1,fc_0,fc_1⟩:=ck2 BKc.out)|((with_reducible refine gate_store (t:=28) (p:=4) rfl ?_);refine sx 28 4 ((w7.setCell ⟨gbb,0,none⟩ ((.slice Ao yy.length co))).setCell ⟨gbb,1,none⟩ (.int .i64 q)) ?_;intro w9 hw;replace HO:Aside0 (Kd.R k56 56 w9 w.heap.size (fun _=>True) (.slice Ao yy.length co) yy):=⟨by rw [hw];exact Kd.R_mono (Kd.R_far (p:=⟨gbb,1,none⟩) (Kd.R_far (p:=⟨gbb,0,none⟩) (Kd.R_types HO.out BKb.out (by decide)) (fun _ hk=>hk.2) _) (fun _ hk=>hk.2) _) (fun _ _=>trivial)⟩;replace BKa:Aside0 (w9.heap[gba]? = some (.cells #[.slice A0_0 l0_0.length c0_0,.int .i64 a0_1] 28 (0,0))):=⟨by rw [hw];exact (blk_far (blk_far BKa.out NBa_b.out _) NBa_b.out _)⟩;replace BKc:Aside0 (w9.heap[gbc]? = some (.cells #[.slice Ao yy.length co,.int .i64 q] 28 (0,0))):=⟨by rw [hw];exact (blk_far (blk_far BKc.out NBc_b.out _) NBc_b.out _)⟩;replace BKb:Aside0 (w9.heap[gbb]? = some (.cells #[(.slice Ao yy.length co),.int .i64 q] 28 (0,0))):=⟨by rw [hw];exact (blk_put (blk_put BKb.out 0 _ rfl) 1 _ rfl)⟩;replace HB:Aside0 (Below w.heap.size w w9):=⟨by rw [hw];exact (below_set (below_set HB.out GEb.out) GEb.out)⟩;clear hw;(try clear za_0);(try clear za_1);(try clear fa_0);(try clear fa_1);(try clear zb_0);(try clear zb_1);(try clear fb_0);(try clear fb_1);(try clear zc_0);(try clear zc_1);(try clear fc_0);(try clear fc_1);obtain ⟨za_0,za_1,fa_0,fa_1⟩:=ck2 BKa.out;obtain ⟨zb_0,zb_1,fb_0,fb_1⟩:=ck2 BKb.out;obtain ⟨zc_0,zc_1,fc_0,fc_1⟩:=ck2 BKc.out))
   refine bodyPost_ret (results_ct rfl _ _ gbb 28 #[(.slice Ao yy.length co),.int .i64 q] (0,0) _ rfl BKb.out Try.underlying28 rfl (by kernel_rfl)) rfl ?_
   exact ⟨_,rfl,Kd.R_mono HO.out (fun _ _=>trivial),HB.out⟩
  ·rw [if_neg c1] at h
   have c1b:decide (p < 0)=false:=decide_eq_false c1
   clear c1
   obtain ⟨zz,hrem,h⟩:=Option.bind_eq_some_iff.mp h
   have A4:=Aside0.mk hrem
   clear hrem
   obtain ⟨rfl,rfl,rfl⟩:zz=r1∧q=r2∧true=r3:=by have h2:=Option.some.inj h;injection h2 with h3 h4;injection h4 with h5 h6;exact ⟨h3,h5,h6⟩
   clear h
   go_enter Try.func12,Try.ntmps12
   go_wp2_with (first|((with_reducible refine gate_dst (N:=2) rfl ?_);refine bx 2 #[.slice A0_0 l0_0.length c0_0,.int .i64 a0_1] 28 ?_;intro gba hg w1 hbox hb;have GEa:=Aside0.mk (bz hg:w.heap.size≤gba);replace HB:=Aside0.mk (below_step bl hb);have BKa:=Aside0.mk hbox;clear hb hbox hg;obtain ⟨za_0,za_1,fa_0,fa_1⟩:=ck2 BKa.out)|((with_reducible refine gate_dst (N:=4) rfl ?_);refine bx 4 #[.slice none 0 0,.int .i64 0] 28 ?_;intro gbb hg w2 hbox hb;have GEb:=Aside0.mk (bz hg:w.heap.size≤gbb);have NBa_b:=Aside0.mk (nl hg BKa:gba≠gbb);have NBb_a:=Aside0.mk (nr hg BKa:gbb≠gba);replace BKa:=Aside0.mk (blk_below (bk BKa) hb);replace HB:=Aside0.mk (below_step bl hb);have BKb:=Aside0.mk hbox;clear hb hbox hg;(try clear za_0);(try clear za_1);(try clear fa_0);(try clear fa_1);obtain ⟨za_0,za_1,fa_0,fa_1⟩:=ck2 BKa.out;obtain ⟨zb_0,zb_1,fb_0,fb_1⟩:=ck2 BKb.out)|((with_reducible refine gate_callee (f:=44) rfl ?_);refine gl _ Try.func44 #[.agg #[.slice A0_0 l0_0.length c0_0,.int .i64 a0_1]] ?_;(with_reducible refine (impl_ownHeap.calls A0_0 c0_0 l0_0 a0_1 yy q _ ?s1 ?s2 A1.out).mono ?_);(case s1=>exact kc HR);(case s2=>exact HC.out);rintro e w3 ⟨v0,rfl,ho,hb⟩;refine ⟨_,rfl,?_⟩;obtain ⟨Ao,co,rfl⟩:=Kd.R_slice ho;have HO:=Aside0.mk (Kd.R_lower ho (below_size bl));clear ho;replace BKa:=Aside0.mk (blk_below (bk BKa) hb);replace BKb:=Aside0.mk (blk_below (bk BKb) hb);replace HB:=Aside0.mk (below_step bl hb);(try clear hb);(try clear za_0);(try clear za_1);(try clear fa_0);(try clear fa_1);(try clear zb_0);(try clear zb_1);(try clear fb_0);(try clear fb_1);obtain ⟨za_0,za_1,fa_0,fa_1⟩:=ck2 BKa.out;obtain ⟨zb_0,zb_1,fb_0,fb_1⟩:=ck2 BKb.out)|((with_reducible refine gate_dst (N:=6) rfl ?_);refine bx 6 #[.slice none 0 0,.int .i64 0] 28 ?_;intro gbc hg w4 hbox hb;have GEc:=Aside0.mk (bz hg:w.heap.size≤gbc);have NBa_c:=Aside0.mk (nl hg BKa:gba≠gbc);have NBc_a:=Aside0.mk (nr hg BKa:gbc≠gba);have NBb_c:=Aside0.mk (nl hg BKb:gbb≠gbc);have NBc_b:=Aside0.mk (nr hg BKb:gbc≠gbb);replace BKa:=Aside0.mk (blk_below (bk BKa) hb);replace BKb:=Aside0.mk (blk_below (bk BKb) hb);replace HO:=Aside0.mk (Kd.R_below (kr HO) hb);replace HB:=Aside0.mk (below_step bl hb);have BKc:=Aside0.mk hbox;clear hb hbox hg;(try clear za_0);(try clear za_1);(try clear fa_0);(try clear fa_1);(try clear zb_0);(try clear zb_1);(try clear fb_0);(try clear fb_1);obtain ⟨za_0,za_1,fa_0,fa_1⟩:=ck2 BKa.out;obtain ⟨zb_0,zb_1,fb_0,fb_1⟩:=ck2 BKb.out;obtain ⟨zc_0,zc_1,fc_0,fc_1⟩:=ck2 BKc.out)|((with_reducible refine gate_store (t:=28) (p:=6) rfl ?_);refine sx 28 6 ((w4.setCell ⟨gbc,0,none⟩ (.slice Ao yy.length co)).setCell ⟨gbc,1,none⟩ (.int .i64 q)) ?_;intro w5 hw;replace HO:Aside0 (Kd.R k56 56 w5 w.heap.size (fun _=>True) (.slice Ao yy.length co) yy):=⟨by rw [hw];exact Kd.R_mono (Kd.R_far (p:=⟨gbc,1,none⟩) (Kd.R_far (p:=⟨gbc,0,none⟩) (Kd.R_types HO.out BKc.out (by decide)) (fun _ hk=>hk.2) _) (fun _ hk=>hk.2) _) (fun _ _=>trivial)⟩;replace BKa:Aside0 (w5.heap[gba]? = some (.cells #[.slice A0_0 l0_0.length c0_0,.int .i64 a0_1] 28 (0,0))):=⟨by rw [hw];exact (blk_far (blk_far BKa.out NBa_c.out _) NBa_c.out _)⟩;replace BKb:Aside0 (w5.heap[gbb]? = some (.cells #[.slice none 0 0,.int .i64 0] 28 (0,0))):=⟨by rw [hw];exact (blk_far (blk_far BKb.out NBb_c.out _) NBb_c.out _)⟩;replace BKc:Aside0 (w5.heap[gbc]? = some (.cells #[.slice Ao yy.length co,.int .i64 q] 28 (0,0))):=⟨by rw [hw];exact (blk_put (blk_put BKc.out 0 _ rfl) 1 _ rfl)⟩;replace HB:Aside0 (Below w.heap.size w w5):=⟨by rw [hw];exact (below_set (below_set HB.out GEc.out) GEc.out)⟩;clear hw;(try clear za_0);(try clear za_1);(try clear fa_0);(try clear fa_1);(try clear zb_0);(try clear zb_1);(try clear fb_0);(try clear fb_1);(try clear zc_0);(try clear zc_1);(try clear fc_0);(try clear fc_1);obtain ⟨za_0,za_1,fa_0,fa_1⟩:=ck2 BKa.out;obtain ⟨zb_0,zb_1,fb_0,fb_1⟩:=ck2 BKb.out;obtain ⟨zc_0,zc_1,fc_0,fc_1⟩:=ck2 BKc.out)|((with_reducible refine gate_callee (f:=45) rfl ?_);refine gl _ Try.func45 #[.agg #[.slice A0_0 l0_0.length c0_0,.int .i64 a0_1],.int .i64 a1] ?_;(with_reducible refine (impl_Heap_place.calls A0_0 c0_0 l0_0 a0_1 a1 p _ ?s1 ?s2 A2.out).mono ?_);(case s1=>exact kc HR);(case s2=>exact HC.out);rintro e w6 ⟨rfl,hb⟩;refine ⟨_,rfl,?_⟩;replace BKa:=Aside0.mk (blk_below (bk BKa) hb);replace BKb:=Aside0.mk (blk_below (bk BKb) hb);replace BKc:=Aside0.mk (blk_below (bk BKc) hb);replace HO:=Aside0.mk (Kd.R_below (kr HO) hb);replace HB:=Aside0.mk (below_step bl hb);(try clear hb);(try clear za_0);(try clear za_1);(try clear fa_0);(try clear fa_1);(try clear zb_0);(try clear zb_1);(try clear fb_0);(try clear fb_1);(try clear zc_0);(try clear zc_1);(try clear fc_0);(try clear fc_1);obtain ⟨za_0,za_1,fa_0,fa_1⟩:=ck2 BKa.out;obtain ⟨zb_0,zb_1,fb_0,fb_1⟩:=ck2 BKb.out;obtain ⟨zc_0,zc_1,fc_0,fc_1⟩:=ck2 BKc.out)|((with_reducible refine gate_callee (f:=46) rfl ?_);refine gl _ Try.func46 #[.agg #[.slice A0_0 l0_0.length c0_0,.int .i64 a0_1]] ?_;(with_reducible refine (impl_HeapOk.calls k A0_0 c0_0 l0_0 a0_1 true _ ?s1 ?s2 A3.out).mono ?_);(case s1=>exact kc HR);(case s2=>exact HC.out);rintro e w7 ⟨rfl,hb⟩;refine ⟨_,rfl,?_⟩;replace BKa:=Aside0.mk (blk_below (bk BKa) hb);replace BKb:=Aside0.mk (blk_below (bk BKb) hb);replace BKc:=Aside0.mk (blk_below (bk BKc) hb);replace HO:=Aside0.mk (Kd.R_below (kr HO) hb);replace HB:=Aside0.mk (below_step bl hb);(try clear hb);(try clear za_0);(try clear za_1);(try clear fa_0);(try clear fa_1);(try clear zb_0);(try clear zb_1);(try clear fb_0);(try clear fb_1);(try clear zc_0);(try clear zc_1);(try clear fc_0);(try clear fc_1);obtain ⟨za_0,za_1,fa_0,fa_1⟩:=ck2 BKa.out;obtain ⟨zb_0,zb_1,fb_0,fb_1⟩:=ck2 BKb.out;obtain ⟨zc_0,zc_1,fc_0,fc_1⟩:=ck2 BKc.out)|((with_reducible refine gate_callee (f:=47) rfl ?_);refine gl _ Try.func47 #[.pointer (some ⟨gbc,0,none⟩),.int .i64 p] ?_;(refine (impl_Heap_remove.calls k (.slice Ao yy.length co) yy q p zz gbc w _ HB.out GEc.out BKc.out HO.out A4.out).mono ?_);rintro e w8 ⟨rfl,v1,ho,hbk,hb,hkp⟩;obtain ⟨Ao1,co1,rfl⟩:=Kd.R_slice ho;refine ⟨_,rfl,?_⟩;replace BKa:=Aside0.mk (blk_kept BKa.out hkp (fun e_=>e_.elim (fun e_=>Kd.R_ne HO.out BKa.out (by decide) e_) (fun e_=>NBa_c.out e_)));replace BKb:=Aside0.mk (blk_kept BKb.out hkp (fun e_=>e_.elim (fun e_=>Kd.R_ne HO.out BKb.out (by decide) e_) (fun e_=>NBb_c.out e_)));replace HO:=Aside0.mk ho;replace BKc:=Aside0.mk hbk;replace HB:=Aside0.mk hb;clear ho hbk hb hkp;(try clear za_0);(try clear za_1);(try clear fa_0);(try clear fa_1);(try clear zb_0);(try clear zb_1);(try clear fb_0);(try clear fb_1);(try clear zc_0);(try clear zc_1);(try clear fc_0);(try clear fc_1);obtain ⟨za_0,za_1,fa_0,fa_1⟩:=ck2 BKa.out;obtain ⟨zb_0,zb_1,fb_0,fb_1⟩:=ck2 BKb.out;obtain ⟨zc_0,zc_1,fc_0,fc_1⟩:=ck2 BKc.out)|((with_reducible refine gate_store (t:=28) (p:=4) rfl ?_);refine sx 28 4 ((w8.setCell ⟨gbb,0,none⟩ ((.slice Ao1 zz.length co1))).setCell ⟨gbb,1,none⟩ (.int .i64 q)) ?_;intro w9 hw;replace HO:Aside0 (Kd.R k56 56 w9 w.heap.size (fun _=>True) (.slice Ao1 zz.length co1) zz):=⟨by rw [hw];exact Kd.R_mono (Kd.R_far (p:=⟨gbb,1,none⟩) (Kd.R_far (p:=⟨gbb,0,none⟩) (Kd.R_types HO.out BKb.out (by decide)) (fun _ hk=>hk.2) _) (fun _ hk=>hk.2) _) (fun _ _=>trivial)⟩;replace BKa:Aside0 (w9.heap[gba]? = some (.cells #[.slice A0_0 l0_0.length c0_0,.int .i64 a0_1] 28 (0,0))):=⟨by rw [hw];exact (blk_far (blk_far BKa.out NBa_b.out _) NBa_b.out _)⟩;replace BKc:Aside0 (w9.heap[gbc]? = some (.cells #[.slice Ao1 zz.length co1,.int .i64 q] 28 (0,0))):=⟨by rw [hw];exact (blk_far (blk_far BKc.out NBc_b.out _) NBc_b.out _)⟩;replace BKb:Aside0 (w9.heap[gbb]? = some (.cells #[(.slice Ao1 zz.length co1),.int .i64 q] 28 (0,0))):=⟨by rw [hw];exact (blk_put (blk_put BKb.out 0 _ rfl) 1 _ rfl)⟩;replace HB:Aside0 (Below w.heap.size w w9):=⟨by rw [hw];exact (below_set (below_set HB.out GEb.out) GEb.out)⟩;clear hw;(try clear za_0);(try clear za_1);(try clear fa_0);(try clear fa_1);(try clear zb_0);(try clear zb_1);(try clear fb_0);(try clear fb_1);(try clear zc_0);(try clear zc_1);(try clear fc_0);(try clear fc_1);obtain ⟨za_0,za_1,fa_0,fa_1⟩:=ck2 BKa.out;obtain ⟨zb_0,zb_1,fb_0,fb_1⟩:=ck2 BKb.out;obtain ⟨zc_0,zc_1,fc_0,fc_1⟩:=ck2 BKc.out))
   refine bodyPost_ret (results_ct rfl _ _ gbb 28 #[(.slice Ao1 zz.length co1),.int .i64 q] (0,0) _ rfl BKb.out Try.underlying28 rfl (by kernel_rfl)) rfl ?_
   exact ⟨_,rfl,Kd.R_mono HO.out (fun _ _=>trivial),HB.out⟩

/-! ### laws_eqDue: function 75 -/
def laws_eqDue.f (a0_0:Int) (a0_1:Int) (a0_2:Int) (a1_0:Int) (a1_1:Int) (a1_2:Int):Option (Bool):=if a0_0=a1_0 then (if a0_1=a1_1 then (if a0_2=a1_2 then (some true) else (none)) else (none)) else (none)
set_option maxHeartbeats 8000000 in
set_option maxRecDepth 100000 in
theorem laws_eqDue.calls (a0_0:Int) (a0_1:Int) (a0_2:Int) (a1_0:Int) (a1_1:Int) (a1_2:Int) (r:Bool) (w:World) (h:laws_eqDue.f a0_0 a0_1 a0_2 a1_0 a1_1 a1_2=some r) :
  Calls Try.prog 75 #[.agg #[.int .i64 a0_0,.int .i64 a0_1,.int .i64 a0_2],.agg #[.int .i64 a1_0,.int .i64 a1_1,.int .i64 a1_2]] w fun e w'=>e = .returned (.bool r)∧Below w.heap.size w w':=by
 have hu56:=Try.underlying56
 have HB:=Aside0.mk (Below.refl w.heap.size w)
 have H:(if a0_0=a1_0 then (if a0_1=a1_1 then (if a0_2=a1_2 then (some true) else (none)) else (none)) else (none))=some r:=h
 clear h
 by_cases c3:a0_0=a1_0
 ·rw [if_pos c3] at H
  have c3b0:(a0_0 == a1_0)=true:=beq_iff_eq.mpr c3
  have c3b1:(a0_0 != a1_0)=false:=bne_eq_false_iff_eq.mpr c3
  clear c3
  by_cases c4:a0_1=a1_1
  case neg =>
   rw [if_neg c4] at H
   exact absurd H (by simp)
  rw [if_pos c4] at H
  have c4b0:(a0_1 == a1_1)=true:=beq_iff_eq.mpr c4
  have c4b1:(a0_1 != a1_1)=false:=bne_eq_false_iff_eq.mpr c4
  clear c4
  by_cases c5:a0_2=a1_2
  case neg =>
   rw [if_neg c5] at H
   exact absurd H (by simp)
  rw [if_pos c5] at H
  have c5b0:(a0_2 == a1_2)=true:=beq_iff_eq.mpr c5
  have c5b1:(a0_2 != a1_2)=false:=bne_eq_false_iff_eq.mpr c5
  clear c5
  obtain rfl:=Option.some.inj H
  go_enter Try.func75,Try.ntmps75
  go_wp2_with (first|((with_reducible refine gate_dst (N:=2) rfl ?_);refine bx 2 #[.int .i64 a0_0,.int .i64 a0_1,.int .i64 a0_2] 56 ?_;intro gb248 hg w6 hbox hb;have BK248:=Aside0.mk (hbox);have GW248:=Aside0.mk (bz hg:w.heap.size≤gb248);have GE248:=GW248;replace HB:=Aside0.mk (below_step bl hb);clear hb hbox hg)|((with_reducible refine gate_dst (N:=3) rfl ?_);refine bx 3 #[.int .i64 a1_0,.int .i64 a1_1,.int .i64 a1_2] 56 ?_;intro gb249 hg w7 hbox hb;have BK249:=Aside0.mk (hbox);have GW249:=Aside0.mk (bz hg:w.heap.size≤gb249);have GE249:=GW249;replace HB:=Aside0.mk (below_step bl hb);have NB248_249:=Aside0.mk (nl hg BK248:gb248≠gb249);have NB249_248:=Aside0.mk (nr hg BK248:gb249≠gb248);replace BK248:=Aside0.mk (blk_below (bk BK248) hb);clear hb hbox hg;have hnb8:=NB248_249.out;have hnc8:=NB249_248.out;obtain ⟨hcz9_0,hcz9_1,hcz9_2,hfz9_0,hfz9_1,hfz9_2⟩:=ck3 BK248.out;obtain ⟨hcz10_0,hcz10_1,hcz10_2,hfz10_0,hfz10_1,hfz10_2⟩:=ck3 BK249.out))
  go_ret
  exact ⟨er,bl⟩
 ·rw [if_neg c3] at H
  exact absurd H (by simp)

/-! ### laws_eqDueS: function 48 -/
def laws_eqDueS.l0:Nat→List (S56)→List (S56)→Int→Option (Bool)
 | 0,_,_,_=>none
 | k + 1,x0,x1,x5=>if x5 < (x0.length:Int) then (if 0≤x5 then (if x5 < (x1.length:Int) then ((laws_eqDue.f ((rd_T56 x0 x5).f0) ((rd_T56 x0 x5).f1) ((rd_T56 x0 x5).f2) ((rd_T56 x1 x5).f0) ((rd_T56 x1 x5).f1) ((rd_T56 x1 x5).f2)).bind fun t252=>(if t252=true then (laws_eqDueS.l0 k x0 x1 (wrap64 (x5 + 1))) else (none))) else (none)) else (none)) else (some true)
def laws_eqDueS.f (k:Nat) (l0:List (S56)) (l1:List (S56)):Option (Bool):=if (l0.length:Int)=(l1.length:Int) then (laws_eqDueS.l0 k l0 l1 0) else (none)
theorem laws_eqDueS.mono_l:∀ k,(∀ y0 y1 y2,LeO (laws_eqDueS.l0 k y0 y1 y2) (laws_eqDueS.l0 (k + 1) y0 y1 y2))
 | 0=>fun _ _ _ r h=>by simp [laws_eqDueS.l0] at h
 | k + 1=>by
  have ih0:=laws_eqDueS.mono_l k
  ·intro y0 y1 y2
   unfold laws_eqDueS.l0
   repeat' first
   | (with_reducible exact ih0 _ _ _)
   | (with_reducible exact LeO.refl _)
   | (with_reducible exact LeO.none _)
   | (with_reducible refine LeO.ite ?_ ?_)
   | (with_reducible refine LeO.bind ?_ (fun _=>?_))
   | exact ih0 _ _ _
   | exact LeO.none _
   | refine LeO.ite ?_ ?_
   | refine LeO.bind ?_ (fun _=>?_)
theorem laws_eqDueS.mono:∀ a0 a1 k,LeO (laws_eqDueS.f k a0 a1) (laws_eqDueS.f (k + 1) a0 a1):=by
 intro a0 a1 k
 have ih0:=laws_eqDueS.mono_l k
 unfold laws_eqDueS.f
 repeat' first
   | (with_reducible exact ih0 _ _ _)
   | (with_reducible exact LeO.refl _)
   | (with_reducible exact LeO.none _)
   | (with_reducible refine LeO.ite ?_ ?_)
   | (with_reducible refine LeO.bind ?_ (fun _=>?_))
   | exact ih0 _ _ _
   | exact LeO.none _
   | refine LeO.ite ?_ ?_
   | refine LeO.bind ?_ (fun _=>?_)
def laws_eqDueS.T6:Bool × List (List Nat × List Nat):=(true,[([],[]),([],[]),([0,1],[0,1]),([2],[2]),([],[]),([],[]),([4,5],[4,5]),([6],[6]),([3,7],[3,7]),([8],[8])])
def laws_eqDueS.B6:List Nat:=[0,0,3,7,0,0,48,112,255,511]
theorem laws_eqDueS.tab6:rtab .any (opsOf Try.f48 6)=laws_eqDueS.T6:=by kernel_rfl
theorem laws_eqDueS.bits6:waitsOk laws_eqDueS.T6.2 laws_eqDueS.B6=true:=by kernel_rfl
set_option maxHeartbeats 8000000 in
set_option maxRecDepth 100000 in
theorem laws_eqDueS.calls (k:Nat) (A0:Option Addr) (c0:Nat) (l0:List (S56)) (A1:Option Addr) (c1:Nat) (l1:List (S56)) (r:Bool) (w:World) (hr0:Kd.C k56 w A0 l0.length l0) (hc0:l0.length≤c0) (hr1:Kd.C k56 w A1 l1.length l1) (hc1:l1.length≤c1) (h:laws_eqDueS.f k l0 l1=some r) :
  Calls Try.prog 48 #[.slice A0 l0.length c0,.slice A1 l1.length c1] w fun e w'=>e = .returned (.bool r)∧Below w.heap.size w w':=by
 have hu56:=Try.underlying56
 have HR0:=Aside0.mk hr0
 have HC0:=Aside0.mk hc0
 clear hr0 hc0
 have HR1:=Aside0.mk hr1
 have HC1:=Aside0.mk hc1
 clear hr1 hc1
 have HB:=Aside0.mk (Below.refl w.heap.size w)
 have H:(if (l0.length:Int)=(l1.length:Int) then (laws_eqDueS.l0 k l0 l1 0) else (none))=some r:=h
 clear h
 by_cases c3:(l0.length:Int)=(l1.length:Int)
 ·rw [if_pos c3] at H
  have c3b0:((l0.length:Int) == (l1.length:Int))=true:=beq_iff_eq.mpr c3
  have c3b1:((l0.length:Int) != (l1.length:Int))=false:=bne_eq_false_iff_eq.mpr c3
  have c3b2:(l0.length == l1.length)=true:=by first|simpa using c3|(simp at c3 ⊢;omega)
  clear c3
  have H':=Aside0.mk H
  clear H
  go_enter Try.func48,Try.ntmps48
  go_wp2
  go_loopg [5] k (fun kq v5 w'=>∃ (x5_1:Int),v5 = .int .i64 x5_1∧Aside0 (laws_eqDueS.l0 kq l0 l1 x5_1=some r)∧Aside0 (kq≤k)∧Aside0 (Below w.heap.size w w'))
  case atStart=>exact ⟨(0),(by first|rfl|(simp;done)|(simp [*];done)),H',⟨Nat.le_refl _⟩,⟨bl⟩⟩
  case round =>
   clear H'
   try clear c1
   try clear p2
   try clear c3
   try clear c3b0
   try clear c3b1
   try clear c3b2
   obtain ⟨x5_1,rfl,HA,HK1,HB⟩:=hrel
   cases gk with
   | zero=>exact absurd HA.out (by simp [laws_eqDueS.l0])
   | succ k1 =>
    have H:=HA.out
    clear HA
    simp only [laws_eqDueS.l0] at H
    by_cases c4:x5_1 < (l0.length:Int)
    ·rw [if_pos c4] at H
     have c4b0:decide (x5_1 < (l0.length:Int))=true:=decide_eq_true c4
     clear c4
     by_cases c5:0≤x5_1
     case neg =>
      rw [if_neg c5] at H
      exact absurd H (by simp)
     rw [if_pos c5] at H
     have c5b0:decide (0≤x5_1)=true:=decide_eq_true c5
     clear c5
     by_cases c6:x5_1 < (l1.length:Int)
     case neg =>
      rw [if_neg c6] at H
      exact absurd H (by simp)
     rw [if_pos c6] at H
     have c6b0:decide (x5_1 < (l1.length:Int))=true:=decide_eq_true c6
     clear c6
     replace H:=Option.bind_eq_some_iff.mp H
     obtain ⟨t252,A70,H⟩:=H
     have A7:=Aside0.mk A70
     clear A70
     by_cases c8:t252=true
     ·subst c8
      rw [if_pos rfl] at H
      have H':=Aside0.mk H
      clear H
      try go_wp2
      replace HB:=Aside0.mk (below_drew1 HB.out)
      have p250:0≤(x5_1:Int):=od
      have q250:x5_1 < (l0.length:Int):=od
      obtain ⟨ad250,e250,hx250_0,hx250_1,hx250_2⟩:=at_T56 HR0.out x5_1 p250 q250
      have hw250_2:=hx250_2
      have hw250_1:=hx250_1
      have hw250_0:=hx250_0
      cases e250
      replace hx250_0:=cl HB hx250_0
      replace hx250_1:=cl HB hx250_1
      replace hx250_2:=cl HB hx250_2
      replace p250:=eq_true p250
      replace q250:=eq_true q250
      have p251:0≤(x5_1:Int):=od
      have q251:x5_1 < (l1.length:Int):=od
      obtain ⟨ad251,e251,hx251_0,hx251_1,hx251_2⟩:=at_T56 HR1.out x5_1 p251 q251
      have hw251_2:=hx251_2
      have hw251_1:=hx251_1
      have hw251_0:=hx251_0
      cases e251
      replace hx251_0:=cl HB hx251_0
      replace hx251_1:=cl HB hx251_1
      replace hx251_2:=cl HB hx251_2
      replace p251:=eq_true p251
      replace q251:=eq_true q251
      refine start_ (n:=10) (S:=fun w'=>w'.cell? (ad250.add ((x5_1).toNat * 3))=some (.int .i64 ((rd_T56 l0 x5_1).f0))∧w'.cell? ⟨(ad250.add ((x5_1).toNat * 3)).block,(ad250.add ((x5_1).toNat * 3)).off + 1,none⟩=some (.int .i64 ((rd_T56 l0 x5_1).f1))∧w'.cell? ⟨(ad250.add ((x5_1).toNat * 3)).block,(ad250.add ((x5_1).toNat * 3)).off + 2,none⟩=some (.int .i64 ((rd_T56 l0 x5_1).f2))∧w'.cell? (ad251.add ((x5_1).toNat * 3))=some (.int .i64 ((rd_T56 l1 x5_1).f0))∧w'.cell? ⟨(ad251.add ((x5_1).toNat * 3)).block,(ad251.add ((x5_1).toNat * 3)).off + 1,none⟩=some (.int .i64 ((rd_T56 l1 x5_1).f1))∧w'.cell? ⟨(ad251.add ((x5_1).toNat * 3)).block,(ad251.add ((x5_1).toNat * 3)).off + 2,none⟩=some (.int .i64 ((rd_T56 l1 x5_1).f2))) (ds:=[]) (bs 10 0) (by kernel_rfl) rfl rfl ⟨(cl HB hw250_0),(cl HB hw250_1),(cl HB hw250_2),(cl HB hw251_0),(cl HB hw251_1),(cl HB hw251_2)⟩ (fun hHeld=>?_);refine with_tabW laws_eqDueS.tab6 laws_eqDueS.bits6 (fun HT_ HW_=>?_)
      generalize wr.drew=w9 at HB hx250_0 hx250_1 hx250_2 hx251_0 hx251_1 hx251_2 hHeld ⊢
      refine pq 0 17 (bs 10 1) HT_ ?_
      refine pq 1 18 (bs 10 3) HT_ ?_
      refine pq 2 19 (bs 10 7) HT_ ?_
      refine pq 4 21 (bs 10 23) HT_ ?_
      refine pq 5 22 (bs 10 55) HT_ ?_
      refine pq 6 23 (bs 10 119) HT_ ?_
      refine tq 3 20 (bs 10 127) HT_ HW_ hHeld ?_
      refine tq 7 24 (bs 10 255) HT_ HW_ hHeld ?_
      refine one_ (i:=8) (N:=some 25) (bs 10 511) rfl rfl (one_of HT_.out (by kernel_rfl)) (by decide) (fun K hK=>?_)
      refine goes_ Try.func75 (by kernel_rfl) rfl #[.agg #[.int .i64 ((rd_T56 l0 x5_1).f0),.int .i64 ((rd_T56 l0 x5_1).f1),.int .i64 ((rd_T56 l0 x5_1).f2)],.agg #[.int .i64 ((rd_T56 l1 x5_1).f0),.int .i64 ((rd_T56 l1 x5_1).f1),.int .i64 ((rd_T56 l1 x5_1).f2)]] (by rfl) rfl rfl (by (try simp only [List.map_toArray,List.map_cons,List.map_nil]);first|done|rfl|(simp only [List.length_drop,List.length_take];rfl)) ?_
      with_reducible refine (laws_eqDue.calls ((rd_T56 l0 x5_1).f0) ((rd_T56 l0 x5_1).f1) ((rd_T56 l0 x5_1).f2) ((rd_T56 l1 x5_1).f0) ((rd_T56 l1 x5_1).f1) ((rd_T56 l1 x5_1).f2) true _ A7.out).mono ?_
      rintro e w10 ⟨rfl,hb⟩
      refine ⟨_,rfl,?_⟩
      replace HB:=Aside0.mk (below_step bl hb)
      (try clear hb)
      (try clear hb2)
      (try clear hk)
      (try clear hi)
      refine hK.out _ _ ⟨(cl HB hw250_0),(cl HB hw250_1),(cl HB hw250_2),(cl HB hw251_0),(cl HB hw251_1),(cl HB hw251_2)⟩ (fun hHeld=>?_)
      clear hK K
      refine nrm ?_
      refine pq 9 26 (bs 10 1023) HT_ ?_
      refine done_ (done_of HT_.out (by kernel_rfl)) ?_
      try go_wp2
      go_roundg k1
      case measure=>have:=HK1.out;omega
      case rel=>exact ⟨(wrap64 (x5_1 + 1)),(by first|rfl|(simp;done)|(simp [*];done)),H',⟨by have:=HK1.out;omega⟩,⟨bl⟩⟩
     ·replace c8:=Bool.eq_false_iff.mpr c8
      subst c8
      rw [if_neg nft] at H
      exact absurd H (by simp)
    ·rw [if_neg c4] at H
     have c4b0:decide (x5_1 < (l0.length:Int))=false:=decide_eq_false c4
     clear c4
     obtain rfl:=Option.some.inj H
     go_wp2
     go_ret
     exact ⟨er,bl⟩
 ·rw [if_neg c3] at H
  exact absurd H (by simp)

/-! ### laws_eqHeap: function 13 -/
def laws_eqHeap.f (k:Nat) (l0_0:List (S56)) (a0_1:Int) (l1_0:List (S56)) (a1_1:Int):Option (Bool):=(laws_eqDueS.f k l0_0 l1_0).bind fun t255=>(if t255=true then (if a0_1=a1_1 then (some true) else (none)) else (none))
theorem laws_eqHeap.mono:∀ a0 a1 a2 a3 k,LeO (laws_eqHeap.f k a0 a1 a2 a3) (laws_eqHeap.f (k + 1) a0 a1 a2 a3):=by
 intro a0 a1 a2 a3 k
 unfold laws_eqHeap.f
 repeat' first
   | (with_reducible exact laws_eqDueS.mono _ _ _)
   | (with_reducible exact LeO.refl _)
   | (with_reducible exact LeO.none _)
   | (with_reducible refine LeO.ite ?_ ?_)
   | (with_reducible refine LeO.bind ?_ (fun _=>?_))
   | exact laws_eqDueS.mono _ _ _
   | exact LeO.none _
   | refine LeO.ite ?_ ?_
   | refine LeO.bind ?_ (fun _=>?_)
set_option maxHeartbeats 8000000 in
set_option maxRecDepth 100000 in
theorem laws_eqHeap.calls (k:Nat) (A0_0:Option Addr) (c0_0:Nat) (l0_0:List (S56)) (a0_1:Int) (A1_0:Option Addr) (c1_0:Nat) (l1_0:List (S56)) (a1_1:Int) (r:Bool) (w:World) (hr0_0:Kd.C k56 w A0_0 l0_0.length l0_0) (hc0_0:l0_0.length≤c0_0) (hr1_0:Kd.C k56 w A1_0 l1_0.length l1_0) (hc1_0:l1_0.length≤c1_0) (h:laws_eqHeap.f k l0_0 a0_1 l1_0 a1_1=some r) :
  Calls Try.prog 13 #[.agg #[.slice A0_0 l0_0.length c0_0,.int .i64 a0_1],.agg #[.slice A1_0 l1_0.length c1_0,.int .i64 a1_1]] w fun e w'=>e = .returned (.bool r)∧Below w.heap.size w w':=by
 have hu28:=Try.underlying28
 have HR0_0:=Aside0.mk hr0_0
 have HC0_0:=Aside0.mk hc0_0
 clear hr0_0 hc0_0
 have HR1_0:=Aside0.mk hr1_0
 have HC1_0:=Aside0.mk hc1_0
 clear hr1_0 hc1_0
 have HB:=Aside0.mk (Below.refl w.heap.size w)
 have H:((laws_eqDueS.f k l0_0 l1_0).bind fun t255=>(if t255=true then (if a0_1=a1_1 then (some true) else (none)) else (none)))=some r:=h
 clear h
 replace H:=Option.bind_eq_some_iff.mp H
 obtain ⟨t255,A30,H⟩:=H
 have A3:=Aside0.mk A30
 clear A30
 by_cases c4:t255=true
 ·subst c4
  rw [if_pos rfl] at H
  by_cases c5:a0_1=a1_1
  case neg =>
   rw [if_neg c5] at H
   exact absurd H (by simp)
  rw [if_pos c5] at H
  have c5b0:(a0_1 == a1_1)=true:=beq_iff_eq.mpr c5
  have c5b1:(a0_1 != a1_1)=false:=bne_eq_false_iff_eq.mpr c5
  clear c5
  obtain rfl:=Option.some.inj H
  go_enter Try.func13,Try.ntmps13
  go_wp2_with (first|((with_reducible refine gate_dst (N:=2) rfl ?_);refine bx 2 #[.slice A0_0 l0_0.length c0_0,.int .i64 a0_1] 28 ?_;intro gb253 hg w6 hbox hb;have BK253:=Aside0.mk (hbox);have GW253:=Aside0.mk (bz hg:w.heap.size≤gb253);have GE253:=GW253;replace HB:=Aside0.mk (below_step bl hb);clear hb hbox hg)|((with_reducible refine gate_dst (N:=3) rfl ?_);refine bx 3 #[.slice A1_0 l1_0.length c1_0,.int .i64 a1_1] 28 ?_;intro gb254 hg w7 hbox hb;have BK254:=Aside0.mk (hbox);have GW254:=Aside0.mk (bz hg:w.heap.size≤gb254);have GE254:=GW254;replace HB:=Aside0.mk (below_step bl hb);have NB253_254:=Aside0.mk (nl hg BK253:gb253≠gb254);have NB254_253:=Aside0.mk (nr hg BK253:gb254≠gb253);replace BK253:=Aside0.mk (blk_below (bk BK253) hb);clear hb hbox hg;have hnb8:=NB253_254.out;have hnc8:=NB254_253.out;obtain ⟨hcz9_0,hcz9_1,hfz9_0,hfz9_1⟩:=ck2 BK253.out;obtain ⟨hcz10_0,hcz10_1,hfz10_0,hfz10_1⟩:=ck2 BK254.out)|((with_reducible refine gate_callee (f:=48) rfl ?_);refine gl (some 9) Try.func48 #[.slice A0_0 l0_0.length c0_0,.slice A1_0 l1_0.length c1_0] ?_;(with_reducible refine (laws_eqDueS.calls k _ _ l0_0 _ _ l1_0 true _ ?side1 ?side2 ?side3 ?side4 A3.out).mono ?_);(case side1=>exact kc HR0_0);(case side2=>exact HC0_0.out);(case side3=>exact kc HR1_0);(case side4=>exact HC1_0.out);rintro e w11 ⟨rfl,hb⟩;refine ⟨_,rfl,?_⟩;replace BK253:=Aside0.mk (blk_below (bk BK253) hb);replace BK254:=Aside0.mk (blk_below (bk BK254) hb);replace HB:=Aside0.mk (below_step bl hb);(try clear hb);(try clear hb2);(try clear hk);(try clear hi);obtain ⟨hcz12_0,hcz12_1,hfz12_0,hfz12_1⟩:=ck2 BK253.out;obtain ⟨hcz13_0,hcz13_1,hfz13_0,hfz13_1⟩:=ck2 BK254.out))
  go_ret
  exact ⟨er,bl⟩
 ·replace c4:=Bool.eq_false_iff.mpr c4
  subst c4
  rw [if_neg nft] at H
  exact absurd H (by simp)

/-! ### laws_markDueS: function 49 -/
def laws_markDueS.l0:Nat→List (S56)→Int→Int→Option (Int × (List (S56)))
 | 0,_,_,_=>none
 | k + 1,x0,x1,x5=>if x5 < (x0.length:Int) then (if 0≤x5 then ((some (x0.set (x5:Int).toNat (⟨x1,(rd_T56 x0 x5).f1,(rd_T56 x0 x5).f2⟩:S56):List (S56))).bind fun y256=>((some (y256.set (x5:Int).toNat (⟨(rd_T56 y256 x5).f0,wrap64 (x1 + 1),(rd_T56 y256 x5).f2⟩:S56):List (S56))).bind fun y257=>(laws_markDueS.l0 k (y257.set (x5:Int).toNat (⟨(rd_T56 y257 x5).f0,(rd_T56 y257 x5).f1,wrap64 ((wrap64 (x1 + 1)) + 1)⟩:S56)) (wrap64 ((wrap64 ((wrap64 (x1 + 1)) + 1)) + 1)) (wrap64 (x5 + 1))))) else (none)) else (some (x1,x0))
def laws_markDueS.f (k:Nat) (l0:List (S56)) (a1:Int):Option (Int × (List (S56))):=laws_markDueS.l0 k l0 a1 0
theorem laws_markDueS.mono_l:∀ k,(∀ y0 y1 y2,LeO (laws_markDueS.l0 k y0 y1 y2) (laws_markDueS.l0 (k + 1) y0 y1 y2))
 | 0=>fun _ _ _ r h=>by simp [laws_markDueS.l0] at h
 | k + 1=>by
  have ih0:=laws_markDueS.mono_l k
  ·intro y0 y1 y2
   unfold laws_markDueS.l0
   repeat' first
   | (with_reducible exact ih0 _ _ _)
   | (with_reducible exact LeO.refl _)
   | (with_reducible exact LeO.none _)
   | (with_reducible refine LeO.ite ?_ ?_)
   | (with_reducible refine LeO.bind ?_ (fun _=>?_))
   | exact ih0 _ _ _
   | exact LeO.none _
   | refine LeO.ite ?_ ?_
   | refine LeO.bind ?_ (fun _=>?_)
theorem laws_markDueS.mono:∀ a0 a1 k,LeO (laws_markDueS.f k a0 a1) (laws_markDueS.f (k + 1) a0 a1):=by
 intro a0 a1 k
 have ih0:=laws_markDueS.mono_l k
 unfold laws_markDueS.f
 repeat' first
   | (with_reducible exact ih0 _ _ _)
   | (with_reducible exact LeO.refl _)
   | (with_reducible exact LeO.none _)
   | (with_reducible refine LeO.ite ?_ ?_)
   | (with_reducible refine LeO.bind ?_ (fun _=>?_))
   | exact ih0 _ _ _
   | exact LeO.none _
   | refine LeO.ite ?_ ?_
   | refine LeO.bind ?_ (fun _=>?_)
set_option maxHeartbeats 8000000 in
set_option maxRecDepth 100000 in
theorem laws_markDueS.calls (k:Nat) (P0_:Nat→Prop) (u9000_:Value) (l0:List (S56)) (a1:Int) (r1:Int) (r2:List (S56)) (w0 w:World) (hB:Below w0.heap.size w0 w) (ho0:Kd.R k56 56 w w0.heap.size P0_ u9000_ l0) (h:laws_markDueS.f k l0 a1=some (r1,r2)) :
  Calls Try.prog 49 #[u9000_,.int .i64 a1] w fun e w'=>e = .returned (.int .i64 r1)∧Kd.R k56 56 w' w0.heap.size (fun k_=>(P0_ k_∨w.heap.size≤k_)) u9000_ r2∧Below w0.heap.size w0 w'∧Kept w w' (fun k_=>P0_ k_):=by
 have HO0:=Aside0.mk (show Kd.R k56 56 w w0.heap.size (fun k_=>(P0_ k_∨w.heap.size≤k_)) u9000_ l0 from Kd.R_mono ho0 (fun k_ hk=>(.inl hk)))
 have HK:=Aside0.mk (Kept.refl w (fun k_=>P0_ k_))
 have HW0:=Aside0.mk hB.size
 have HB:=Aside0.mk hB
 clear hB
 have H:(laws_markDueS.l0 k l0 a1 0)=some (r1,r2):=h
 clear h
 have H':=Aside0.mk H
 clear H
 go_enter Try.func49,Try.ntmps49
 go_wp2
 go_loopg [1,5] k (fun kq v1 v5 w'=>∃ (x0_1:List (S56)) (x1_1:Int) (x5_1:Int),v1 = .int .i64 x1_1∧v5 = .int .i64 x5_1∧Aside0 (laws_markDueS.l0 kq x0_1 x1_1 x5_1=some (r1,r2))∧Aside0 (kq≤k)∧Aside0 (Kd.R k56 56 w' w0.heap.size (fun k_=>(P0_ k_∨w.heap.size≤k_)) u9000_ x0_1)∧Aside0 (Kept w w' (fun k_=>P0_ k_))∧Aside0 (Below w0.heap.size w0 w'))
 case atStart=>exact ⟨(l0),(a1),(0),(by first|rfl|(simp;done)|(simp [*];done)),(by first|rfl|(simp;done)|(simp [*];done)),H',⟨Nat.le_refl _⟩,⟨kr HO0⟩,⟨by repeat (first|(with_reducible first|exact HK.out|apply Kept.alloc|apply Kept.drewN|apply Kept.drew)|exact HK.out)⟩,⟨bl⟩⟩
 case round =>
  clear H'
  try clear p2
  obtain ⟨x0_1,x1_1,x5_1,rfl,rfl,HA,HK1,HO_0,HK,HB⟩:=hrel
  cases gk with
  | zero=>exact absurd HA.out (by simp [laws_markDueS.l0])
  | succ k1 =>
   have H:=HA.out
   clear HA
   simp only [laws_markDueS.l0] at H
   by_cases c3:x5_1 < (x0_1.length:Int)
   ·rw [if_pos c3] at H
    have c3b0:decide (x5_1 < (x0_1.length:Int))=true:=decide_eq_true c3
    clear c3
    by_cases c4:0≤x5_1
    case neg =>
     rw [if_neg c4] at H
     exact absurd H (by simp)
    rw [if_pos c4] at H
    have c4b0:decide (0≤x5_1)=true:=decide_eq_true c4
    clear c4
    obtain ⟨y256,hy256⟩:∃ y_:List (S56),y_=(x0_1.set (x5_1:Int).toNat (⟨x1_1,(rd_T56 x0_1 x5_1).f1,(rd_T56 x0_1 x5_1).f2⟩:S56)):=⟨_,rfl⟩
    replace H:((some (y256.set (x5_1:Int).toNat (⟨(rd_T56 y256 x5_1).f0,wrap64 (x1_1 + 1),(rd_T56 y256 x5_1).f2⟩:S56):List (S56))).bind fun y257=>(laws_markDueS.l0 k1 (y257.set (x5_1:Int).toNat (⟨(rd_T56 y257 x5_1).f0,(rd_T56 y257 x5_1).f1,wrap64 ((wrap64 (x1_1 + 1)) + 1)⟩:S56)) (wrap64 ((wrap64 ((wrap64 (x1_1 + 1)) + 1)) + 1)) (wrap64 (x5_1 + 1))))=some (r1,r2):=by first|(rw [hy256];with_reducible exact H)|(have H2_:=(Option.bind_some _ _).symm.trans H;rw [hy256];with_reducible exact H2_)|(have H2_:=(Option.bind_some _ _).symm.trans H;with_reducible exact H2_)|with_reducible exact H|(rw [hy256];exact H)|exact H
    have Ny256:=Aside0.mk hy256
    clear hy256
    obtain ⟨y257,hy257⟩:∃ y_:List (S56),y_=(y256.set (x5_1:Int).toNat (⟨(rd_T56 y256 x5_1).f0,wrap64 (x1_1 + 1),(rd_T56 y256 x5_1).f2⟩:S56)):=⟨_,rfl⟩
    replace H:(laws_markDueS.l0 k1 (y257.set (x5_1:Int).toNat (⟨(rd_T56 y257 x5_1).f0,(rd_T56 y257 x5_1).f1,wrap64 ((wrap64 (x1_1 + 1)) + 1)⟩:S56)) (wrap64 ((wrap64 ((wrap64 (x1_1 + 1)) + 1)) + 1)) (wrap64 (x5_1 + 1)))=some (r1,r2):=by first|(rw [hy257];with_reducible exact H)|(have H2_:=(Option.bind_some _ _).symm.trans H;rw [hy257];with_reducible exact H2_)|(have H2_:=(Option.bind_some _ _).symm.trans H;with_reducible exact H2_)|with_reducible exact H|(rw [hy257];exact H)|exact H
    have Ny257:=Aside0.mk hy257
    clear hy257
    obtain ⟨y258,hy258⟩:∃ y_:List (S56),y_=(y257.set (x5_1:Int).toNat (⟨(rd_T56 y257 x5_1).f0,(rd_T56 y257 x5_1).f1,wrap64 ((wrap64 (x1_1 + 1)) + 1)⟩:S56)):=⟨_,rfl⟩
    replace H:(laws_markDueS.l0 k1 y258 (wrap64 ((wrap64 ((wrap64 (x1_1 + 1)) + 1)) + 1)) (wrap64 (x5_1 + 1)))=some (r1,r2):=by first|(rw [hy258];with_reducible exact H)|(have H2_:=(Option.bind_some _ _).symm.trans H;rw [hy258];with_reducible exact H2_)|(have H2_:=(Option.bind_some _ _).symm.trans H;with_reducible exact H2_)|with_reducible exact H|(rw [hy258];exact H)|exact H
    have Ny258:=Aside0.mk hy258
    clear hy258
    have H':=Aside0.mk H
    clear H
    obtain ⟨Ao8,co8,eo8⟩:=Kd.R_slice HO_0.out
    subst eo8
    have p5:0≤(x5_1:Int):=od
    have q5:(x5_1:Int) < ((x0_1.length:Int):Int):=od
    obtain ⟨go5,co5,eo5,gb5,gl5,cl5,HG5⟩:=Kd.R_form HO_0.out (by omega)
    (first|cases eo5|(injection eo5 with ea_ en_ ec_;(first|subst ea_|(injection ea_ with ea_;subst ea_));subst ec_;clear en_))
    have GB5:=Aside0.mk gb5
    have GG5:=Aside0.mk HG5
    clear gb5 gl5 HG5
    have HMgo5:=Aside0.mk (show (P0_ go5∨w.heap.size≤go5) from (HO_0.out.1 _ rfl))
    obtain ⟨ce5,hcl5,hM5,hcc5,hfr5⟩:=Kd.R_elem HO_0.out z56 (x5_1:Int) p5 q5
    obtain rfl:=k56_openM hM5
    have hx5_0:wr.cell? ⟨go5,(x5_1:Int).toNat * 3,none⟩=some (.int .i64 ((rd_T56 x0_1 x5_1).f0)):=hcc5 0 _ rfl
    have hx5_1:wr.cell? ⟨go5,(x5_1:Int).toNat * 3 + 1,none⟩=some (.int .i64 ((rd_T56 x0_1 x5_1).f1)):=hcc5 1 _ rfl
    have hx5_2:wr.cell? ⟨go5,(x5_1:Int).toNat * 3 + 2,none⟩=some (.int .i64 ((rd_T56 x0_1 x5_1).f2)):=hcc5 2 _ rfl
    have hf5_0:wr.frozen? ⟨go5,(x5_1:Int).toNat * 3,none⟩=false:=hfr5 0
    have hf5_1:wr.frozen? ⟨go5,(x5_1:Int).toNat * 3 + 1,none⟩=false:=hfr5 1
    have hf5_2:wr.frozen? ⟨go5,(x5_1:Int).toNat * 3 + 2,none⟩=false:=hfr5 2
    clear hcl5 hcc5 hfr5 hM5
    replace p5:=eq_true p5
    replace q5:=eq_true q5
    have HX9:=Aside0.mk (show Kd.R k56 56 wr w0.heap.size (fun k_=>(P0_ k_∨w.heap.size≤k_)) (.slice (some ⟨go5,0,none⟩) x0_1.length co8) x0_1 from (kr HO_0))
    obtain ⟨ce9,hcl9,hM9,hcc9,hfr9⟩:=Kd.R_elem HX9.out z56 (x5_1:Int) od (by have h_:(x5_1:Int) < ((x0_1.length:Int):Int):=od;first|exact h_|(have e_:=(Kd.R_reads' HO_0.out).1;omega)|simpa using h_)
    obtain rfl:=k56_openM hM9
    have HP9:=Kd.R_seg HX9.out (x5_1:Int) od (by have h_:(x5_1:Int) < ((x0_1.length:Int):Int):=od;first|exact h_|(have e_:=(Kd.R_reads' HO_0.out).1;omega)|simpa using h_) (seg:=[.int .i64 x1_1]) (j:=0) hcl9 hcc9 (show 1≤3 from by decide) (x':=(⟨x1_1,(rd_T56 x0_1 x5_1).f1,(rd_T56 x0_1 x5_1).f2⟩:S56)) (k56_mkM _ _ _ (⟨x1_1,(rd_T56 x0_1 x5_1).f1,(rd_T56 x0_1 x5_1).f2⟩:S56) ) (fun _ hk=>hk)
    have hx9_0:=hcc9 0 _ rfl
    (try simp only [show (k56).sz=3 from rfl,Nat.mul_one,Nat.add_zero] at hx9_0)
    have hf9_0:=hfr9 0
    (try simp only [show (k56).sz=3 from rfl,Nat.mul_one,Nat.add_zero] at hf9_0)
    clear hcl9 hcc9 hfr9 hM9
    go_wp2_with (first|((with_reducible refine gate_store (t:=3) (p:=16) rfl ?_);refine sx 3 16 (wr.setCell ⟨go5,(x5_1:Int).toNat * 3,none⟩ (.int .i64 x1_1)) ?_;intro w10 hw;have hg:wr.grownBy w10 (some go5):=(by rw [hw];exact HP9.2);have hp_:Kd.R k56 56 w10 w0.heap.size (fun k_=>(P0_ k_∨w.heap.size≤k_)) (.slice (some ⟨go5,0,none⟩) x0_1.length co8) y256:=(by rw [hw,Ny256.out];exact HP9.1);clear HP9;replace HB:=Aside0.mk ((by rw [hw];exact below_set (HB.out) GB5.out:Below w0.heap.size w0 w10));replace HK:=Aside0.mk (Kept.of_grown (S:=(fun k_=>P0_ k_)) hg (by repeat (first|(with_reducible first|exact HK.out|apply Kept.alloc|apply Kept.drewN|apply Kept.drew)|exact HK.out)) (fun k_ e_=>(HO_0.out.1 k_ e_)));replace HO_0:=Aside0.mk (hp_);clear hg hw hp_;have p6:0≤(x5_1:Int):=od;have q6:(x5_1:Int) < ((x0_1.length:Int):Int):=od;obtain ⟨ce6,hcl6,hM6,hcc6,hfr6⟩:=Kd.R_elem HO_0.out z56 (x5_1:Int) p6 q6;obtain rfl:=k56_openM hM6;have hx6_0:w10.cell? ⟨go5,(x5_1:Int).toNat * 3,none⟩=some (.int .i64 ((rd_T56 y256 x5_1).f0)):=hcc6 0 _ rfl;have hx6_1:w10.cell? ⟨go5,(x5_1:Int).toNat * 3 + 1,none⟩=some (.int .i64 ((rd_T56 y256 x5_1).f1)):=hcc6 1 _ rfl;have hx6_2:w10.cell? ⟨go5,(x5_1:Int).toNat * 3 + 2,none⟩=some (.int .i64 ((rd_T56 y256 x5_1).f2)):=hcc6 2 _ rfl;have hf6_0:w10.frozen? ⟨go5,(x5_1:Int).toNat * 3,none⟩=false:=hfr6 0;have hf6_1:w10.frozen? ⟨go5,(x5_1:Int).toNat * 3 + 1,none⟩=false:=hfr6 1;have hf6_2:w10.frozen? ⟨go5,(x5_1:Int).toNat * 3 + 2,none⟩=false:=hfr6 2;clear hcl6 hcc6 hfr6 hM6;replace p6:=eq_true p6;replace q6:=eq_true q6;have HX11:=Aside0.mk (show Kd.R k56 56 w10 w0.heap.size (fun k_=>(P0_ k_∨w.heap.size≤k_)) (.slice (some ⟨go5,0,none⟩) x0_1.length co8) y256 from (kr HO_0));obtain ⟨ce11,hcl11,hM11,hcc11,hfr11⟩:=Kd.R_elem HX11.out z56 (x5_1:Int) od (by have h_:(x5_1:Int) < ((x0_1.length:Int):Int):=od;first|exact h_|(have e_:=(Kd.R_reads' HO_0.out).1;omega)|simpa using h_);obtain rfl:=k56_openM hM11;have HP11:=Kd.R_seg HX11.out (x5_1:Int) od (by have h_:(x5_1:Int) < ((x0_1.length:Int):Int):=od;first|exact h_|(have e_:=(Kd.R_reads' HO_0.out).1;omega)|simpa using h_) (seg:=[.int .i64 (wrap64 (x1_1 + 1))]) (j:=1) hcl11 hcc11 (show 2≤3 from by decide) (x':=(⟨(rd_T56 y256 x5_1).f0,wrap64 (x1_1 + 1),(rd_T56 y256 x5_1).f2⟩:S56)) (k56_mkM _ _ _ (⟨(rd_T56 y256 x5_1).f0,wrap64 (x1_1 + 1),(rd_T56 y256 x5_1).f2⟩:S56) ) (fun _ hk=>hk);have hx11_1:=hcc11 1 _ rfl;(try simp only [show (k56).sz=3 from rfl,Nat.mul_one,Nat.add_zero] at hx11_1);have hf11_1:=hfr11 1;(try simp only [show (k56).sz=3 from rfl,Nat.mul_one,Nat.add_zero] at hf11_1);clear hcl11 hcc11 hfr11 hM11)|((with_reducible refine gate_store (t:=3) (p:=23) rfl ?_);refine sx 3 23 (w10.setCell ⟨go5,(x5_1:Int).toNat * 3 + 1,none⟩ (.int .i64 (wrap64 (x1_1 + 1)))) ?_;intro w12 hw;have hg:w10.grownBy w12 (some go5):=(by rw [hw];exact HP11.2);have hp_:Kd.R k56 56 w12 w0.heap.size (fun k_=>(P0_ k_∨w.heap.size≤k_)) (.slice (some ⟨go5,0,none⟩) x0_1.length co8) y257:=(by rw [hw,Ny257.out];exact HP11.1);clear HP11;replace HB:=Aside0.mk ((by rw [hw];exact below_set (HB.out) GB5.out:Below w0.heap.size w0 w12));replace HK:=Aside0.mk (Kept.of_grown (S:=(fun k_=>P0_ k_)) hg (by repeat (first|(with_reducible first|exact HK.out|apply Kept.alloc|apply Kept.drewN|apply Kept.drew)|exact HK.out)) (fun k_ e_=>(HO_0.out.1 k_ e_)));replace HO_0:=Aside0.mk (hp_);clear hg hw hp_;have p7:0≤(x5_1:Int):=od;have q7:(x5_1:Int) < ((x0_1.length:Int):Int):=od;obtain ⟨ce7,hcl7,hM7,hcc7,hfr7⟩:=Kd.R_elem HO_0.out z56 (x5_1:Int) p7 q7;obtain rfl:=k56_openM hM7;have hx7_0:w12.cell? ⟨go5,(x5_1:Int).toNat * 3,none⟩=some (.int .i64 ((rd_T56 y257 x5_1).f0)):=hcc7 0 _ rfl;have hx7_1:w12.cell? ⟨go5,(x5_1:Int).toNat * 3 + 1,none⟩=some (.int .i64 ((rd_T56 y257 x5_1).f1)):=hcc7 1 _ rfl;have hx7_2:w12.cell? ⟨go5,(x5_1:Int).toNat * 3 + 2,none⟩=some (.int .i64 ((rd_T56 y257 x5_1).f2)):=hcc7 2 _ rfl;have hf7_0:w12.frozen? ⟨go5,(x5_1:Int).toNat * 3,none⟩=false:=hfr7 0;have hf7_1:w12.frozen? ⟨go5,(x5_1:Int).toNat * 3 + 1,none⟩=false:=hfr7 1;have hf7_2:w12.frozen? ⟨go5,(x5_1:Int).toNat * 3 + 2,none⟩=false:=hfr7 2;clear hcl7 hcc7 hfr7 hM7;replace p7:=eq_true p7;replace q7:=eq_true q7;have HX13:=Aside0.mk (show Kd.R k56 56 w12 w0.heap.size (fun k_=>(P0_ k_∨w.heap.size≤k_)) (.slice (some ⟨go5,0,none⟩) x0_1.length co8) y257 from (kr HO_0));obtain ⟨ce13,hcl13,hM13,hcc13,hfr13⟩:=Kd.R_elem HX13.out z56 (x5_1:Int) od (by have h_:(x5_1:Int) < ((x0_1.length:Int):Int):=od;first|exact h_|(have e_:=(Kd.R_reads' HO_0.out).1;omega)|simpa using h_);obtain rfl:=k56_openM hM13;have HP13:=Kd.R_seg HX13.out (x5_1:Int) od (by have h_:(x5_1:Int) < ((x0_1.length:Int):Int):=od;first|exact h_|(have e_:=(Kd.R_reads' HO_0.out).1;omega)|simpa using h_) (seg:=[.int .i64 (wrap64 ((wrap64 (x1_1 + 1)) + 1))]) (j:=2) hcl13 hcc13 (show 3≤3 from by decide) (x':=(⟨(rd_T56 y257 x5_1).f0,(rd_T56 y257 x5_1).f1,wrap64 ((wrap64 (x1_1 + 1)) + 1)⟩:S56)) (k56_mkM _ _ _ (⟨(rd_T56 y257 x5_1).f0,(rd_T56 y257 x5_1).f1,wrap64 ((wrap64 (x1_1 + 1)) + 1)⟩:S56) ) (fun _ hk=>hk);have hx13_2:=hcc13 2 _ rfl;(try simp only [show (k56).sz=3 from rfl,Nat.mul_one,Nat.add_zero] at hx13_2);have hf13_2:=hfr13 2;(try simp only [show (k56).sz=3 from rfl,Nat.mul_one,Nat.add_zero] at hf13_2);clear hcl13 hcc13 hfr13 hM13)|((with_reducible refine gate_store (t:=3) (p:=30) rfl ?_);refine sx 3 30 (w12.setCell ⟨go5,(x5_1:Int).toNat * 3 + 2,none⟩ (.int .i64 (wrap64 ((wrap64 (x1_1 + 1)) + 1)))) ?_;intro w14 hw;have hg:w12.grownBy w14 (some go5):=(by rw [hw];exact HP13.2);have hp_:Kd.R k56 56 w14 w0.heap.size (fun k_=>(P0_ k_∨w.heap.size≤k_)) (.slice (some ⟨go5,0,none⟩) x0_1.length co8) y258:=(by rw [hw,Ny258.out];exact HP13.1);clear HP13;replace HB:=Aside0.mk ((by rw [hw];exact below_set (HB.out) GB5.out:Below w0.heap.size w0 w14));replace HK:=Aside0.mk (Kept.of_grown (S:=(fun k_=>P0_ k_)) hg (by repeat (first|(with_reducible first|exact HK.out|apply Kept.alloc|apply Kept.drewN|apply Kept.drew)|exact HK.out)) (fun k_ e_=>(HO_0.out.1 k_ e_)));replace HO_0:=Aside0.mk (hp_);clear hg hw hp_))
    go_roundg k1
    case measure=>have:=HK1.out;omega
    case rel=>exact ⟨(y258),(wrap64 ((wrap64 ((wrap64 (x1_1 + 1)) + 1)) + 1)),(wrap64 (x5_1 + 1)),(by first|rfl|(simp;done)|(simp [*];done)),(by first|rfl|(simp;done)|(simp [*];done)),H',⟨by have:=HK1.out;omega⟩,⟨kr HO_0⟩,⟨by repeat (first|(with_reducible first|exact HK.out|apply Kept.alloc|apply Kept.drewN|apply Kept.drew)|exact HK.out)⟩,⟨bl⟩⟩
   ·rw [if_neg c3] at H
    have c3b0:decide (x5_1 < (x0_1.length:Int))=false:=decide_eq_false c3
    clear c3
    simp only [Option.some.injEq,Prod.mk.injEq] at H
    obtain ⟨rfl,rfl⟩:=H
    obtain ⟨Ao15,co15,eo15⟩:=Kd.R_slice HO_0.out
    subst eo15
    go_wp2
    go_ret
    exact ⟨er,kr HO_0,bl,by repeat (first|(with_reducible first|exact HK.out|apply Kept.alloc|apply Kept.drewN|apply Kept.drew)|exact HK.out)⟩

/-! ### laws_markHeap: function 14 -/
def laws_markHeap.f (k:Nat) (l0_0:List (S56)) (a0_1:Int) (a1:Int):Option (Int × (List (S56))):=(laws_markDueS.f k l0_0 a1).bind fun bt260=>(some (bt260.1,bt260.2))
theorem laws_markHeap.mono:∀ a0 a1 a2 k,LeO (laws_markHeap.f k a0 a1 a2) (laws_markHeap.f (k + 1) a0 a1 a2):=by
 intro a0 a1 a2 k
 unfold laws_markHeap.f
 repeat' first
   | (with_reducible exact laws_markDueS.mono _ _ _)
   | (with_reducible exact LeO.refl _)
   | (with_reducible exact LeO.none _)
   | (with_reducible refine LeO.ite ?_ ?_)
   | (with_reducible refine LeO.bind ?_ (fun _=>?_))
   | exact laws_markDueS.mono _ _ _
   | exact LeO.none _
   | refine LeO.ite ?_ ?_
   | refine LeO.bind ?_ (fun _=>?_)
set_option maxHeartbeats 8000000 in
set_option maxRecDepth 100000 in
theorem laws_markHeap.calls (k:Nat) (P0_0_:Nat→Prop) (u9000_:Value) (l0_0:List (S56)) (a0_1:Int) (a1:Int) (r1:Int) (r2:List (S56)) (w0 w:World) (hB:Below w0.heap.size w0 w) (ho0_0:Kd.R k56 56 w w0.heap.size P0_0_ u9000_ l0_0) (h:laws_markHeap.f k l0_0 a0_1 a1=some (r1,r2)) :
  Calls Try.prog 14 #[.agg #[u9000_,.int .i64 a0_1],.int .i64 a1] w fun e w'=>e = .returned (.int .i64 r1)∧Kd.R k56 56 w' w0.heap.size (fun k_=>(P0_0_ k_∨w.heap.size≤k_)) u9000_ r2∧Below w0.heap.size w0 w'∧Kept w w' (fun k_=>P0_0_ k_):=by
 have hu28:=Try.underlying28
 have HO0_0:=Aside0.mk (show Kd.R k56 56 w w0.heap.size (fun k_=>(P0_0_ k_∨w.heap.size≤k_)) u9000_ l0_0 from Kd.R_mono ho0_0 (fun k_ hk=>(.inl hk)))
 have HK:=Aside0.mk (Kept.refl w (fun k_=>P0_0_ k_))
 have HW0:=Aside0.mk hB.size
 have HB:=Aside0.mk hB
 clear hB
 have H:((laws_markDueS.f k l0_0 a1).bind fun bt260=>(some (bt260.1,bt260.2)))=some (r1,r2):=h
 clear h
 replace H:=Option.bind_eq_some_iff.mp H
 obtain ⟨⟨t260,t261⟩,A30,H⟩:=H
 replace H:(some (t260,t261))=some (r1,r2):=H
 have A3:=Aside0.mk A30
 clear A30
 simp only [Option.some.injEq,Prod.mk.injEq] at H
 obtain ⟨rfl,rfl⟩:=H
 obtain ⟨Ao4,co4,eo4⟩:=Kd.R_slice HO0_0.out
 subst eo4
 go_enter Try.func14,Try.ntmps14
 go_wp2_with (first|((with_reducible refine gate_dst (N:=2) rfl ?_);refine bx 2 #[.slice Ao4 l0_0.length co4,.int .i64 a0_1] 28 ?_;intro gb259 hg w5 hbox hb;replace HO0_0:=Aside0.mk (Kd.R_below (kr HO0_0) hb);have BK259:=Aside0.mk (hbox);have GW259:=Aside0.mk ((by rw [hg];exact (by first|exact HK.out.1|exact (show Kept w _ (fun k_=>P0_0_ k_) from by repeat (first|(with_reducible first|exact HK.out|apply Kept.alloc|apply Kept.drewN|apply Kept.drew)|exact HK.out)).1):w.heap.size≤gb259));replace HK:=Aside0.mk (Kept.below (S:=(fun k_=>P0_0_ k_)) (by repeat (first|(with_reducible first|exact HK.out|apply Kept.alloc|apply Kept.drewN|apply Kept.drew)|exact HK.out)) hb);have GE259:=Aside0.mk (bz hg:w0.heap.size≤gb259);replace HB:=Aside0.mk (below_step bl hb);clear hb hbox hg;obtain ⟨hcz6_0,hcz6_1,hfz6_0,hfz6_1⟩:=ck2 BK259.out)|((with_reducible refine gate_callee (f:=49) rfl ?_);refine gl (some 8) Try.func49 #[.slice Ao4 l0_0.length co4,.int .i64 a1] ?_;(with_reducible refine (laws_markDueS.calls k (fun k_=>some k_=(.slice Ao4 l0_0.length co4:Value).ownBlock) (.slice Ao4 l0_0.length co4) l0_0 a1 t260 t261 w0 _ ?side1 ?side2 A3.out).mono ?_);(case side1=>repeat (first|(with_reducible first|exact HB.out|apply below_alloc|apply pw_below_drewN|apply below_drew1|refine below_set ?_ GE259.out)|exact HB.out));(case side2=>exact Kd.R_tight rfl HO0_0.out);rintro e w7 ⟨rfl,hy0,hb,hkp⟩;refine ⟨_,rfl,?_⟩;replace BK259:=Aside0.mk (blk_kept (bk BK259) hkp (fun hs_=>(fun e_=>(Kd.R_ne HO0_0.out BK259.out (by decide)) e_) hs_));replace HK:=Aside0.mk (Kept.then_ (S:=(fun k_=>P0_0_ k_)) (by repeat (first|(with_reducible first|exact HK.out|apply Kept.alloc|apply Kept.drewN|apply Kept.drew|refine Kept.setCell ?_ (.inr GW259.out) _)|exact HK.out)) hkp (fun k_ hs_=>(fun e_=>(HO0_0.out.1 k_ e_.symm)) hs_));replace HO0_0:=Aside0.mk (Kd.R_reok rfl hy0 (fun k_ e_=>HO0_0.out.1 k_ e_));replace HB:=Aside0.mk (hb);(try clear hb);(try clear hkp);(try clear hy0)))
 go_ret
 exact ⟨er,kr HO0_0,bl,by repeat (first|(with_reducible first|exact HK.out|apply Kept.alloc|apply Kept.drewN|apply Kept.drew|refine Kept.setCell ?_ (.inr GW259.out) _)|exact HK.out)⟩

/-! ### laws_heldDueS: function 50 -/
def laws_heldDueS.l0:Nat→List (S56)→Int→Int→Option (Int)
 | 0,_,_,_=>none
 | k + 1,x0,x1,x5=>if x5 < (x0.length:Int) then (if 0≤x5 then (if ((rd_T56 x0 x5).f0)=x1 then (if ((rd_T56 x0 x5).f1)=(wrap64 (x1 + 1)) then (if ((rd_T56 x0 x5).f2)=(wrap64 ((wrap64 (x1 + 1)) + 1)) then (laws_heldDueS.l0 k x0 (wrap64 ((wrap64 ((wrap64 (x1 + 1)) + 1)) + 1)) (wrap64 (x5 + 1))) else (none)) else (none)) else (none)) else (none)) else (some x1)
def laws_heldDueS.f (k:Nat) (l0:List (S56)) (a1:Int):Option (Int):=laws_heldDueS.l0 k l0 a1 0
theorem laws_heldDueS.mono_l:∀ k,(∀ y0 y1 y2,LeO (laws_heldDueS.l0 k y0 y1 y2) (laws_heldDueS.l0 (k + 1) y0 y1 y2))
 | 0=>fun _ _ _ r h=>by simp [laws_heldDueS.l0] at h
 | k + 1=>by
  have ih0:=laws_heldDueS.mono_l k
  ·intro y0 y1 y2
   unfold laws_heldDueS.l0
   repeat' first
   | (with_reducible exact ih0 _ _ _)
   | (with_reducible exact LeO.refl _)
   | (with_reducible exact LeO.none _)
   | (with_reducible refine LeO.ite ?_ ?_)
   | (with_reducible refine LeO.bind ?_ (fun _=>?_))
   | exact ih0 _ _ _
   | exact LeO.none _
   | refine LeO.ite ?_ ?_
   | refine LeO.bind ?_ (fun _=>?_)
theorem laws_heldDueS.mono:∀ a0 a1 k,LeO (laws_heldDueS.f k a0 a1) (laws_heldDueS.f (k + 1) a0 a1):=by
 intro a0 a1 k
 have ih0:=laws_heldDueS.mono_l k
 unfold laws_heldDueS.f
 repeat' first
   | (with_reducible exact ih0 _ _ _)
   | (with_reducible exact LeO.refl _)
   | (with_reducible exact LeO.none _)
   | (with_reducible refine LeO.ite ?_ ?_)
   | (with_reducible refine LeO.bind ?_ (fun _=>?_))
   | exact ih0 _ _ _
   | exact LeO.none _
   | refine LeO.ite ?_ ?_
   | refine LeO.bind ?_ (fun _=>?_)
set_option maxHeartbeats 8000000 in
set_option maxRecDepth 100000 in
theorem laws_heldDueS.calls (k:Nat) (A0:Option Addr) (c0:Nat) (l0:List (S56)) (a1:Int) (r:Int) (w:World) (hr0:Kd.C k56 w A0 l0.length l0) (hc0:l0.length≤c0) (h:laws_heldDueS.f k l0 a1=some r) :
  Calls Try.prog 50 #[.slice A0 l0.length c0,.int .i64 a1] w fun e w'=>e = .returned (.int .i64 r)∧Drawn0 w w':=by
 have HR0:=Aside0.mk hr0
 have HC0:=Aside0.mk hc0
 clear hr0 hc0
 have H:(laws_heldDueS.l0 k l0 a1 0)=some r:=h
 clear h
 have H':=Aside0.mk H
 clear H
 go_enter Try.func50,Try.ntmps50
 go_wp2
 go_loopg [1,5] k (fun kq v1 v5 w'=>∃ (x1_1:Int) (x5_1:Int),v1 = .int .i64 x1_1∧v5 = .int .i64 x5_1∧Aside0 (laws_heldDueS.l0 kq l0 x1_1 x5_1=some r)∧Aside0 (kq≤k)∧Drawn0 w w')
 case atStart=>exact ⟨(a1),(0),(by first|rfl|(simp;done)|(simp [*];done)),(by first|rfl|(simp;done)|(simp [*];done)),H',⟨Nat.le_refl _⟩,by repeat (first|exact Drawn0.refl _|apply Drawn0.step)⟩
 case round =>
  clear H'
  try clear p2
  obtain ⟨x1_1,x5_1,rfl,rfl,HA,HK1,⟨m1,rfl⟩⟩:=hrel
  cases gk with
  | zero=>exact absurd HA.out (by simp [laws_heldDueS.l0])
  | succ k1 =>
   have H:=HA.out
   clear HA
   simp only [laws_heldDueS.l0] at H
   by_cases c3:x5_1 < (l0.length:Int)
   ·rw [if_pos c3] at H
    have c3b0:decide (x5_1 < (l0.length:Int))=true:=decide_eq_true c3
    clear c3
    by_cases c4:0≤x5_1
    case neg =>
     rw [if_neg c4] at H
     exact absurd H (by simp)
    rw [if_pos c4] at H
    have c4b0:decide (0≤x5_1)=true:=decide_eq_true c4
    clear c4
    by_cases c5:((rd_T56 l0 x5_1).f0)=x1_1
    case neg =>
     rw [if_neg c5] at H
     exact absurd H (by simp)
    rw [if_pos c5] at H
    have c5b0:(((rd_T56 l0 x5_1).f0) == x1_1)=true:=beq_iff_eq.mpr c5
    have c5b1:(((rd_T56 l0 x5_1).f0) != x1_1)=false:=bne_eq_false_iff_eq.mpr c5
    clear c5
    by_cases c6:((rd_T56 l0 x5_1).f1)=(wrap64 (x1_1 + 1))
    case neg =>
     rw [if_neg c6] at H
     exact absurd H (by simp)
    rw [if_pos c6] at H
    have c6b0:(((rd_T56 l0 x5_1).f1) == (wrap64 (x1_1 + 1)))=true:=beq_iff_eq.mpr c6
    have c6b1:(((rd_T56 l0 x5_1).f1) != (wrap64 (x1_1 + 1)))=false:=bne_eq_false_iff_eq.mpr c6
    clear c6
    by_cases c7:((rd_T56 l0 x5_1).f2)=(wrap64 ((wrap64 (x1_1 + 1)) + 1))
    case neg =>
     rw [if_neg c7] at H
     exact absurd H (by simp)
    rw [if_pos c7] at H
    have c7b0:(((rd_T56 l0 x5_1).f2) == (wrap64 ((wrap64 (x1_1 + 1)) + 1)))=true:=beq_iff_eq.mpr c7
    have c7b1:(((rd_T56 l0 x5_1).f2) != (wrap64 ((wrap64 (x1_1 + 1)) + 1)))=false:=bne_eq_false_iff_eq.mpr c7
    clear c7
    have H':=Aside0.mk H
    clear H
    have p262:0≤(x5_1:Int):=od
    have q262:x5_1 < (l0.length:Int):=od
    obtain ⟨ad262,e262,hx262_0,hx262_1,hx262_2⟩:=at_T56 HR0.out x5_1 p262 q262
    cases e262
    replace p262:=eq_true p262
    replace q262:=eq_true q262
    have p263:0≤(x5_1:Int):=od
    have q263:x5_1 < (l0.length:Int):=od
    obtain ⟨ad263,e263,hx263_0,hx263_1,hx263_2⟩:=at_T56 HR0.out x5_1 p263 q263
    obtain rfl:ad262=ad263:=(by injection e263)
    replace p263:=eq_true p263
    replace q263:=eq_true q263
    have p264:0≤(x5_1:Int):=od
    have q264:x5_1 < (l0.length:Int):=od
    obtain ⟨ad264,e264,hx264_0,hx264_1,hx264_2⟩:=at_T56 HR0.out x5_1 p264 q264
    obtain rfl:ad262=ad264:=(by injection e264)
    replace p264:=eq_true p264
    replace q264:=eq_true q264
    go_wp2
    go_roundg k1
    case measure=>have:=HK1.out;omega
    case rel=>exact ⟨(wrap64 ((wrap64 ((wrap64 (x1_1 + 1)) + 1)) + 1)),(wrap64 (x5_1 + 1)),(by first|rfl|(simp;done)|(simp [*];done)),(by first|rfl|(simp;done)|(simp [*];done)),H',⟨by have:=HK1.out;omega⟩,by repeat (first|exact Drawn0.refl _|apply Drawn0.step)⟩
   ·rw [if_neg c3] at H
    have c3b0:decide (x5_1 < (l0.length:Int))=false:=decide_eq_false c3
    clear c3
    obtain rfl:=Option.some.inj H
    go_wp2
    go_ret
    exact ⟨by first|rfl|(simp;done)|(simp [*];done),by repeat (first|exact Drawn0.refl _|apply Drawn0.step)⟩

end Go.Proofs.Ytdffkcbaijbhoaa.PFnExactCancelDue
