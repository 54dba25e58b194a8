/- Contracts of functions of the given program: what each call answers. Written by a program of this session, out of the text of the functions. -/
import Derived.Test.YtdffkcbaijbhoaaPFnExactSchedulex0
import Derived.Test.YtdffkcbaijbhoaaPFnExactSchedulex8
import Derived.Test.YtdffkcbaijbhoaaPFnExactSchedulex10
import Derived.Test.YtdffkcbaijbhoaaPrs
namespace Go.Proofs.Ytdffkcbaijbhoaa.PFnExactSchedule
open Go.RowKit Go.Proofs.YtdffkcbaijbhoaaW.PrintWords Go.Proofs.YtdffkcbaijbhoaaW.PrintLast Go.Proofs.YtdffkcbaijbhoaaW.PrintMore Go.Proofs.Ytdffkcbaijbhoaa.Giv Go.Proofs.Ytdffkcbaijbhoaa.Prs
attribute [local go_sem] max2_int min2_int max_two min_two max_three min_three max_four min_four   -- for this text's walks alone
set_option linter.unusedVariables false
set_option linter.unusedSimpArgs false

/-! ### impl_Heap_down: function 74 -/
mutual
def impl_Heap_down.l0:Nat→Int→List (S56)→Int→Option ((List (S56)))
 | 0,_,_,_=>none
 | k + 1,x1,x283000,x283001=>(some (([wrap64 ((wrap64 (2 * x1)) + 1),wrap64 ((wrap64 (2 * x1)) + 2)]:List Int):List Int)).bind fun y283=>(impl_Heap_down.l1 k x1 x1 y283 (y283.length:Int) 0 x283000 x283001)
def impl_Heap_down.l1:Nat→Int→Int→List Int→Int→Int→List (S56)→Int→Option ((List (S56)))
 | 0,_,_,_,_,_,_,_=>none
 | k + 1,x1,x4,x14,x15,x16,x283000,x283001=>if x16 < x15 then (if 0≤x16 then (if x16 < (x14.length:Int) then (if (rd x14 x16) < (x283000.length:Int) then (if 0≤(rd x14 x16) then (if 0≤x4 then (if x4 < (x283000.length:Int) then ((impl_Due_before.f k ((rd_T56 x283000 (rd x14 x16)).f0) ((rd_T56 x283000 (rd x14 x16)).f1) ((rd_T56 x283000 (rd x14 x16)).f2) ((rd_T56 x283000 x4).f0) ((rd_T56 x283000 x4).f1) ((rd_T56 x283000 x4).f2)).bind fun t289=>(if t289=true then (impl_Heap_down.l1 k x1 (rd x14 x16) x14 x15 (wrap64 (x16 + 1)) x283000 x283001) else (impl_Heap_down.l1 k x1 x4 x14 x15 (wrap64 (x16 + 1)) x283000 x283001))) else (none)) else (none)) else (none)) else (impl_Heap_down.l1 k x1 x4 x14 x15 (wrap64 (x16 + 1)) x283000 x283001)) else (none)) else (none)) else (if x4=x1 then (some x283000) else ((impl_Heap_swap.f x283000 x283001 x1 x4).bind fun t290=>(impl_Heap_down.l0 k x4 t290 x283001)))
end
def impl_Heap_down.f (k:Nat) (l0_0:List (S56)) (a0_1:Int) (a1:Int):Option ((List (S56))):=impl_Heap_down.l0 k a1 l0_0 a0_1
theorem impl_Heap_down.mono_l:∀ k,(∀ y0 y1 y2,LeO (impl_Heap_down.l0 k y0 y1 y2) (impl_Heap_down.l0 (k + 1) y0 y1 y2))∧(∀ y0 y1 y2 y3 y4 y5 y6,LeO (impl_Heap_down.l1 k y0 y1 y2 y3 y4 y5 y6) (impl_Heap_down.l1 (k + 1) y0 y1 y2 y3 y4 y5 y6))
 | 0=>⟨fun _ _ _ r h=>by simp [impl_Heap_down.l0] at h,fun _ _ _ _ _ _ _ r h=>by simp [impl_Heap_down.l1] at h⟩
 | k + 1=>by
  obtain ⟨ih0,ih1⟩:=impl_Heap_down.mono_l k
  refine ⟨?_,?_⟩
  ·intro y0 y1 y2
   unfold impl_Heap_down.l0
   repeat' first
   | (with_reducible exact ih0 _ _ _)
   | (with_reducible exact ih1 _ _ _ _ _ _ _)
   | (with_reducible exact impl_Due_before.mono _ _ _ _ _ _ _)
   | (with_reducible exact LeO.refl _)
   | (with_reducible exact LeO.none _)
   | (with_reducible refine LeO.ite ?_ ?_)
   | (with_reducible refine LeO.bind ?_ (fun _=>?_))
   | exact ih0 _ _ _
   | exact ih1 _ _ _ _ _ _ _
   | exact impl_Due_before.mono _ _ _ _ _ _ _
   | exact LeO.none _
   | refine LeO.ite ?_ ?_
   | refine LeO.bind ?_ (fun _=>?_)
  ·intro y0 y1 y2 y3 y4 y5 y6
   unfold impl_Heap_down.l1
   repeat' first
   | (with_reducible exact ih0 _ _ _)
   | (with_reducible exact ih1 _ _ _ _ _ _ _)
   | (with_reducible exact impl_Due_before.mono _ _ _ _ _ _ _)
   | (with_reducible exact LeO.refl _)
   | (with_reducible exact LeO.none _)
   | (with_reducible refine LeO.ite ?_ ?_)
   | (with_reducible refine LeO.bind ?_ (fun _=>?_))
   | exact ih0 _ _ _
   | exact ih1 _ _ _ _ _ _ _
   | exact impl_Due_before.mono _ _ _ _ _ _ _
   | exact LeO.none _
   | refine LeO.ite ?_ ?_
   | refine LeO.bind ?_ (fun _=>?_)
theorem impl_Heap_down.mono:∀ a0 a1 a2 k,LeO (impl_Heap_down.f k a0 a1 a2) (impl_Heap_down.f (k + 1) a0 a1 a2):=by
 intro a0 a1 a2 k
 obtain ⟨ih0,ih1⟩:=impl_Heap_down.mono_l k
 unfold impl_Heap_down.f
 repeat' first
   | (with_reducible exact ih0 _ _ _)
   | (with_reducible exact ih1 _ _ _ _ _ _ _)
   | (with_reducible exact impl_Due_before.mono _ _ _ _ _ _ _)
   | (with_reducible exact LeO.refl _)
   | (with_reducible exact LeO.none _)
   | (with_reducible refine LeO.ite ?_ ?_)
   | (with_reducible refine LeO.bind ?_ (fun _=>?_))
   | exact ih0 _ _ _
   | exact ih1 _ _ _ _ _ _ _
   | exact impl_Due_before.mono _ _ _ _ _ _ _
   | exact LeO.none _
   | refine LeO.ite ?_ ?_
   | refine LeO.bind ?_ (fun _=>?_)
def impl_Heap_down.T5:Bool × List (List Nat × List Nat):=(true,[([],[]),([],[]),([1],[1]),([2],[2]),([0,3],[0,3]),([4],[4]),([5],[5]),([6,5],[5,6]),([5],[5]),([7,8,5],[5,7,8]),([9,5],[5,9]),([5],[5]),([11,5],[5,11]),([5],[5]),([12,13,5],[5,12,13]),([14,5],[5,14]),([10,15,5,5],[5,10,15]),([5,16],[5,16])])
def impl_Heap_down.B5:List Nat:=[0,0,2,6,15,31,63,127,63,511,1023,63,2111,63,14399,30783,65535,131071]
theorem impl_Heap_down.tab5:rtab .any (opsOf Try.f74 5)=impl_Heap_down.T5:=by kernel_rfl
theorem impl_Heap_down.bits5:waitsOk impl_Heap_down.T5.2 impl_Heap_down.B5=true:=by kernel_rfl
set_option maxHeartbeats 8000000 in
set_option maxRecDepth 100000 in
theorem impl_Heap_down.calls (k:Nat) (P0_0_:Nat→Prop) (u9000_:Value) (l0_0:List (S56)) (a0_1:Int) (a1:Int) (r:List (S56)) (w0 w:World) (hB:Below w0.heap.size w0 w) (ho0_0:Kd.R k56 56 w w0.heap.size P0_0_ u9000_ l0_0) (h:impl_Heap_down.f k l0_0 a0_1 a1=some r) :
  Calls Try.prog 74 #[.agg #[u9000_,.int .i64 a0_1],.int .i64 a1] w fun e w'=>e = .returned (.tuple #[])∧Kd.R k56 56 w' w0.heap.size (fun k_=>(P0_0_ k_∨w.heap.size≤k_)) u9000_ r∧Below w0.heap.size w0 w'∧Kept w w' (fun k_=>P0_0_ k_):=by
 have hu28:=Try.underlying28
 have hu56:=Try.underlying56
 have HO0_0:=Aside0.mk (show Kd.R k56 56 w w0.heap.size (fun k_=>(P0_0_ k_∨w.heap.size≤k_)) u9000_ l0_0 from Kd.R_mono ho0_0 (fun k_ hk=>(.inl hk)))
 have HK:=Aside0.mk (Kept.refl w (fun k_=>P0_0_ k_))
 have HW0:=Aside0.mk hB.size
 have HB:=Aside0.mk hB
 clear hB
 have H:(impl_Heap_down.l0 k a1 l0_0 a0_1)=some r:=h
 clear h
 have H':=Aside0.mk H
 clear H
 obtain ⟨Ao3,co3,eo3⟩:=Kd.R_slice HO0_0.out
 subst eo3
 go_enter Try.func74,Try.ntmps74
 go_wp2_with (first|((with_reducible refine gate_dst (N:=2) rfl ?_);refine bx 2 #[.slice Ao3 l0_0.length co3,.int .i64 a0_1] 28 ?_;intro gb282 hg w4 hbox hb;replace HO0_0:=Aside0.mk (Kd.R_below (kr HO0_0) hb);have BK282:=Aside0.mk (hbox);have GW282:=Aside0.mk ((by rw [hg];exact (by first|exact HK.out.1|exact (show Kept w _ (fun k_=>P0_0_ k_) from by repeat (first|(with_reducible first|exact HK.out|apply Kept.alloc|apply Kept.drewN|apply Kept.drew)|exact HK.out)).1):w.heap.size≤gb282));replace HK:=Aside0.mk (Kept.below (S:=(fun k_=>P0_0_ k_)) (by repeat (first|(with_reducible first|exact HK.out|apply Kept.alloc|apply Kept.drewN|apply Kept.drew)|exact HK.out)) hb);have GE282:=Aside0.mk (bz hg:w0.heap.size≤gb282);replace HB:=Aside0.mk (below_step bl hb);clear hb hbox hg))
 (try simp only [Act.put,List.setIfInBounds_toArray,List.set_cons_zero,List.set_cons_succ])
 go_loopg [1] k (fun kq v1 w'=>∃ (x1_1:Int) (x283000_1:List (S56)),v1 = .int .i64 x1_1∧Aside0 (impl_Heap_down.l0 kq x1_1 x283000_1 a0_1=some r)∧Aside0 (kq≤k)∧Aside0 (Kd.R k56 56 w' w0.heap.size (fun k_=>(P0_0_ k_∨w.heap.size≤k_)) (.slice Ao3 l0_0.length co3) x283000_1)∧Aside0 (w'.heap[gb282]? = some (.cells #[(.slice Ao3 l0_0.length co3),.int .i64 a0_1] 28 (0,0)))∧Aside0 (Kept w w' (fun k_=>P0_0_ k_))∧Aside0 (Below w0.heap.size w0 w'))
 case atStart=>exact ⟨(a1),(l0_0),(by first|rfl|(simp;done)|(simp [*];done)),H',⟨Nat.le_refl _⟩,⟨kr HO0_0⟩,⟨bk BK282⟩,⟨by repeat (first|(with_reducible first|exact HK.out|apply Kept.alloc|apply Kept.drewN|apply Kept.drew|refine Kept.setCell ?_ (.inr GW282.out) _)|exact HK.out)⟩,⟨bl⟩⟩
 case round =>
  clear H'
  try clear p2
  obtain ⟨x1_1,x283000_1,rfl,HA,HK1,HO_283000,BK282,HK,HB⟩:=hrel
  have hl283000_1:=(Kd.R_reads' HO_283000.out).1
  rw [hl283000_1] at HO_283000
  (try simp only [hl283000_1])
  (try simp only [hl283000_1] at BK282)
  cases gk with
  | zero=>exact absurd HA.out (by simp [impl_Heap_down.l0])
  | succ k1 =>
   have H:=HA.out
   clear HA
   simp only [impl_Heap_down.l0] at H
   obtain ⟨y283,hy283⟩:∃ y_:List Int,y_=(([wrap64 ((wrap64 (2 * x1_1)) + 1),wrap64 ((wrap64 (2 * x1_1)) + 2)]:List Int)):=⟨_,rfl⟩
   replace H:(impl_Heap_down.l1 k1 x1_1 x1_1 y283 (y283.length:Int) 0 x283000_1 a0_1)=some r:=by first|(rw [hy283];with_reducible exact H)|(have H2_:=(Option.bind_some _ _).symm.trans H;rw [hy283];with_reducible exact H2_)|(have H2_:=(Option.bind_some _ _).symm.trans H;with_reducible exact H2_)|with_reducible exact H|(rw [hy283];exact H)|exact H
   have Ny283:=Aside0.mk hy283
   clear hy283
   have H':=Aside0.mk H
   clear H
   go_wp2_with (first|((with_reducible refine gate_dst (N:=14) rfl ?_);refine Kd.R_lit (Kd.int .i64) _ 3 ?hg (N:=14) ?hd (xs:=([wrap64 ((wrap64 (2 * x1_1)) + 1),wrap64 ((wrap64 (2 * x1_1)) + 2)]:List Int)) (inner:=[.int .i64 (wrap64 ((wrap64 (2 * x1_1)) + 1)),.int .i64 (wrap64 ((wrap64 (2 * x1_1)) + 2))]) (ok:=fun _=>True) (okp:=fun _=>True) ?hr ?hp (fun _ hk=>hk) trivial (Below.refl _ _) (Nat.le_refl _) (by simp) ?_;(case hd=>rfl);(case hg=>rfl);(case hr=>first|(go_simp;done)|(go_simp;rfl));(case hp=>exact (Reps.one (show Kd.M (Kd.int .i64) _ _ _ (wrap64 ((wrap64 (2 * x1_1)) + 1)) [.int .i64 (wrap64 ((wrap64 (2 * x1_1)) + 1))] from rfl) (Reps.one (show Kd.M (Kd.int .i64) _ _ _ (wrap64 ((wrap64 (2 * x1_1)) + 2)) [.int .i64 (wrap64 ((wrap64 (2 * x1_1)) + 2))] from rfl) (Reps.none _ _))));intro v284 w5 ho6 hb hg_ hnew_;clear hg_ hnew_;(first|rw [← Ny283.out] at ho6|(simp only [Int.reduceToNat] at ho6;rw [← Ny283.out] at ho6));replace HO_283000:=Aside0.mk (Kd.R_below (kr HO_283000) hb);have HO285:=Aside0.mk (Kd.R_lower (Kd.R_newM (M:=fun k_=>(P0_0_ k_∨w.heap.size≤k_)) ho6 (by first|exact HK.out.1|exact (show Kept w _ (fun k_=>P0_0_ k_) from by repeat (first|(with_reducible first|exact HK.out|apply Kept.alloc|apply Kept.drewN|apply Kept.drew|refine Kept.setCell ?_ (.inr GW282.out) _)|exact HK.out)).1) (fun k_ h_=>.inr h_)) (below_size bl));replace BK282:=Aside0.mk (blk_below (bk BK282) hb);replace HK:=Aside0.mk (Kept.below (S:=(fun k_=>P0_0_ k_)) (by repeat (first|(with_reducible first|exact HK.out|apply Kept.alloc|apply Kept.drewN|apply Kept.drew|refine Kept.setCell ?_ (.inr GW282.out) _)|exact HK.out)) hb);replace HB:=Aside0.mk (below_step bl hb);clear hb ho6;obtain ⟨Ao7,co7,eo7⟩:=Kd.R_slice HO285.out;subst eo7))
   go_loopg [4,16] k1 (fun kq v4 v16 w'=>∃ (x4_2:Int) (x16_2:Int),v4 = .int .i64 x4_2∧v16 = .int .i64 x16_2∧Aside0 (impl_Heap_down.l1 kq x1_1 x4_2 y283 (y283.length:Int) x16_2 x283000_1 a0_1=some r)∧Aside0 (kq≤k1)∧Aside0 (Kd.R (Kd.int .i64) 3 w' w0.heap.size (fun k_=>(P0_0_ k_∨w.heap.size≤k_)) (.slice Ao7 y283.length co7) y283)∧Aside0 (Kd.R k56 56 w' w0.heap.size (fun k_=>(P0_0_ k_∨w.heap.size≤k_)) (.slice Ao3 x283000_1.length co3) x283000_1)∧Aside0 (w'.heap[gb282]? = some (.cells #[(.slice Ao3 x283000_1.length co3),.int .i64 a0_1] 28 (0,0)))∧Aside0 (Kept w w' (fun k_=>P0_0_ k_))∧Aside0 (Below w0.heap.size w0 w'))
   case atStart=>exact ⟨(x1_1),(0),(by first|rfl|(simp;done)|(simp [*];done)),(by first|rfl|(simp;done)|(simp [*];done)),H',⟨Nat.le_refl _⟩,⟨by (try simp only [hl283000_1]);(with_reducible repeat (first|apply Kd.R_alloc|apply Kd.R_drewN|apply Kd.R_drew));exact Kd.R_mono HO285.out (fun _ hk=>hk.1)⟩,⟨by (try simp only [hl283000_1]);(with_reducible repeat (first|apply Kd.R_alloc|apply Kd.R_drewN|apply Kd.R_drew));exact HO_283000.out⟩,⟨by (try simp only [hl283000_1]);(with_reducible repeat (first|refine blk_drewN ?_ _|refine blk_drew ?_|refine blk_alloc ?_ _));exact BK282.out⟩,⟨by repeat (first|(with_reducible first|exact HK.out|apply Kept.alloc|apply Kept.drewN|apply Kept.drew|refine Kept.setCell ?_ (.inr GW282.out) _)|exact HK.out)⟩,⟨bl⟩⟩
   case round =>
    clear H'
    try clear p2
    try clear p6
    try clear c7
    try clear p2
    obtain ⟨x4_2,x16_2,rfl,rfl,HA,HK2,HO_14,HO_283000,BK282,HK,HB⟩:=hrel
    cases gk with
    | zero=>exact absurd HA.out (by simp [impl_Heap_down.l1])
    | succ k2 =>
     have H:=HA.out
     clear HA
     simp only [impl_Heap_down.l1] at H
     by_cases c8:x16_2 < (y283.length:Int)
     ·rw [if_pos c8] at H
      have c8b0:decide (x16_2 < (y283.length:Int))=true:=decide_eq_true c8
      clear c8
      by_cases c9:0≤x16_2
      case neg =>
       rw [if_neg c9] at H
       exact absurd H (by simp)
      rw [if_pos c9] at H
      have c9b0:decide (0≤x16_2)=true:=decide_eq_true c9
      clear c9
      by_cases c10:x16_2 < (y283.length:Int)
      case neg =>
       rw [if_neg c10] at H
       exact absurd H (by simp)
      rw [if_pos c10] at H
      have c10b0:decide (x16_2 < (y283.length:Int))=true:=decide_eq_true c10
      clear c10
      by_cases c11:(rd y283 x16_2) < (x283000_1.length:Int)
      ·rw [if_pos c11] at H
       have c11b0:decide ((rd y283 x16_2) < (x283000_1.length:Int))=true:=decide_eq_true c11
       clear c11
       by_cases c12:0≤(rd y283 x16_2)
       case neg =>
        rw [if_neg c12] at H
        exact absurd H (by simp)
       rw [if_pos c12] at H
       have c12b0:decide (0≤(rd y283 x16_2))=true:=decide_eq_true c12
       clear c12
       by_cases c13:0≤x4_2
       case neg =>
        rw [if_neg c13] at H
        exact absurd H (by simp)
       rw [if_pos c13] at H
       have c13b0:decide (0≤x4_2)=true:=decide_eq_true c13
       clear c13
       by_cases c14:x4_2 < (x283000_1.length:Int)
       case neg =>
        rw [if_neg c14] at H
        exact absurd H (by simp)
       rw [if_pos c14] at H
       have c14b0:decide (x4_2 < (x283000_1.length:Int))=true:=decide_eq_true c14
       clear c14
       replace H:=Option.bind_eq_some_iff.mp H
       obtain ⟨t289,A150,H⟩:=H
       have A15:=Aside0.mk A150
       clear A150
       by_cases c16:t289=true
       ·subst c16
        rw [if_pos rfl] at H
        have H':=Aside0.mk H
        clear H
        have p286:0≤(x16_2:Int):=od
        have q286:x16_2 < (y283.length:Int):=od
        obtain ⟨ad286,e286,hx286_0⟩:=Kd.at_int (Kd.R_reads' HO_14.out).2.2 x16_2 p286 q286
        cases e286
        replace p286:=eq_true p286
        replace q286:=eq_true q286
        try go_wp2
        replace HO_14:=Aside0.mk (Kd.R_drew HO_14.out)
        replace HO_283000:=Aside0.mk (Kd.R_drew HO_283000.out)
        replace BK282:=Aside0.mk (blk_drew BK282.out)
        replace HK:=Aside0.mk (Kept.drew HK.out)
        replace HB:=Aside0.mk (below_drew1 HB.out)
        have p287:0≤((rd y283 x16_2):Int):=od
        have q287:(rd y283 x16_2) < (x283000_1.length:Int):=od
        obtain ⟨ad287,e287,hx287_0,hx287_1,hx287_2⟩:=at_T56 (Kd.R_reads' HO_283000.out).2.2 (rd y283 x16_2) p287 q287
        cases e287
        replace p287:=eq_true p287
        replace q287:=eq_true q287
        have p288:0≤(x4_2:Int):=od
        have q288:x4_2 < (x283000_1.length:Int):=od
        obtain ⟨ad288,e288,hx288_0,hx288_1,hx288_2⟩:=at_T56 (Kd.R_reads' HO_283000.out).2.2 x4_2 p288 q288
        obtain rfl:ad287=ad288:=(by injection e288)
        replace p288:=eq_true p288
        replace q288:=eq_true q288
        refine start_ (n:=18) (S:=fun w'=>w'.cell? ⟨gb282,0,none⟩=some (.slice (some ad287) x283000_1.length co3)∧w'.cell? ⟨gb282,1,none⟩=some (.int .i64 a0_1)∧w'.cell? (ad287.add (((rd y283 x16_2)).toNat * 3))=some (.int .i64 ((rd_T56 x283000_1 (rd y283 x16_2)).f0))∧w'.cell? ⟨(ad287.add (((rd y283 x16_2)).toNat * 3)).block,(ad287.add (((rd y283 x16_2)).toNat * 3)).off + 1,none⟩=some (.int .i64 ((rd_T56 x283000_1 (rd y283 x16_2)).f1))∧w'.cell? ⟨(ad287.add (((rd y283 x16_2)).toNat * 3)).block,(ad287.add (((rd y283 x16_2)).toNat * 3)).off + 2,none⟩=some (.int .i64 ((rd_T56 x283000_1 (rd y283 x16_2)).f2))∧w'.cell? (ad287.add ((x4_2).toNat * 3))=some (.int .i64 ((rd_T56 x283000_1 x4_2).f0))∧w'.cell? ⟨(ad287.add ((x4_2).toNat * 3)).block,(ad287.add ((x4_2).toNat * 3)).off + 1,none⟩=some (.int .i64 ((rd_T56 x283000_1 x4_2).f1))∧w'.cell? ⟨(ad287.add ((x4_2).toNat * 3)).block,(ad287.add ((x4_2).toNat * 3)).off + 2,none⟩=some (.int .i64 ((rd_T56 x283000_1 x4_2).f2))) (ds:=[]) (bs 18 0) (by kernel_rfl) rfl rfl ⟨bc BK282 0,bc BK282 1,hx287_0,hx287_1,hx287_2,hx288_0,hx288_1,hx288_2⟩ (fun hHeld=>?_);refine with_tabW impl_Heap_down.tab5 impl_Heap_down.bits5 (fun HT_ HW_=>?_)
        generalize wr.drew=w17 at HO_14 HO_283000 BK282 HK HB hx287_0 hx287_1 hx287_2 hx288_0 hx288_1 hx288_2 hHeld ⊢
        refine pq 0 20 (bs 18 1) HT_ ?_
        refine pq 1 21 (bs 18 3) HT_ ?_
        refine tq 2 22 (bs 18 7) HT_ HW_ hHeld ?_
        refine pq 3 23 (bs 18 15) HT_ ?_
        refine pq 4 24 (bs 18 31) HT_ ?_
        refine pq 5 25 (bs 18 63) HT_ ?_
        refine pq 6 26 (bs 18 127) HT_ ?_
        refine pq 8 28 (bs 18 383) HT_ ?_
        refine pq 11 31 (bs 18 2431) HT_ ?_
        refine pq 13 33 (bs 18 10623) HT_ ?_
        refine tq 7 27 (bs 18 10751) HT_ HW_ hHeld ?_
        refine pq 9 29 (bs 18 11263) HT_ ?_
        refine tq 10 30 (bs 18 12287) HT_ HW_ hHeld ?_
        refine tq 12 32 (bs 18 16383) HT_ HW_ hHeld ?_
        refine pq 14 34 (bs 18 32767) HT_ ?_
        refine tq 15 35 (bs 18 65535) HT_ HW_ hHeld ?_
        refine one_ (i:=16) (N:=some 36) (bs 18 131071) rfl rfl (one_of HT_.out (by kernel_rfl)) (by decide) (fun K hK=>?_)
        refine goes_ Try.func73 (by kernel_rfl) rfl #[.agg #[.int .i64 ((rd_T56 x283000_1 (rd y283 x16_2)).f0),.int .i64 ((rd_T56 x283000_1 (rd y283 x16_2)).f1),.int .i64 ((rd_T56 x283000_1 (rd y283 x16_2)).f2)],.agg #[.int .i64 ((rd_T56 x283000_1 x4_2).f0),.int .i64 ((rd_T56 x283000_1 x4_2).f1),.int .i64 ((rd_T56 x283000_1 x4_2).f2)]] (by rfl) rfl rfl (by (try simp only [List.map_toArray,List.map_cons,List.map_nil]);first|done|rfl|(simp only [List.length_drop,List.length_take];rfl)) ?_
        with_reducible refine (impl_Due_before.calls k2 ((rd_T56 x283000_1 (rd y283 x16_2)).f0) ((rd_T56 x283000_1 (rd y283 x16_2)).f1) ((rd_T56 x283000_1 (rd y283 x16_2)).f2) ((rd_T56 x283000_1 x4_2).f0) ((rd_T56 x283000_1 x4_2).f1) ((rd_T56 x283000_1 x4_2).f2) true _ A15.out).mono ?_
        rintro e w18 ⟨rfl,hb⟩
        have HS2_:=(hb.cell (World.block_lt_of_cell? _ _ (hHeld.2.2.1))).trans (hHeld.2.2.1)
        have HS3_:=(hb.cell (World.block_lt_of_cell? _ _ (hHeld.2.2.2.1))).trans (hHeld.2.2.2.1)
        have HS4_:=(hb.cell (World.block_lt_of_cell? _ _ (hHeld.2.2.2.2.1))).trans (hHeld.2.2.2.2.1)
        have HS5_:=(hb.cell (World.block_lt_of_cell? _ _ (hHeld.2.2.2.2.2.1))).trans (hHeld.2.2.2.2.2.1)
        have HS6_:=(hb.cell (World.block_lt_of_cell? _ _ (hHeld.2.2.2.2.2.2.1))).trans (hHeld.2.2.2.2.2.2.1)
        have HS7_:=(hb.cell (World.block_lt_of_cell? _ _ (hHeld.2.2.2.2.2.2.2))).trans (hHeld.2.2.2.2.2.2.2)
        refine ⟨_,rfl,?_⟩
        replace HO_14:=Aside0.mk (Kd.R_below (kr HO_14) hb)
        replace HO_283000:=Aside0.mk (Kd.R_below (kr HO_283000) hb)
        replace BK282:=Aside0.mk (blk_below (bk BK282) hb)
        replace HK:=Aside0.mk (Kept.below (S:=(fun k_=>P0_0_ k_)) (by repeat (first|(with_reducible first|exact HK.out|apply Kept.alloc|apply Kept.drewN|apply Kept.drew|refine Kept.setCell ?_ (.inr GW282.out) _)|exact HK.out)) hb)
        replace HB:=Aside0.mk (below_step bl hb)
        (try clear hb)
        (try clear hb2)
        (try clear hk)
        (try clear hi)
        refine hK.out _ _ ⟨bc BK282 0,bc BK282 1,HS2_,HS3_,HS4_,HS5_,HS6_,HS7_⟩ (fun hHeld=>?_)
        clear hK K
        refine nrm ?_
        refine pq 17 37 (bs 18 262143) HT_ ?_
        refine done_ (done_of HT_.out (by kernel_rfl)) ?_
        try go_wp2
        go_roundg k2
        case measure=>have:=HK1.out;have:=HK2.out;omega
        case rel=>exact ⟨(rd y283 x16_2),(wrap64 (x16_2 + 1)),(by first|rfl|(simp;done)|(simp [*];done)),(by first|rfl|(simp;done)|(simp [*];done)),H',⟨by have:=HK1.out;have:=HK2.out;omega⟩,⟨by (try simp only [hl283000_1]);(with_reducible repeat (first|apply Kd.R_alloc|apply Kd.R_drewN|apply Kd.R_drew));exact HO_14.out⟩,⟨by (try simp only [hl283000_1]);(with_reducible repeat (first|apply Kd.R_alloc|apply Kd.R_drewN|apply Kd.R_drew));exact HO_283000.out⟩,⟨by (try simp only [hl283000_1]);(with_reducible repeat (first|refine blk_drewN ?_ _|refine blk_drew ?_|refine blk_alloc ?_ _));exact BK282.out⟩,⟨by repeat (first|(with_reducible first|exact HK.out|apply Kept.alloc|apply Kept.drewN|apply Kept.drew|refine Kept.setCell ?_ (.inr GW282.out) _)|exact HK.out)⟩,⟨bl⟩⟩
       ·replace c16:=Bool.eq_false_iff.mpr c16
        subst c16
        rw [if_neg nft] at H
        have H':=Aside0.mk H
        clear H
        have p286:0≤(x16_2:Int):=od
        have q286:x16_2 < (y283.length:Int):=od
        obtain ⟨ad286,e286,hx286_0⟩:=Kd.at_int (Kd.R_reads' HO_14.out).2.2 x16_2 p286 q286
        cases e286
        replace p286:=eq_true p286
        replace q286:=eq_true q286
        try go_wp2
        replace HO_14:=Aside0.mk (Kd.R_drew HO_14.out)
        replace HO_283000:=Aside0.mk (Kd.R_drew HO_283000.out)
        replace BK282:=Aside0.mk (blk_drew BK282.out)
        replace HK:=Aside0.mk (Kept.drew HK.out)
        replace HB:=Aside0.mk (below_drew1 HB.out)
        have p287:0≤((rd y283 x16_2):Int):=od
        have q287:(rd y283 x16_2) < (x283000_1.length:Int):=od
        obtain ⟨ad287,e287,hx287_0,hx287_1,hx287_2⟩:=at_T56 (Kd.R_reads' HO_283000.out).2.2 (rd y283 x16_2) p287 q287
        cases e287
        replace p287:=eq_true p287
        replace q287:=eq_true q287
        have p288:0≤(x4_2:Int):=od
        have q288:x4_2 < (x283000_1.length:Int):=od
        obtain ⟨ad288,e288,hx288_0,hx288_1,hx288_2⟩:=at_T56 (Kd.R_reads' HO_283000.out).2.2 x4_2 p288 q288
        obtain rfl:ad287=ad288:=(by injection e288)
        replace p288:=eq_true p288
        replace q288:=eq_true q288
        refine start_ (n:=18) (S:=fun w'=>w'.cell? ⟨gb282,0,none⟩=some (.slice (some ad287) x283000_1.length co3)∧w'.cell? ⟨gb282,1,none⟩=some (.int .i64 a0_1)∧w'.cell? (ad287.add (((rd y283 x16_2)).toNat * 3))=some (.int .i64 ((rd_T56 x283000_1 (rd y283 x16_2)).f0))∧w'.cell? ⟨(ad287.add (((rd y283 x16_2)).toNat * 3)).block,(ad287.add (((rd y283 x16_2)).toNat * 3)).off + 1,none⟩=some (.int .i64 ((rd_T56 x283000_1 (rd y283 x16_2)).f1))∧w'.cell? ⟨(ad287.add (((rd y283 x16_2)).toNat * 3)).block,(ad287.add (((rd y283 x16_2)).toNat * 3)).off + 2,none⟩=some (.int .i64 ((rd_T56 x283000_1 (rd y283 x16_2)).f2))∧w'.cell? (ad287.add ((x4_2).toNat * 3))=some (.int .i64 ((rd_T56 x283000_1 x4_2).f0))∧w'.cell? ⟨(ad287.add ((x4_2).toNat * 3)).block,(ad287.add ((x4_2).toNat * 3)).off + 1,none⟩=some (.int .i64 ((rd_T56 x283000_1 x4_2).f1))∧w'.cell? ⟨(ad287.add ((x4_2).toNat * 3)).block,(ad287.add ((x4_2).toNat * 3)).off + 2,none⟩=some (.int .i64 ((rd_T56 x283000_1 x4_2).f2))) (ds:=[]) (bs 18 0) (by kernel_rfl) rfl rfl ⟨bc BK282 0,bc BK282 1,hx287_0,hx287_1,hx287_2,hx288_0,hx288_1,hx288_2⟩ (fun hHeld=>?_);refine with_tabW impl_Heap_down.tab5 impl_Heap_down.bits5 (fun HT_ HW_=>?_)
        generalize wr.drew=w19 at HO_14 HO_283000 BK282 HK HB hx287_0 hx287_1 hx287_2 hx288_0 hx288_1 hx288_2 hHeld ⊢
        refine pq 0 20 (bs 18 1) HT_ ?_
        refine pq 1 21 (bs 18 3) HT_ ?_
        refine tq 2 22 (bs 18 7) HT_ HW_ hHeld ?_
        refine pq 3 23 (bs 18 15) HT_ ?_
        refine pq 4 24 (bs 18 31) HT_ ?_
        refine pq 5 25 (bs 18 63) HT_ ?_
        refine pq 6 26 (bs 18 127) HT_ ?_
        refine pq 8 28 (bs 18 383) HT_ ?_
        refine pq 11 31 (bs 18 2431) HT_ ?_
        refine pq 13 33 (bs 18 10623) HT_ ?_
        refine tq 7 27 (bs 18 10751) HT_ HW_ hHeld ?_
        refine pq 9 29 (bs 18 11263) HT_ ?_
        refine tq 10 30 (bs 18 12287) HT_ HW_ hHeld ?_
        refine tq 12 32 (bs 18 16383) HT_ HW_ hHeld ?_
        refine pq 14 34 (bs 18 32767) HT_ ?_
        refine tq 15 35 (bs 18 65535) HT_ HW_ hHeld ?_
        refine one_ (i:=16) (N:=some 36) (bs 18 131071) rfl rfl (one_of HT_.out (by kernel_rfl)) (by decide) (fun K hK=>?_)
        refine goes_ Try.func73 (by kernel_rfl) rfl #[.agg #[.int .i64 ((rd_T56 x283000_1 (rd y283 x16_2)).f0),.int .i64 ((rd_T56 x283000_1 (rd y283 x16_2)).f1),.int .i64 ((rd_T56 x283000_1 (rd y283 x16_2)).f2)],.agg #[.int .i64 ((rd_T56 x283000_1 x4_2).f0),.int .i64 ((rd_T56 x283000_1 x4_2).f1),.int .i64 ((rd_T56 x283000_1 x4_2).f2)]] (by rfl) rfl rfl (by (try simp only [List.map_toArray,List.map_cons,List.map_nil]);first|done|rfl|(simp only [List.length_drop,List.length_take];rfl)) ?_
        with_reducible refine (impl_Due_before.calls k2 ((rd_T56 x283000_1 (rd y283 x16_2)).f0) ((rd_T56 x283000_1 (rd y283 x16_2)).f1) ((rd_T56 x283000_1 (rd y283 x16_2)).f2) ((rd_T56 x283000_1 x4_2).f0) ((rd_T56 x283000_1 x4_2).f1) ((rd_T56 x283000_1 x4_2).f2) false _ A15.out).mono ?_
        rintro e w20 ⟨rfl,hb⟩
        have HS2_:=(hb.cell (World.block_lt_of_cell? _ _ (hHeld.2.2.1))).trans (hHeld.2.2.1)
        have HS3_:=(hb.cell (World.block_lt_of_cell? _ _ (hHeld.2.2.2.1))).trans (hHeld.2.2.2.1)
        have HS4_:=(hb.cell (World.block_lt_of_cell? _ _ (hHeld.2.2.2.2.1))).trans (hHeld.2.2.2.2.1)
        have HS5_:=(hb.cell (World.block_lt_of_cell? _ _ (hHeld.2.2.2.2.2.1))).trans (hHeld.2.2.2.2.2.1)
        have HS6_:=(hb.cell (World.block_lt_of_cell? _ _ (hHeld.2.2.2.2.2.2.1))).trans (hHeld.2.2.2.2.2.2.1)
        have HS7_:=(hb.cell (World.block_lt_of_cell? _ _ (hHeld.2.2.2.2.2.2.2))).trans (hHeld.2.2.2.2.2.2.2)
        refine ⟨_,rfl,?_⟩
        replace HO_14:=Aside0.mk (Kd.R_below (kr HO_14) hb)
        replace HO_283000:=Aside0.mk (Kd.R_below (kr HO_283000) hb)
        replace BK282:=Aside0.mk (blk_below (bk BK282) hb)
        replace HK:=Aside0.mk (Kept.below (S:=(fun k_=>P0_0_ k_)) (by repeat (first|(with_reducible first|exact HK.out|apply Kept.alloc|apply Kept.drewN|apply Kept.drew|refine Kept.setCell ?_ (.inr GW282.out) _)|exact HK.out)) hb)
        replace HB:=Aside0.mk (below_step bl hb)
        (try clear hb)
        (try clear hb2)
        (try clear hk)
        (try clear hi)
        refine hK.out _ _ ⟨bc BK282 0,bc BK282 1,HS2_,HS3_,HS4_,HS5_,HS6_,HS7_⟩ (fun hHeld=>?_)
        clear hK K
        refine nrm ?_
        refine pq 17 37 (bs 18 262143) HT_ ?_
        refine done_ (done_of HT_.out (by kernel_rfl)) ?_
        try go_wp2
        go_roundg k2
        case measure=>have:=HK1.out;have:=HK2.out;omega
        case rel=>exact ⟨(x4_2),(wrap64 (x16_2 + 1)),(by first|rfl|(simp;done)|(simp [*];done)),(by first|rfl|(simp;done)|(simp [*];done)),H',⟨by have:=HK1.out;have:=HK2.out;omega⟩,⟨by (try simp only [hl283000_1]);(with_reducible repeat (first|apply Kd.R_alloc|apply Kd.R_drewN|apply Kd.R_drew));exact HO_14.out⟩,⟨by (try simp only [hl283000_1]);(with_reducible repeat (first|apply Kd.R_alloc|apply Kd.R_drewN|apply Kd.R_drew));exact HO_283000.out⟩,⟨by (try simp only [hl283000_1]);(with_reducible repeat (first|refine blk_drewN ?_ _|refine blk_drew ?_|refine blk_alloc ?_ _));exact BK282.out⟩,⟨by repeat (first|(with_reducible first|exact HK.out|apply Kept.alloc|apply Kept.drewN|apply Kept.drew|refine Kept.setCell ?_ (.inr GW282.out) _)|exact HK.out)⟩,⟨bl⟩⟩
      ·rw [if_neg c11] at H
       have c11b0:decide ((rd y283 x16_2) < (x283000_1.length:Int))=false:=decide_eq_false c11
       clear c11
       have H':=Aside0.mk H
       clear H
       have p286:0≤(x16_2:Int):=od
       have q286:x16_2 < (y283.length:Int):=od
       obtain ⟨ad286,e286,hx286_0⟩:=Kd.at_int (Kd.R_reads' HO_14.out).2.2 x16_2 p286 q286
       cases e286
       replace p286:=eq_true p286
       replace q286:=eq_true q286
       try go_wp2
       replace HO_14:=Aside0.mk (Kd.R_drew HO_14.out)
       replace HO_283000:=Aside0.mk (Kd.R_drew HO_283000.out)
       replace BK282:=Aside0.mk (blk_drew BK282.out)
       replace HK:=Aside0.mk (Kept.drew HK.out)
       replace HB:=Aside0.mk (below_drew1 HB.out)
       refine start_ (n:=18) (S:=fun w'=>w'.cell? ⟨gb282,0,none⟩=some (.slice Ao3 x283000_1.length co3)∧w'.cell? ⟨gb282,1,none⟩=some (.int .i64 a0_1)) (ds:=[]) (bs 18 0) (by kernel_rfl) rfl rfl ⟨bc BK282 0,bc BK282 1⟩ (fun hHeld=>?_);refine with_tabW impl_Heap_down.tab5 impl_Heap_down.bits5 (fun HT_ HW_=>?_)
       generalize wr.drew=w21 at HO_14 HO_283000 BK282 HK HB hHeld ⊢
       refine pq 0 20 (bs 18 1) HT_ ?_
       refine pq 1 21 (bs 18 3) HT_ ?_
       refine tq 2 22 (bs 18 7) HT_ HW_ hHeld ?_
       refine pq 3 23 (bs 18 15) HT_ ?_
       refine pq 4 24 (bs 18 31) HT_ ?_
       refine pq 5 25 (bs 18 63) HT_ ?_
       refine uq 6 26 (bs 18 127) HT_ ?_
       refine uq 7 27 (bs 18 255) HT_ ?_
       refine uq 8 28 (bs 18 511) HT_ ?_
       refine uq 9 29 (bs 18 1023) HT_ ?_
       refine uq 10 30 (bs 18 2047) HT_ ?_
       refine uq 11 31 (bs 18 4095) HT_ ?_
       refine uq 12 32 (bs 18 8191) HT_ ?_
       refine uq 13 33 (bs 18 16383) HT_ ?_
       refine uq 14 34 (bs 18 32767) HT_ ?_
       refine uq 15 35 (bs 18 65535) HT_ ?_
       refine uq 16 36 (bs 18 131071) HT_ ?_
       refine pq 17 37 (bs 18 262143) HT_ ?_
       refine done_ (done_of HT_.out (by kernel_rfl)) ?_
       try go_wp2
       go_roundg k2
       case measure=>have:=HK1.out;have:=HK2.out;omega
       case rel=>exact ⟨(x4_2),(wrap64 (x16_2 + 1)),(by first|rfl|(simp;done)|(simp [*];done)),(by first|rfl|(simp;done)|(simp [*];done)),H',⟨by have:=HK1.out;have:=HK2.out;omega⟩,⟨by (try simp only [hl283000_1]);(with_reducible repeat (first|apply Kd.R_alloc|apply Kd.R_drewN|apply Kd.R_drew));exact HO_14.out⟩,⟨by (try simp only [hl283000_1]);(with_reducible repeat (first|apply Kd.R_alloc|apply Kd.R_drewN|apply Kd.R_drew));exact HO_283000.out⟩,⟨by (try simp only [hl283000_1]);(with_reducible repeat (first|refine blk_drewN ?_ _|refine blk_drew ?_|refine blk_alloc ?_ _));exact BK282.out⟩,⟨by repeat (first|(with_reducible first|exact HK.out|apply Kept.alloc|apply Kept.drewN|apply Kept.drew|refine Kept.setCell ?_ (.inr GW282.out) _)|exact HK.out)⟩,⟨bl⟩⟩
     ·rw [if_neg c8] at H
      have c8b0:decide (x16_2 < (y283.length:Int))=false:=decide_eq_false c8
      clear c8
      by_cases c22:x4_2=x1_1
      ·rw [if_pos c22] at H
       have c22b0:(x4_2 == x1_1)=true:=beq_iff_eq.mpr c22
       have c22b1:(x4_2 != x1_1)=false:=bne_eq_false_iff_eq.mpr c22
       clear c22
       obtain rfl:=Option.some.inj H
       go_wp2
       first|go_end0|((try simp only [Exit.inBlock,Exit.then]);refine bodyPost_ret (results_none rfl _ _ _) rfl ?_)
       exact ⟨er,(by first|exact (kr HO_283000)|(simp only [hl283000_1];exact (kr HO_283000))),bl,by repeat (first|(with_reducible first|exact HK.out|apply Kept.alloc|apply Kept.drewN|apply Kept.drew|refine Kept.setCell ?_ (.inr GW282.out) _)|exact HK.out)⟩
      ·rw [if_neg c22] at H
       have c22b0:(x4_2 == x1_1)=false:=beq_eq_false_iff_ne.mpr c22
       have c22b1:(x4_2 != x1_1)=true:=bne_iff_ne.mpr c22
       replace H:=Option.bind_eq_some_iff.mp H
       obtain ⟨t290,A230,H⟩:=H
       have A23:=Aside0.mk A230
       clear A230
       have H':=Aside0.mk H
       clear H
       obtain ⟨hcz24_0,hcz24_1,hfz24_0,hfz24_1⟩:=ck2 BK282.out
       go_wp2_with (first|((with_reducible refine gate_callee (f:=76) rfl ?_);refine gl (some 46) Try.func76 #[.agg #[.slice Ao3 x283000_1.length co3,.int .i64 a0_1],.int .i64 x1_1,.int .i64 x4_2] ?_;(with_reducible refine (impl_Heap_swap.calls (fun k_=>some k_=(.slice Ao3 x283000_1.length co3:Value).ownBlock) (.slice Ao3 x283000_1.length co3) x283000_1 a0_1 x1_1 x4_2 t290 w0 _ ?side1 ?side2 A23.out).mono ?_);(case side1=>repeat (first|(with_reducible first|exact HB.out|apply below_alloc|apply pw_below_drewN|apply below_drew1|refine below_set ?_ GE282.out)|exact HB.out));(case side2=>exact Kd.R_tight rfl HO_283000.out);rintro e w25 ⟨rfl,hy0,hb,hkp⟩;refine ⟨_,rfl,?_⟩;replace HO_14:=Aside0.mk (Kd.R_mono (ok':=fun k_=>(P0_0_ k_∨w.heap.size≤k_)) (Kd.R_keptB ((Kd.R_apart' HO_14.out (Kd.R_typed HO_283000.out) (by decide))) hkp (fun k_ hk_ hs_=>(hk_.2) hs_)) (fun k_ hk_=>hk_.1.1));replace BK282:=Aside0.mk (blk_kept (bk BK282) hkp (fun hs_=>(fun e_=>(Kd.R_ne HO_283000.out BK282.out (by decide)) e_) hs_));replace HK:=Aside0.mk (Kept.then_ (S:=(fun k_=>P0_0_ k_)) (by repeat (first|(with_reducible first|exact HK.out|apply Kept.alloc|apply Kept.drewN|apply Kept.drew|refine Kept.setCell ?_ (.inr GW282.out) _)|exact HK.out)) hkp (fun k_ hs_=>(fun e_=>(HO_283000.out.1 k_ e_.symm)) hs_));replace HO_283000:=Aside0.mk (Kd.R_reok rfl hy0 (fun k_ e_=>HO_283000.out.1 k_ e_));replace HB:=Aside0.mk (hb);(try clear hb);(try clear hkp);(try clear hy0)))
       (try simp only [← hl283000_1])
       go_roundg k2
       case measure=>have:=HK1.out;have:=HK2.out;omega
       case rel=>exact ⟨(x4_2),(t290),(by first|rfl|(simp;done)|(simp [*];done)),H',⟨by have:=HK1.out;have:=HK2.out;omega⟩,⟨by (try simp only [hl283000_1]);(with_reducible repeat (first|apply Kd.R_alloc|apply Kd.R_drewN|apply Kd.R_drew));exact HO_283000.out⟩,⟨by (try simp only [hl283000_1]);(with_reducible repeat (first|refine blk_drewN ?_ _|refine blk_drew ?_|refine blk_alloc ?_ _));exact BK282.out⟩,⟨by repeat (first|(with_reducible first|exact HK.out|apply Kept.alloc|apply Kept.drewN|apply Kept.drew|refine Kept.setCell ?_ (.inr GW282.out) _)|exact HK.out)⟩,⟨bl⟩⟩

end Go.Proofs.Ytdffkcbaijbhoaa.PFnExactSchedule
