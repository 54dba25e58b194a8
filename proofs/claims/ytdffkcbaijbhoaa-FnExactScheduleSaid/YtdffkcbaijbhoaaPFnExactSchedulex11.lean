/- Contracts of functions of the given program: what each call answers. Written by a program of this session, out of the text of the functions. -/
import Derived.Test.YtdffkcbaijbhoaaPFnExactSchedulex0
import Derived.Test.YtdffkcbaijbhoaaPFnExactSchedulex8
import Derived.Test.YtdffkcbaijbhoaaPFnExactSchedulex10
import Derived.Test.YtdffkcbaijbhoaaPrs
namespace Go.Proofs.Ytdffkcbaijbhoaa.PFnExactSchedule
open Go.RowKit Go.Proofs.YtdffkcbaijbhoaaW.PrintWords Go.Proofs.YtdffkcbaijbhoaaW.PrintLast Go.Proofs.YtdffkcbaijbhoaaW.PrintMore Go.Proofs.Ytdffkcbaijbhoaa.Giv Go.Proofs.Ytdffkcbaijbhoaa.Prs
attribute [local go_sem] max2_int min2_int max_two min_two max_three min_three max_four min_four   -- for this text's walks alone
set_option linter.unusedVariables false
set_option linter.unusedSimpArgs false

/-! ### impl_Heap_up: function 55 -/
def impl_Heap_up.l0:Nat→Int→List (S56)→Int→Option ((List (S56)))
 | 0,_,_,_=>none
 | k + 1,x1,x278000,x278001=>if x1 > 0 then (if 0≤x1 then (if x1 < (x278000.length:Int) then (if 0≤(wrap64 (Int.tdiv (wrap64 (x1 - 1)) 2)) then (if (wrap64 (Int.tdiv (wrap64 (x1 - 1)) 2)) < (x278000.length:Int) then ((impl_Due_before.f k ((rd_T56 x278000 x1).f0) ((rd_T56 x278000 x1).f1) ((rd_T56 x278000 x1).f2) ((rd_T56 x278000 (wrap64 (Int.tdiv (wrap64 (x1 - 1)) 2))).f0) ((rd_T56 x278000 (wrap64 (Int.tdiv (wrap64 (x1 - 1)) 2))).f1) ((rd_T56 x278000 (wrap64 (Int.tdiv (wrap64 (x1 - 1)) 2))).f2)).bind fun t280=>(if t280=true then ((impl_Heap_swap.f x278000 x278001 x1 (wrap64 (Int.tdiv (wrap64 (x1 - 1)) 2))).bind fun t281=>(impl_Heap_up.l0 k (wrap64 (Int.tdiv (wrap64 (x1 - 1)) 2)) t281 x278001)) else (some x278000))) else (none)) else (none)) else (none)) else (none)) else (some x278000)
def impl_Heap_up.f (k:Nat) (l0_0:List (S56)) (a0_1:Int) (a1:Int):Option ((List (S56))):=impl_Heap_up.l0 k a1 l0_0 a0_1
theorem impl_Heap_up.mono_l:∀ k,(∀ y0 y1 y2,LeO (impl_Heap_up.l0 k y0 y1 y2) (impl_Heap_up.l0 (k + 1) y0 y1 y2))
 | 0=>fun _ _ _ r h=>by simp [impl_Heap_up.l0] at h
 | k + 1=>by
  have ih0:=impl_Heap_up.mono_l k
  ·intro y0 y1 y2
   unfold impl_Heap_up.l0
   repeat' first
   | (with_reducible exact ih0 _ _ _)
   | (with_reducible exact impl_Due_before.mono _ _ _ _ _ _ _)
   | (with_reducible exact LeO.refl _)
   | (with_reducible exact LeO.none _)
   | (with_reducible refine LeO.ite ?_ ?_)
   | (with_reducible refine LeO.bind ?_ (fun _=>?_))
   | exact ih0 _ _ _
   | exact impl_Due_before.mono _ _ _ _ _ _ _
   | exact LeO.none _
   | refine LeO.ite ?_ ?_
   | refine LeO.bind ?_ (fun _=>?_)
theorem impl_Heap_up.mono:∀ a0 a1 a2 k,LeO (impl_Heap_up.f k a0 a1 a2) (impl_Heap_up.f (k + 1) a0 a1 a2):=by
 intro a0 a1 a2 k
 have ih0:=impl_Heap_up.mono_l k
 unfold impl_Heap_up.f
 repeat' first
   | (with_reducible exact ih0 _ _ _)
   | (with_reducible exact impl_Due_before.mono _ _ _ _ _ _ _)
   | (with_reducible exact LeO.refl _)
   | (with_reducible exact LeO.none _)
   | (with_reducible refine LeO.ite ?_ ?_)
   | (with_reducible refine LeO.bind ?_ (fun _=>?_))
   | exact ih0 _ _ _
   | exact impl_Due_before.mono _ _ _ _ _ _ _
   | exact LeO.none _
   | refine LeO.ite ?_ ?_
   | refine LeO.bind ?_ (fun _=>?_)
def impl_Heap_up.T1:Bool × List (List Nat × List Nat):=(true,[([],[]),([0],[0]),([1],[1]),([2],[2]),([3,2],[2,3]),([2],[2]),([4,5,2],[2,4,5]),([6,2],[2,6]),([2],[2]),([8,2],[2,8]),([2],[2]),([10,2],[2,10]),([11,2],[2,11]),([9,12,2],[2,9,12]),([13,2],[2,13]),([7,14,2,2],[2,7,14]),([2,15],[2,15])])
def impl_Heap_up.B1:List Nat:=[0,1,3,7,15,7,63,127,7,263,7,1031,3079,7943,16135,32767,65535]
theorem impl_Heap_up.tab1:rtab .any (opsOf Try.f55 1)=impl_Heap_up.T1:=by kernel_rfl
theorem impl_Heap_up.bits1:waitsOk impl_Heap_up.T1.2 impl_Heap_up.B1=true:=by kernel_rfl
set_option maxHeartbeats 8000000 in
set_option maxRecDepth 100000 in
theorem impl_Heap_up.calls (k:Nat) (P0_0_:Nat→Prop) (u9000_:Value) (l0_0:List (S56)) (a0_1:Int) (a1:Int) (r:List (S56)) (w0 w:World) (hB:Below w0.heap.size w0 w) (ho0_0:Kd.R k56 56 w w0.heap.size P0_0_ u9000_ l0_0) (h:impl_Heap_up.f k l0_0 a0_1 a1=some r) :
  Calls Try.prog 55 #[.agg #[u9000_,.int .i64 a0_1],.int .i64 a1] w fun e w'=>e = .returned (.tuple #[])∧Kd.R k56 56 w' w0.heap.size (fun k_=>(P0_0_ k_∨w.heap.size≤k_)) u9000_ r∧Below w0.heap.size w0 w'∧Kept w w' (fun k_=>P0_0_ k_):=by
 have hu28:=Try.underlying28
 have hu56:=Try.underlying56
 have HO0_0:=Aside0.mk (show Kd.R k56 56 w w0.heap.size (fun k_=>(P0_0_ k_∨w.heap.size≤k_)) u9000_ l0_0 from Kd.R_mono ho0_0 (fun k_ hk=>(.inl hk)))
 have HK:=Aside0.mk (Kept.refl w (fun k_=>P0_0_ k_))
 have HW0:=Aside0.mk hB.size
 have HB:=Aside0.mk hB
 clear hB
 have H:(impl_Heap_up.l0 k a1 l0_0 a0_1)=some r:=h
 clear h
 have H':=Aside0.mk H
 clear H
 obtain ⟨Ao3,co3,eo3⟩:=Kd.R_slice HO0_0.out
 subst eo3
 go_enter Try.func55,Try.ntmps55
 go_wp2_with (first|((with_reducible refine gate_dst (N:=2) rfl ?_);refine bx 2 #[.slice Ao3 l0_0.length co3,.int .i64 a0_1] 28 ?_;intro gb277 hg w4 hbox hb;replace HO0_0:=Aside0.mk (Kd.R_below (kr HO0_0) hb);have BK277:=Aside0.mk (hbox);have GW277:=Aside0.mk ((by rw [hg];exact (by first|exact HK.out.1|exact (show Kept w _ (fun k_=>P0_0_ k_) from by repeat (first|(with_reducible first|exact HK.out|apply Kept.alloc|apply Kept.drewN|apply Kept.drew)|exact HK.out)).1):w.heap.size≤gb277));replace HK:=Aside0.mk (Kept.below (S:=(fun k_=>P0_0_ k_)) (by repeat (first|(with_reducible first|exact HK.out|apply Kept.alloc|apply Kept.drewN|apply Kept.drew)|exact HK.out)) hb);have GE277:=Aside0.mk (bz hg:w0.heap.size≤gb277);replace HB:=Aside0.mk (below_step bl hb);clear hb hbox hg))
 (try simp only [Act.put,List.setIfInBounds_toArray,List.set_cons_zero,List.set_cons_succ])
 go_loopg [1] k (fun kq v1 w'=>∃ (x1_1:Int) (x278000_1:List (S56)),v1 = .int .i64 x1_1∧Aside0 (impl_Heap_up.l0 kq x1_1 x278000_1 a0_1=some r)∧Aside0 (kq≤k)∧Aside0 (Kd.R k56 56 w' w0.heap.size (fun k_=>(P0_0_ k_∨w.heap.size≤k_)) (.slice Ao3 l0_0.length co3) x278000_1)∧Aside0 (w'.heap[gb277]? = some (.cells #[(.slice Ao3 l0_0.length co3),.int .i64 a0_1] 28 (0,0)))∧Aside0 (Kept w w' (fun k_=>P0_0_ k_))∧Aside0 (Below w0.heap.size w0 w'))
 case atStart=>exact ⟨(a1),(l0_0),(by first|rfl|(simp;done)|(simp [*];done)),H',⟨Nat.le_refl _⟩,⟨kr HO0_0⟩,⟨bk BK277⟩,⟨by repeat (first|(with_reducible first|exact HK.out|apply Kept.alloc|apply Kept.drewN|apply Kept.drew|refine Kept.setCell ?_ (.inr GW277.out) _)|exact HK.out)⟩,⟨bl⟩⟩
 case round =>
  clear H'
  try clear p2
  obtain ⟨x1_1,x278000_1,rfl,HA,HK1,HO_278000,BK277,HK,HB⟩:=hrel
  have hl278000_1:=(Kd.R_reads' HO_278000.out).1
  rw [hl278000_1] at HO_278000
  (try simp only [hl278000_1])
  (try simp only [hl278000_1] at BK277)
  cases gk with
  | zero=>exact absurd HA.out (by simp [impl_Heap_up.l0])
  | succ k1 =>
   have H:=HA.out
   clear HA
   simp only [impl_Heap_up.l0] at H
   by_cases c5:x1_1 > 0
   ·rw [if_pos c5] at H
    have c5b0:decide (0 < x1_1)=true:=decide_eq_true c5
    clear c5
    by_cases c6:0≤x1_1
    case neg =>
     rw [if_neg c6] at H
     exact absurd H (by simp)
    rw [if_pos c6] at H
    have c6b0:decide (0≤x1_1)=true:=decide_eq_true c6
    clear c6
    by_cases c7:x1_1 < (x278000_1.length:Int)
    case neg =>
     rw [if_neg c7] at H
     exact absurd H (by simp)
    rw [if_pos c7] at H
    have c7b0:decide (x1_1 < (x278000_1.length:Int))=true:=decide_eq_true c7
    clear c7
    obtain ⟨ji8,hji8⟩:∃ j_:Int,(wrap64 (Int.tdiv (wrap64 (x1_1 - 1)) 2))=j_:=⟨_,rfl⟩
    first|rw [hji8] at H|simp only [hji8] at H
    have hji8w:(IntKind.i64.wrap (Int.tdiv (wrap64 (x1_1 - 1)) 2))=ji8:=(i64_w _).trans hji8
    by_cases c9:0≤(ji8)
    case neg =>
     rw [if_neg c9] at H
     exact absurd H (by simp)
    rw [if_pos c9] at H
    have c9b0:decide (0≤(ji8))=true:=decide_eq_true c9
    clear c9
    by_cases c10:(ji8) < (x278000_1.length:Int)
    case neg =>
     rw [if_neg c10] at H
     exact absurd H (by simp)
    rw [if_pos c10] at H
    have c10b0:decide ((ji8) < (x278000_1.length:Int))=true:=decide_eq_true c10
    clear c10
    replace H:=Option.bind_eq_some_iff.mp H
    obtain ⟨t280,A110,H⟩:=H
    have A11:=Aside0.mk A110
    clear A110
    by_cases c12:t280=true
    ·subst c12
     rw [if_pos rfl] at H
     replace H:=Option.bind_eq_some_iff.mp H
     obtain ⟨t281,A130,H⟩:=H
     have A13:=Aside0.mk A130
     clear A130
     have H':=Aside0.mk H
     clear H
     try go_wp2
     replace HO_278000:=Aside0.mk (Kd.R_drew HO_278000.out)
     replace BK277:=Aside0.mk (blk_drew BK277.out)
     replace HK:=Aside0.mk (Kept.drew HK.out)
     replace HB:=Aside0.mk (below_drew1 HB.out)
     have p278:0≤(x1_1:Int):=od
     have q278:x1_1 < (x278000_1.length:Int):=od
     obtain ⟨ad278,e278,hx278_0,hx278_1,hx278_2⟩:=at_T56 (Kd.R_reads' HO_278000.out).2.2 x1_1 p278 q278
     cases e278
     replace p278:=eq_true p278
     replace q278:=eq_true q278
     have p279:0≤((ji8):Int):=od
     have q279:(ji8) < (x278000_1.length:Int):=od
     obtain ⟨ad279,e279,hx279_0,hx279_1,hx279_2⟩:=at_T56 (Kd.R_reads' HO_278000.out).2.2 (ji8) p279 q279
     obtain rfl:ad278=ad279:=(by injection e279)
     replace p279:=eq_true p279
     replace q279:=eq_true q279
     refine start_ (n:=17) (S:=fun w'=>w'.cell? ⟨gb277,0,none⟩=some (.slice (some ad278) x278000_1.length co3)∧w'.cell? ⟨gb277,1,none⟩=some (.int .i64 a0_1)∧w'.cell? (ad278.add ((x1_1).toNat * 3))=some (.int .i64 ((rd_T56 x278000_1 x1_1).f0))∧w'.cell? ⟨(ad278.add ((x1_1).toNat * 3)).block,(ad278.add ((x1_1).toNat * 3)).off + 1,none⟩=some (.int .i64 ((rd_T56 x278000_1 x1_1).f1))∧w'.cell? ⟨(ad278.add ((x1_1).toNat * 3)).block,(ad278.add ((x1_1).toNat * 3)).off + 2,none⟩=some (.int .i64 ((rd_T56 x278000_1 x1_1).f2))∧w'.cell? (ad278.add (((ji8)).toNat * 3))=some (.int .i64 ((rd_T56 x278000_1 (ji8)).f0))∧w'.cell? ⟨(ad278.add (((ji8)).toNat * 3)).block,(ad278.add (((ji8)).toNat * 3)).off + 1,none⟩=some (.int .i64 ((rd_T56 x278000_1 (ji8)).f1))∧w'.cell? ⟨(ad278.add (((ji8)).toNat * 3)).block,(ad278.add (((ji8)).toNat * 3)).off + 2,none⟩=some (.int .i64 ((rd_T56 x278000_1 (ji8)).f2))) (ds:=[]) (bs 17 0) (by kernel_rfl) rfl rfl ⟨bc BK277 0,bc BK277 1,hx278_0,hx278_1,hx278_2,hx279_0,hx279_1,hx279_2⟩ (fun hHeld=>?_);refine with_tabW impl_Heap_up.tab1 impl_Heap_up.bits1 (fun HT_ HW_=>?_)
     generalize wr.drew=w14 at HO_278000 BK277 HK HB hx278_0 hx278_1 hx278_2 hx279_0 hx279_1 hx279_2 hHeld ⊢
     refine pq 0 4 (bs 17 1) HT_ ?_
     refine pq 1 5 (bs 17 3) HT_ ?_
     refine pq 2 6 (bs 17 7) HT_ ?_
     refine pq 3 7 (bs 17 15) HT_ ?_
     refine pq 5 9 (bs 17 47) HT_ ?_
     refine pq 8 12 (bs 17 303) HT_ ?_
     refine pq 10 14 (bs 17 1327) HT_ ?_
     refine pq 11 15 (bs 17 3375) HT_ ?_
     refine pq 12 16 (bs 17 7471) HT_ ?_
     refine tq 4 8 (bs 17 7487) HT_ HW_ hHeld ?_
     refine pq 6 10 (bs 17 7551) HT_ ?_
     refine tq 7 11 (bs 17 7679) HT_ HW_ hHeld ?_
     refine tq 9 13 (bs 17 8191) HT_ HW_ hHeld ?_
     refine pq 13 17 (bs 17 16383) HT_ ?_
     refine tq 14 18 (bs 17 32767) HT_ HW_ hHeld ?_
     refine one_ (i:=15) (N:=some 19) (bs 17 65535) rfl rfl (one_of HT_.out (by kernel_rfl)) (by decide) (fun K hK=>?_)
     refine goes_ Try.func73 (by kernel_rfl) rfl #[.agg #[.int .i64 ((rd_T56 x278000_1 x1_1).f0),.int .i64 ((rd_T56 x278000_1 x1_1).f1),.int .i64 ((rd_T56 x278000_1 x1_1).f2)],.agg #[.int .i64 ((rd_T56 x278000_1 (ji8)).f0),.int .i64 ((rd_T56 x278000_1 (ji8)).f1),.int .i64 ((rd_T56 x278000_1 (ji8)).f2)]] (by rfl) rfl rfl (by (try simp only [List.map_toArray,List.map_cons,List.map_nil]);first|done|(simp only [hji8];rfl)|rfl|(simp only [List.length_drop,List.length_take];rfl)) ?_
     with_reducible refine (impl_Due_before.calls k1 ((rd_T56 x278000_1 x1_1).f0) ((rd_T56 x278000_1 x1_1).f1) ((rd_T56 x278000_1 x1_1).f2) ((rd_T56 x278000_1 (ji8)).f0) ((rd_T56 x278000_1 (ji8)).f1) ((rd_T56 x278000_1 (ji8)).f2) true _ A11.out).mono ?_
     rintro e w15 ⟨rfl,hb⟩
     have HS2_:=(hb.cell (World.block_lt_of_cell? _ _ (hHeld.2.2.1))).trans (hHeld.2.2.1)
     have HS3_:=(hb.cell (World.block_lt_of_cell? _ _ (hHeld.2.2.2.1))).trans (hHeld.2.2.2.1)
     have HS4_:=(hb.cell (World.block_lt_of_cell? _ _ (hHeld.2.2.2.2.1))).trans (hHeld.2.2.2.2.1)
     have HS5_:=(hb.cell (World.block_lt_of_cell? _ _ (hHeld.2.2.2.2.2.1))).trans (hHeld.2.2.2.2.2.1)
     have HS6_:=(hb.cell (World.block_lt_of_cell? _ _ (hHeld.2.2.2.2.2.2.1))).trans (hHeld.2.2.2.2.2.2.1)
     have HS7_:=(hb.cell (World.block_lt_of_cell? _ _ (hHeld.2.2.2.2.2.2.2))).trans (hHeld.2.2.2.2.2.2.2)
     refine ⟨_,rfl,?_⟩
     replace HO_278000:=Aside0.mk (Kd.R_below (kr HO_278000) hb)
     replace BK277:=Aside0.mk (blk_below (bk BK277) hb)
     replace HK:=Aside0.mk (Kept.below (S:=(fun k_=>P0_0_ k_)) (by repeat (first|(with_reducible first|exact HK.out|apply Kept.alloc|apply Kept.drewN|apply Kept.drew|refine Kept.setCell ?_ (.inr GW277.out) _)|exact HK.out)) hb)
     replace HB:=Aside0.mk (below_step bl hb)
     (try clear hb)
     (try clear hb2)
     (try clear hk)
     (try clear hi)
     refine hK.out _ _ ⟨bc BK277 0,bc BK277 1,HS2_,HS3_,HS4_,HS5_,HS6_,HS7_⟩ (fun hHeld=>?_)
     clear hK K
     refine nrm ?_
     refine pq 16 20 (bs 17 131071) HT_ ?_
     refine done_ (done_of HT_.out (by kernel_rfl)) ?_
     obtain ⟨hcz16_0,hcz16_1,hfz16_0,hfz16_1⟩:=ck2 BK277.out
     try go_wp2_with (first|((with_reducible refine gate_callee (f:=76) rfl ?_);refine goesL_ (some 26) rfl rfl Try.func76 (by kernel_rfl) rfl #[.agg #[.slice (some ad278) x278000_1.length co3,.int .i64 a0_1],.int .i64 x1_1,.int .i64 ji8] rfl (by (try simp only [List.map_toArray,List.map_cons,List.map_nil]);first|done|(simp only [hji8];rfl)|rfl|(simp only [List.length_drop,List.length_take];rfl)) ?_;(with_reducible refine (impl_Heap_swap.calls (fun k_=>some k_=(.slice (some ad278) x278000_1.length co3:Value).ownBlock) (.slice (some ad278) x278000_1.length co3) x278000_1 a0_1 x1_1 ji8 t281 w0 _ ?side1 ?side2 A13.out).mono ?_);(case side1=>repeat (first|(with_reducible first|exact HB.out|apply below_alloc|apply pw_below_drewN|apply below_drew1|refine below_set ?_ GE277.out)|exact HB.out));(case side2=>exact Kd.R_tight rfl HO_278000.out);rintro e w17 ⟨rfl,hy0,hb,hkp⟩;refine ⟨_,rfl,?_⟩;replace BK277:=Aside0.mk (blk_kept (bk BK277) hkp (fun hs_=>(fun e_=>(Kd.R_ne HO_278000.out BK277.out (by decide)) e_) hs_));replace HK:=Aside0.mk (Kept.then_ (S:=(fun k_=>P0_0_ k_)) (by repeat (first|(with_reducible first|exact HK.out|apply Kept.alloc|apply Kept.drewN|apply Kept.drew|refine Kept.setCell ?_ (.inr GW277.out) _)|exact HK.out)) hkp (fun k_ hs_=>(fun e_=>(HO_278000.out.1 k_ e_.symm)) hs_));replace HO_278000:=Aside0.mk (Kd.R_reok rfl hy0 (fun k_ e_=>HO_278000.out.1 k_ e_));replace HB:=Aside0.mk (hb);(try clear hb);(try clear hkp);(try clear hy0)))
     (try simp only [← hl278000_1])
     go_roundg k1
     case measure=>have:=HK1.out;omega
     case rel=>exact ⟨(ji8),(t281),(by first|rfl|(simp;done)|(simp only [← hji8] <;> (first|rfl|simp))|(simp [*];done)),H',⟨by have:=HK1.out;omega⟩,⟨by (try simp only [hl278000_1]);(with_reducible repeat (first|apply Kd.R_alloc|apply Kd.R_drewN|apply Kd.R_drew));exact HO_278000.out⟩,⟨by (try simp only [hl278000_1]);(with_reducible repeat (first|refine blk_drewN ?_ _|refine blk_drew ?_|refine blk_alloc ?_ _));exact BK277.out⟩,⟨by repeat (first|(with_reducible first|exact HK.out|apply Kept.alloc|apply Kept.drewN|apply Kept.drew|refine Kept.setCell ?_ (.inr GW277.out) _)|exact HK.out)⟩,⟨bl⟩⟩
    ·replace c12:=Bool.eq_false_iff.mpr c12
     subst c12
     rw [if_neg nft] at H
     obtain rfl:=Option.some.inj H
     try go_wp2
     replace HO_278000:=Aside0.mk (Kd.R_drew HO_278000.out)
     replace BK277:=Aside0.mk (blk_drew BK277.out)
     replace HK:=Aside0.mk (Kept.drew HK.out)
     replace HB:=Aside0.mk (below_drew1 HB.out)
     have p278:0≤(x1_1:Int):=od
     have q278:x1_1 < (x278000_1.length:Int):=od
     obtain ⟨ad278,e278,hx278_0,hx278_1,hx278_2⟩:=at_T56 (Kd.R_reads' HO_278000.out).2.2 x1_1 p278 q278
     cases e278
     replace p278:=eq_true p278
     replace q278:=eq_true q278
     have p279:0≤((ji8):Int):=od
     have q279:(ji8) < (x278000_1.length:Int):=od
     obtain ⟨ad279,e279,hx279_0,hx279_1,hx279_2⟩:=at_T56 (Kd.R_reads' HO_278000.out).2.2 (ji8) p279 q279
     obtain rfl:ad278=ad279:=(by injection e279)
     replace p279:=eq_true p279
     replace q279:=eq_true q279
     refine start_ (n:=17) (S:=fun w'=>w'.cell? ⟨gb277,0,none⟩=some (.slice (some ad278) x278000_1.length co3)∧w'.cell? ⟨gb277,1,none⟩=some (.int .i64 a0_1)∧w'.cell? (ad278.add ((x1_1).toNat * 3))=some (.int .i64 ((rd_T56 x278000_1 x1_1).f0))∧w'.cell? ⟨(ad278.add ((x1_1).toNat * 3)).block,(ad278.add ((x1_1).toNat * 3)).off + 1,none⟩=some (.int .i64 ((rd_T56 x278000_1 x1_1).f1))∧w'.cell? ⟨(ad278.add ((x1_1).toNat * 3)).block,(ad278.add ((x1_1).toNat * 3)).off + 2,none⟩=some (.int .i64 ((rd_T56 x278000_1 x1_1).f2))∧w'.cell? (ad278.add (((ji8)).toNat * 3))=some (.int .i64 ((rd_T56 x278000_1 (ji8)).f0))∧w'.cell? ⟨(ad278.add (((ji8)).toNat * 3)).block,(ad278.add (((ji8)).toNat * 3)).off + 1,none⟩=some (.int .i64 ((rd_T56 x278000_1 (ji8)).f1))∧w'.cell? ⟨(ad278.add (((ji8)).toNat * 3)).block,(ad278.add (((ji8)).toNat * 3)).off + 2,none⟩=some (.int .i64 ((rd_T56 x278000_1 (ji8)).f2))) (ds:=[]) (bs 17 0) (by kernel_rfl) rfl rfl ⟨bc BK277 0,bc BK277 1,hx278_0,hx278_1,hx278_2,hx279_0,hx279_1,hx279_2⟩ (fun hHeld=>?_);refine with_tabW impl_Heap_up.tab1 impl_Heap_up.bits1 (fun HT_ HW_=>?_)
     generalize wr.drew=w18 at HO_278000 BK277 HK HB hx278_0 hx278_1 hx278_2 hx279_0 hx279_1 hx279_2 hHeld ⊢
     refine pq 0 4 (bs 17 1) HT_ ?_
     refine pq 1 5 (bs 17 3) HT_ ?_
     refine pq 2 6 (bs 17 7) HT_ ?_
     refine pq 3 7 (bs 17 15) HT_ ?_
     refine pq 5 9 (bs 17 47) HT_ ?_
     refine pq 8 12 (bs 17 303) HT_ ?_
     refine pq 10 14 (bs 17 1327) HT_ ?_
     refine pq 11 15 (bs 17 3375) HT_ ?_
     refine pq 12 16 (bs 17 7471) HT_ ?_
     refine tq 4 8 (bs 17 7487) HT_ HW_ hHeld ?_
     refine pq 6 10 (bs 17 7551) HT_ ?_
     refine tq 7 11 (bs 17 7679) HT_ HW_ hHeld ?_
     refine tq 9 13 (bs 17 8191) HT_ HW_ hHeld ?_
     refine pq 13 17 (bs 17 16383) HT_ ?_
     refine tq 14 18 (bs 17 32767) HT_ HW_ hHeld ?_
     refine one_ (i:=15) (N:=some 19) (bs 17 65535) rfl rfl (one_of HT_.out (by kernel_rfl)) (by decide) (fun K hK=>?_)
     refine goes_ Try.func73 (by kernel_rfl) rfl #[.agg #[.int .i64 ((rd_T56 x278000_1 x1_1).f0),.int .i64 ((rd_T56 x278000_1 x1_1).f1),.int .i64 ((rd_T56 x278000_1 x1_1).f2)],.agg #[.int .i64 ((rd_T56 x278000_1 (ji8)).f0),.int .i64 ((rd_T56 x278000_1 (ji8)).f1),.int .i64 ((rd_T56 x278000_1 (ji8)).f2)]] (by rfl) rfl rfl (by (try simp only [List.map_toArray,List.map_cons,List.map_nil]);first|done|(simp only [hji8];rfl)|rfl|(simp only [List.length_drop,List.length_take];rfl)) ?_
     with_reducible refine (impl_Due_before.calls k1 ((rd_T56 x278000_1 x1_1).f0) ((rd_T56 x278000_1 x1_1).f1) ((rd_T56 x278000_1 x1_1).f2) ((rd_T56 x278000_1 (ji8)).f0) ((rd_T56 x278000_1 (ji8)).f1) ((rd_T56 x278000_1 (ji8)).f2) false _ A11.out).mono ?_
     rintro e w19 ⟨rfl,hb⟩
     have HS2_:=(hb.cell (World.block_lt_of_cell? _ _ (hHeld.2.2.1))).trans (hHeld.2.2.1)
     have HS3_:=(hb.cell (World.block_lt_of_cell? _ _ (hHeld.2.2.2.1))).trans (hHeld.2.2.2.1)
     have HS4_:=(hb.cell (World.block_lt_of_cell? _ _ (hHeld.2.2.2.2.1))).trans (hHeld.2.2.2.2.1)
     have HS5_:=(hb.cell (World.block_lt_of_cell? _ _ (hHeld.2.2.2.2.2.1))).trans (hHeld.2.2.2.2.2.1)
     have HS6_:=(hb.cell (World.block_lt_of_cell? _ _ (hHeld.2.2.2.2.2.2.1))).trans (hHeld.2.2.2.2.2.2.1)
     have HS7_:=(hb.cell (World.block_lt_of_cell? _ _ (hHeld.2.2.2.2.2.2.2))).trans (hHeld.2.2.2.2.2.2.2)
     refine ⟨_,rfl,?_⟩
     replace HO_278000:=Aside0.mk (Kd.R_below (kr HO_278000) hb)
     replace BK277:=Aside0.mk (blk_below (bk BK277) hb)
     replace HK:=Aside0.mk (Kept.below (S:=(fun k_=>P0_0_ k_)) (by repeat (first|(with_reducible first|exact HK.out|apply Kept.alloc|apply Kept.drewN|apply Kept.drew|refine Kept.setCell ?_ (.inr GW277.out) _)|exact HK.out)) hb)
     replace HB:=Aside0.mk (below_step bl hb)
     (try clear hb)
     (try clear hb2)
     (try clear hk)
     (try clear hi)
     refine hK.out _ _ ⟨bc BK277 0,bc BK277 1,HS2_,HS3_,HS4_,HS5_,HS6_,HS7_⟩ (fun hHeld=>?_)
     clear hK K
     refine nrm ?_
     refine pq 16 20 (bs 17 131071) HT_ ?_
     refine done_ (done_of HT_.out (by kernel_rfl)) ?_
     try go_wp2
     first|go_end0|((try simp only [Exit.inBlock,Exit.then]);refine bodyPost_ret (results_none rfl _ _ _) rfl ?_)
     exact ⟨by first|rfl|(simp [errW_none,errW_some] <;> rfl)|(simp only [← hji8];first|rfl|(simp [errW_none,errW_some] <;> rfl))|(simp [*,errW_none,errW_some] <;> rfl),(by first|exact (kr HO_278000)|(simp only [hl278000_1];exact (kr HO_278000))),bl,by repeat (first|(with_reducible first|exact HK.out|apply Kept.alloc|apply Kept.drewN|apply Kept.drew|refine Kept.setCell ?_ (.inr GW277.out) _)|exact HK.out)⟩
   ·rw [if_neg c5] at H
    have c5b0:decide (0 < x1_1)=false:=decide_eq_false c5
    clear c5
    obtain rfl:=Option.some.inj H
    try go_wp2
    replace HO_278000:=Aside0.mk (Kd.R_drew HO_278000.out)
    replace BK277:=Aside0.mk (blk_drew BK277.out)
    replace HK:=Aside0.mk (Kept.drew HK.out)
    replace HB:=Aside0.mk (below_drew1 HB.out)
    refine start_ (n:=17) (S:=fun w'=>True) (ds:=[]) (bs 17 0) (by kernel_rfl) rfl rfl trivial (fun hHeld=>?_);refine with_tabW impl_Heap_up.tab1 impl_Heap_up.bits1 (fun HT_ HW_=>?_)
    generalize wr.drew=w20 at HO_278000 BK277 HK HB hHeld ⊢
    refine pq 0 4 (bs 17 1) HT_ ?_
    refine pq 1 5 (bs 17 3) HT_ ?_
    refine pq 2 6 (bs 17 7) HT_ ?_
    refine uq 3 7 (bs 17 15) HT_ ?_
    refine uq 4 8 (bs 17 31) HT_ ?_
    refine uq 5 9 (bs 17 63) HT_ ?_
    refine uq 6 10 (bs 17 127) HT_ ?_
    refine uq 7 11 (bs 17 255) HT_ ?_
    refine uq 8 12 (bs 17 511) HT_ ?_
    refine uq 9 13 (bs 17 1023) HT_ ?_
    refine uq 10 14 (bs 17 2047) HT_ ?_
    refine uq 11 15 (bs 17 4095) HT_ ?_
    refine uq 12 16 (bs 17 8191) HT_ ?_
    refine uq 13 17 (bs 17 16383) HT_ ?_
    refine uq 14 18 (bs 17 32767) HT_ ?_
    refine uq 15 19 (bs 17 65535) HT_ ?_
    refine pq 16 20 (bs 17 131071) HT_ ?_
    refine done_ (done_of HT_.out (by kernel_rfl)) ?_
    try go_wp2
    first|go_end0|((try simp only [Exit.inBlock,Exit.then]);refine bodyPost_ret (results_none rfl _ _ _) rfl ?_)
    exact ⟨er,(by first|exact (kr HO_278000)|(simp only [hl278000_1];exact (kr HO_278000))),bl,by repeat (first|(with_reducible first|exact HK.out|apply Kept.alloc|apply Kept.drewN|apply Kept.drew|refine Kept.setCell ?_ (.inr GW277.out) _)|exact HK.out)⟩

end Go.Proofs.Ytdffkcbaijbhoaa.PFnExactSchedule
