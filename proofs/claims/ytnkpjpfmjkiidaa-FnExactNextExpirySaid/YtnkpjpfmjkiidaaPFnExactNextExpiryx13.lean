/- Contracts of functions of the given program: what each call answers. Written by a program of this session, out of the text of the functions. -/
import Derived.Test.YtnkpjpfmjkiidaaPFnExactNextExpiryx0
import Derived.Test.YtnkpjpfmjkiidaaPFnExactNextExpiryx1
import Derived.Test.YtnkpjpfmjkiidaaPFnExactNextExpiryx2
import Derived.Test.YtnkpjpfmjkiidaaPFnExactNextExpiryx7
import Derived.Test.YtnkpjpfmjkiidaaPFnExactNextExpiryx11
import Derived.Test.YtnkpjpfmjkiidaaPFnExactNextExpiryx12
import Derived.Test.YtnkpjpfmjkiidaaZFnExactNextExpiry
namespace Go.Proofs.Ytnkpjpfmjkiidaa.PFnExactNextExpiry
open Go.RowKit Go.Proofs.YtnkpjpfmjkiidaaW.PrintWords Go.Proofs.YtnkpjpfmjkiidaaW.PrintLast Go.Proofs.YtnkpjpfmjkiidaaW.PrintMore Go.Proofs.Ytnkpjpfmjkiidaa.Giv Go.Proofs.Ytnkpjpfmjkiidaa.Prs
attribute [local go_sem] max2_int min2_int max_two min_two max_three min_three max_four min_four   -- for this text's walks alone
set_option linter.unusedVariables false
set_option linter.unusedSimpArgs false

/-! ### impl_NextDue: function 71 -/
def impl_NextDue.f (k:Nat) (l0_0:List (S86)) (a0_1:Int):Option (Int × Int × Int × Bool):=(impl_HeapOk.f k l0_0 a0_1).bind fun t327=>(if t327=true then (if (l0_0.length:Int)=0 then (some (0,0,0,false)) else (if 0 < (l0_0.length:Int) then (some ((rd_T86 l0_0 0).f0,(rd_T86 l0_0 0).f1,(rd_T86 l0_0 0).f2,true)) else (none))) else (some (0,0,0,false)))
theorem impl_NextDue.mono:∀ a0 a1 k,LeO (impl_NextDue.f k a0 a1) (impl_NextDue.f (k + 1) a0 a1):=by
 intro a0 a1 k
 unfold impl_NextDue.f
 repeat' first
   | (with_reducible exact impl_HeapOk.mono _ _ _)
   | (with_reducible exact LeO.refl _)
   | (with_reducible exact LeO.none _)
   | (with_reducible refine LeO.ite ?_ ?_)
   | (with_reducible refine LeO.bind ?_ (fun _=>?_))
   | exact impl_HeapOk.mono _ _ _
   | exact LeO.none _
   | refine LeO.ite ?_ ?_
   | refine LeO.bind ?_ (fun _=>?_)
set_option maxHeartbeats 8000000 in
set_option maxRecDepth 100000 in
theorem impl_NextDue.calls (k:Nat) (A0_0:Option Addr) (c0_0:Nat) (l0_0:List (S86)) (a0_1:Int) (r1:Int) (r2:Int) (r3:Int) (r4:Bool) (w:World) (hr0_0:Kd.C k86 w A0_0 l0_0.length l0_0) (hc0_0:l0_0.length≤c0_0) (h:impl_NextDue.f k l0_0 a0_1=some (r1,r2,r3,r4)) :
  Calls Try.prog 71 #[.agg #[.slice A0_0 l0_0.length c0_0,.int .i64 a0_1]] w fun e w'=>e = .returned (.tuple #[.agg #[.int .i64 r1,.int .i64 r2,.int .i64 r3],.bool r4])∧Below w.heap.size w w':=by
 have hu44:=Try.underlying44
 have hu86:=Try.underlying86
 have HR0_0:=Aside0.mk hr0_0
 have HC0_0:=Aside0.mk hc0_0
 clear hr0_0 hc0_0
 have HB:=Aside0.mk (Below.refl w.heap.size w)
 have H:((impl_HeapOk.f k l0_0 a0_1).bind fun t327=>(if t327=true then (if (l0_0.length:Int)=0 then (some (0,0,0,false)) else (if 0 < (l0_0.length:Int) then (some ((rd_T86 l0_0 0).f0,(rd_T86 l0_0 0).f1,(rd_T86 l0_0 0).f2,true)) else (none))) else (some (0,0,0,false))))=some (r1,r2,r3,r4):=h
 clear h
 replace H:=Option.bind_eq_some_iff.mp H
 obtain ⟨t327,A20,H⟩:=H
 have A2:=Aside0.mk A20
 clear A20
 by_cases c3:t327=true
 ·subst c3
  rw [if_pos rfl] at H
  by_cases c4:(l0_0.length:Int)=0
  ·rw [if_pos c4] at H
   have c4b0:((l0_0.length:Int) == 0)=true:=beq_iff_eq.mpr c4
   have c4b1:((l0_0.length:Int) != 0)=false:=bne_eq_false_iff_eq.mpr c4
   clear c4
   simp only [Option.some.injEq,Prod.mk.injEq] at H
   obtain ⟨rfl,rfl,rfl,rfl⟩:=H
   go_enter Try.func71,Try.ntmps71
   go_wp2_with (first|((with_reducible refine gate_dst (N:=1) rfl ?_);(try (refine gate_guard (by rfl) ?_;dsimp only));refine bx 1 #[.slice A0_0 l0_0.length c0_0,.int .i64 a0_1] 44 ?_;intro gb325 hg w5 hbox hb;have BK325:=Aside0.mk (hbox);have GW325:=Aside0.mk (bz hg:w.heap.size≤gb325);have GE325:=GW325;replace HB:=Aside0.mk (below_step bl hb);clear hb hbox hg)|((with_reducible refine gate_dst (N:=2) rfl ?_);(try (refine gate_guard (by rfl) ?_;dsimp only));refine bx 2 #[.int .i64 0,.int .i64 0,.int .i64 0] 86 ?_;intro gb326 hg w6 hbox hb;have BK326:=Aside0.mk (hbox);have GW326:=Aside0.mk (bz hg:w.heap.size≤gb326);have GE326:=GW326;replace HB:=Aside0.mk (below_step bl hb);have NB325_326:=Aside0.mk (nl hg BK325:gb325≠gb326);have NB326_325:=Aside0.mk (nr hg BK325:gb326≠gb325);replace BK325:=Aside0.mk (blk_below (bk BK325) hb);clear hb hbox hg;have hnb7:=NB325_326.out;have hnc7:=NB326_325.out;obtain ⟨hcz8_0,hcz8_1,hfz8_0,hfz8_1⟩:=ck2 BK325.out)|((with_reducible refine gate_callee (f:=66) rfl ?_);refine gl (some 5) Try.func66 #[.agg #[.slice A0_0 l0_0.length c0_0,.int .i64 a0_1]] ?_;(with_reducible refine (impl_HeapOk.calls k _ _ l0_0 a0_1 true _ ?side1 ?side2 A2.out).mono ?_);(case side1=>exact kc HR0_0);(case side2=>exact HC0_0.out);rintro e w9 ⟨rfl,hb⟩;refine ⟨_,rfl,?_⟩;replace BK325:=Aside0.mk (blk_below (bk BK325) hb);replace BK326:=Aside0.mk (blk_below (bk BK326) hb);replace HB:=Aside0.mk (below_step bl hb);(try clear hb);(try clear hb2);(try clear hk);(try clear hi);obtain ⟨hcz10_0,hcz10_1,hfz10_0,hfz10_1⟩:=ck2 BK325.out;obtain ⟨hcz11_0,hcz11_1,hcz11_2,hfz11_0,hfz11_1,hfz11_2⟩:=ck3 BK326.out))
   refine bodyPost_ret (results_ct rfl _ _ gb326 86 #[.int .i64 0,.int .i64 0,.int .i64 0] (0,0) _ rfl (by (with_reducible repeat (first|refine blk_drewN ?_ _|refine blk_drew ?_|refine blk_alloc ?_ _));refine blk_put (cs:=#[.int .i64 0,.int .i64 0,.int .i64 0]) ?_ 2 _ rfl;(with_reducible repeat (first|refine blk_drewN ?_ _|refine blk_drew ?_|refine blk_alloc ?_ _));refine blk_put (cs:=#[.int .i64 0,.int .i64 0,.int .i64 0]) ?_ 1 _ rfl;(with_reducible repeat (first|refine blk_drewN ?_ _|refine blk_drew ?_|refine blk_alloc ?_ _));refine blk_put (cs:=#[.int .i64 0,.int .i64 0,.int .i64 0]) ?_ 0 _ rfl;(with_reducible repeat (first|refine blk_drewN ?_ _|refine blk_drew ?_|refine blk_alloc ?_ _));exact BK326.out) Try.underlying86 rfl (by kernel_rfl)) rfl ?_
   exact ⟨er,bl⟩
  ·rw [if_neg c4] at H
   have c4b0:((l0_0.length:Int) == 0)=false:=beq_eq_false_iff_ne.mpr c4
   have c4b1:((l0_0.length:Int) != 0)=true:=bne_iff_ne.mpr c4
   have c4b2:¬ (l0_0 = []):=fun h_=>c4 (by rw [h_];rfl)
   by_cases c12:0 < (l0_0.length:Int)
   case neg =>
    rw [if_neg c12] at H
    exact absurd H (by simp)
   rw [if_pos c12] at H
   have c12b0:decide (0 < (l0_0.length:Int))=true:=decide_eq_true c12
   have c12b1:decide (0 < l0_0.length)=true:=decide_eq_true (by omega)
   clear c12
   simp only [Option.some.injEq,Prod.mk.injEq] at H
   obtain ⟨rfl,rfl,rfl,rfl⟩:=H
   go_enter Try.func71,Try.ntmps71
   go_wp2_with (first|((with_reducible refine gate_dst (N:=1) rfl ?_);(try (refine gate_guard (by rfl) ?_;dsimp only));refine bx 1 #[.slice A0_0 l0_0.length c0_0,.int .i64 a0_1] 44 ?_;intro gb325 hg w13 hbox hb;have BK325:=Aside0.mk (hbox);have GW325:=Aside0.mk (bz hg:w.heap.size≤gb325);have GE325:=GW325;replace HB:=Aside0.mk (below_step bl hb);clear hb hbox hg)|((with_reducible refine gate_dst (N:=2) rfl ?_);(try (refine gate_guard (by rfl) ?_;dsimp only));refine bx 2 #[.int .i64 0,.int .i64 0,.int .i64 0] 86 ?_;intro gb326 hg w14 hbox hb;have BK326:=Aside0.mk (hbox);have GW326:=Aside0.mk (bz hg:w.heap.size≤gb326);have GE326:=GW326;replace HB:=Aside0.mk (below_step bl hb);have NB325_326:=Aside0.mk (nl hg BK325:gb325≠gb326);have NB326_325:=Aside0.mk (nr hg BK325:gb326≠gb325);replace BK325:=Aside0.mk (blk_below (bk BK325) hb);clear hb hbox hg;have hnb15:=NB325_326.out;have hnc15:=NB326_325.out;obtain ⟨hcz16_0,hcz16_1,hfz16_0,hfz16_1⟩:=ck2 BK325.out)|((with_reducible refine gate_callee (f:=66) rfl ?_);refine gl (some 5) Try.func66 #[.agg #[.slice A0_0 l0_0.length c0_0,.int .i64 a0_1]] ?_;(with_reducible refine (impl_HeapOk.calls k _ _ l0_0 a0_1 true _ ?side1 ?side2 A2.out).mono ?_);(case side1=>exact kc HR0_0);(case side2=>exact HC0_0.out);rintro e w17 ⟨rfl,hb⟩;refine ⟨_,rfl,?_⟩;replace BK325:=Aside0.mk (blk_below (bk BK325) hb);replace BK326:=Aside0.mk (blk_below (bk BK326) hb);replace HB:=Aside0.mk (below_step bl hb);(try clear hb);(try clear hb2);(try clear hk);(try clear hi);obtain ⟨hcz18_0,hcz18_1,hfz18_0,hfz18_1⟩:=ck2 BK325.out;have p328:0≤(0:Int):=(by omega);have q328:0 < (l0_0.length:Int):=od;obtain ⟨ad328,e328,hx328_0,hx328_1,hx328_2⟩:=at_T86 HR0_0.out 0 p328 q328;cases e328;have qi328:(0 < l0_0.length)=True:=eq_true (by omega);(try rw [show ((0:Int)).toNat=0 from rfl] at hx328_0);(try rw [show 0 * 3=0 from rfl] at hx328_0);(try rw [Addr.add_zero'] at hx328_0);(try rw [show ((0:Int)).toNat=0 from rfl] at hx328_1);(try rw [show 0 * 3=0 from rfl] at hx328_1);(try rw [Addr.add_zero'] at hx328_1);(try rw [show ((0:Int)).toNat=0 from rfl] at hx328_2);(try rw [show 0 * 3=0 from rfl] at hx328_2);(try rw [Addr.add_zero'] at hx328_2);replace hx328_0:=cl HB hx328_0;replace hx328_1:=cl HB hx328_1;replace hx328_2:=cl HB hx328_2;replace p328:=eq_true p328;replace q328:=eq_true q328;obtain ⟨hcz19_0,hcz19_1,hcz19_2,hfz19_0,hfz19_1,hfz19_2⟩:=ck3 BK326.out))
   refine bodyPost_ret (results_ct rfl _ _ gb326 86 #[.int .i64 ((rd_T86 l0_0 0).f0),.int .i64 ((rd_T86 l0_0 0).f1),.int .i64 ((rd_T86 l0_0 0).f2)] (0,0) _ rfl (by (with_reducible repeat (first|refine blk_drewN ?_ _|refine blk_drew ?_|refine blk_alloc ?_ _));refine blk_put (cs:=#[.int .i64 ((rd_T86 l0_0 0).f0),.int .i64 ((rd_T86 l0_0 0).f1),.int .i64 0]) ?_ 2 _ rfl;(with_reducible repeat (first|refine blk_drewN ?_ _|refine blk_drew ?_|refine blk_alloc ?_ _));refine blk_put (cs:=#[.int .i64 ((rd_T86 l0_0 0).f0),.int .i64 0,.int .i64 0]) ?_ 1 _ rfl;(with_reducible repeat (first|refine blk_drewN ?_ _|refine blk_drew ?_|refine blk_alloc ?_ _));refine blk_put (cs:=#[.int .i64 0,.int .i64 0,.int .i64 0]) ?_ 0 _ rfl;(with_reducible repeat (first|refine blk_drewN ?_ _|refine blk_drew ?_|refine blk_alloc ?_ _));exact BK326.out) Try.underlying86 rfl (by kernel_rfl)) rfl ?_
   exact ⟨er,bl⟩
 ·replace c3:=Bool.eq_false_iff.mpr c3
  subst c3
  rw [if_neg nft] at H
  simp only [Option.some.injEq,Prod.mk.injEq] at H
  obtain ⟨rfl,rfl,rfl,rfl⟩:=H
  go_enter Try.func71,Try.ntmps71
  go_wp2_with (first|((with_reducible refine gate_dst (N:=1) rfl ?_);(try (refine gate_guard (by rfl) ?_;dsimp only));refine bx 1 #[.slice A0_0 l0_0.length c0_0,.int .i64 a0_1] 44 ?_;intro gb325 hg w20 hbox hb;have BK325:=Aside0.mk (hbox);have GW325:=Aside0.mk (bz hg:w.heap.size≤gb325);have GE325:=GW325;replace HB:=Aside0.mk (below_step bl hb);clear hb hbox hg)|((with_reducible refine gate_dst (N:=2) rfl ?_);(try (refine gate_guard (by rfl) ?_;dsimp only));refine bx 2 #[.int .i64 0,.int .i64 0,.int .i64 0] 86 ?_;intro gb326 hg w21 hbox hb;have BK326:=Aside0.mk (hbox);have GW326:=Aside0.mk (bz hg:w.heap.size≤gb326);have GE326:=GW326;replace HB:=Aside0.mk (below_step bl hb);have NB325_326:=Aside0.mk (nl hg BK325:gb325≠gb326);have NB326_325:=Aside0.mk (nr hg BK325:gb326≠gb325);replace BK325:=Aside0.mk (blk_below (bk BK325) hb);clear hb hbox hg;have hnb22:=NB325_326.out;have hnc22:=NB326_325.out;obtain ⟨hcz23_0,hcz23_1,hfz23_0,hfz23_1⟩:=ck2 BK325.out)|((with_reducible refine gate_callee (f:=66) rfl ?_);refine gl (some 5) Try.func66 #[.agg #[.slice A0_0 l0_0.length c0_0,.int .i64 a0_1]] ?_;(with_reducible refine (impl_HeapOk.calls k _ _ l0_0 a0_1 false _ ?side1 ?side2 A2.out).mono ?_);(case side1=>exact kc HR0_0);(case side2=>exact HC0_0.out);rintro e w24 ⟨rfl,hb⟩;refine ⟨_,rfl,?_⟩;replace BK325:=Aside0.mk (blk_below (bk BK325) hb);replace BK326:=Aside0.mk (blk_below (bk BK326) hb);replace HB:=Aside0.mk (below_step bl hb);(try clear hb);(try clear hb2);(try clear hk);(try clear hi);obtain ⟨hcz25_0,hcz25_1,hcz25_2,hfz25_0,hfz25_1,hfz25_2⟩:=ck3 BK326.out))
  refine bodyPost_ret (results_ct rfl _ _ gb326 86 #[.int .i64 0,.int .i64 0,.int .i64 0] (0,0) _ rfl (by (with_reducible repeat (first|refine blk_drewN ?_ _|refine blk_drew ?_|refine blk_alloc ?_ _));refine blk_put (cs:=#[.int .i64 0,.int .i64 0,.int .i64 0]) ?_ 2 _ rfl;(with_reducible repeat (first|refine blk_drewN ?_ _|refine blk_drew ?_|refine blk_alloc ?_ _));refine blk_put (cs:=#[.int .i64 0,.int .i64 0,.int .i64 0]) ?_ 1 _ rfl;(with_reducible repeat (first|refine blk_drewN ?_ _|refine blk_drew ?_|refine blk_alloc ?_ _));refine blk_put (cs:=#[.int .i64 0,.int .i64 0,.int .i64 0]) ?_ 0 _ rfl;(with_reducible repeat (first|refine blk_drewN ?_ _|refine blk_drew ?_|refine blk_alloc ?_ _));exact BK326.out) Try.underlying86 rfl (by kernel_rfl)) rfl ?_
  exact ⟨er,bl⟩

/-! ### impl_NextExpiry: function 25 -/
def impl_NextExpiry.f (k:Nat) (l0_0:List (S97)) (a0_1:Int) (a0_2:Int) (a0_3:Int) (a0_4:Int) (l0_5:List (S86)) (a0_6:Int):Option (Int):=(impl_NextDue.f k l0_5 a0_6).bind fun bt330=>((impl_LineOk.f k l0_0 a0_1 a0_2 a0_3 a0_4 l0_5 a0_6).bind fun t335=>(if t335=true then (if bt330.2.2.2=true then (some bt330.1) else (some (-1))) else (some (-1))))
theorem impl_NextExpiry.mono:∀ a0 a1 a2 a3 a4 a5 a6 k,LeO (impl_NextExpiry.f k a0 a1 a2 a3 a4 a5 a6) (impl_NextExpiry.f (k + 1) a0 a1 a2 a3 a4 a5 a6):=by
 intro a0 a1 a2 a3 a4 a5 a6 k
 unfold impl_NextExpiry.f
 repeat' first
   | (with_reducible exact impl_LineOk.mono _ _ _ _ _ _ _ _)
   | (with_reducible exact impl_NextDue.mono _ _ _)
   | (with_reducible exact LeO.refl _)
   | (with_reducible exact LeO.none _)
   | (with_reducible refine LeO.ite ?_ ?_)
   | (with_reducible refine LeO.bind ?_ (fun _=>?_))
   | exact impl_LineOk.mono _ _ _ _ _ _ _ _
   | exact impl_NextDue.mono _ _ _
   | exact LeO.none _
   | refine LeO.ite ?_ ?_
   | refine LeO.bind ?_ (fun _=>?_)
set_option maxHeartbeats 8000000 in
set_option maxRecDepth 100000 in
theorem impl_NextExpiry.calls (k:Nat) (A0_0:Option Addr) (c0_0:Nat) (l0_0:List (S97)) (a0_1:Int) (a0_2:Int) (a0_3:Int) (a0_4:Int) (A0_5:Option Addr) (c0_5:Nat) (l0_5:List (S86)) (a0_6:Int) (r:Int) (w:World) (hr0_0:Kd.C k97 w A0_0 l0_0.length l0_0) (hc0_0:l0_0.length≤c0_0) (hr0_5:Kd.C k86 w A0_5 l0_5.length l0_5) (hc0_5:l0_5.length≤c0_5) (h:impl_NextExpiry.f k l0_0 a0_1 a0_2 a0_3 a0_4 l0_5 a0_6=some r) :
  Calls Try.prog 25 #[.agg #[.slice A0_0 l0_0.length c0_0,.int .i64 a0_1,.int .i64 a0_2,.int .i64 a0_3,.int .i64 a0_4,.slice A0_5 l0_5.length c0_5,.int .i64 a0_6]] w fun e w'=>e = .returned (.int .i64 r)∧Below w.heap.size w w':=by
 have hu46:=Try.underlying46
 have hu44:=Try.underlying44
 have hu86:=Try.underlying86
 have HR0_0:=Aside0.mk hr0_0
 have HC0_0:=Aside0.mk hc0_0
 clear hr0_0 hc0_0
 have HR0_5:=Aside0.mk hr0_5
 have HC0_5:=Aside0.mk hc0_5
 clear hr0_5 hc0_5
 have HB:=Aside0.mk (Below.refl w.heap.size w)
 have H:((impl_NextDue.f k l0_5 a0_6).bind fun bt330=>((impl_LineOk.f k l0_0 a0_1 a0_2 a0_3 a0_4 l0_5 a0_6).bind fun t335=>(if t335=true then (if bt330.2.2.2=true then (some bt330.1) else (some (-1))) else (some (-1)))))=some r:=h
 clear h
 replace H:=Option.bind_eq_some_iff.mp H
 obtain ⟨⟨t330,t331,t332,t333⟩,A20,H⟩:=H
 replace H:((impl_LineOk.f k l0_0 a0_1 a0_2 a0_3 a0_4 l0_5 a0_6).bind fun t335=>(if t335=true then (if t333=true then (some t330) else (some (-1))) else (some (-1))))=some r:=H
 have A2:=Aside0.mk A20
 clear A20
 replace H:=Option.bind_eq_some_iff.mp H
 obtain ⟨t335,A30,H⟩:=H
 have A3:=Aside0.mk A30
 clear A30
 by_cases c4:t335=true
 ·subst c4
  rw [if_pos rfl] at H
  by_cases c5:t333=true
  ·subst c5
   rw [if_pos rfl] at H
   obtain rfl:=Option.some.inj H
   go_enter Try.func25,Try.ntmps25
   go_wp2_with (first|((with_reducible refine gate_dst (N:=1) rfl ?_);refine bx 1 #[.slice A0_0 l0_0.length c0_0,.int .i64 a0_1,.int .i64 a0_2,.int .i64 a0_3,.int .i64 a0_4,.slice A0_5 l0_5.length c0_5,.int .i64 a0_6] 46 ?_;intro gb329 hg w6 hbox hb;have BK329:=Aside0.mk (hbox);have GW329:=Aside0.mk (bz hg:w.heap.size≤gb329);have GE329:=GW329;replace HB:=Aside0.mk (below_step bl hb);clear hb hbox hg;obtain ⟨hcz7_0,hcz7_1,hcz7_2,hcz7_3,hcz7_4,hcz7_5,hcz7_6,hfz7_0,hfz7_1,hfz7_2,hfz7_3,hfz7_4,hfz7_5,hfz7_6⟩:=ck7 BK329.out)|((with_reducible refine gate_callee (f:=71) rfl ?_);refine gl (some 8) Try.func71 #[.agg #[.slice A0_5 l0_5.length c0_5,.int .i64 a0_6]] ?_;(with_reducible refine (impl_NextDue.calls k _ _ l0_5 a0_6 t330 t331 t332 true _ ?side1 ?side2 A2.out).mono ?_);(case side1=>exact kc HR0_5);(case side2=>exact HC0_5.out);rintro e w8 ⟨rfl,hb⟩;refine ⟨_,rfl,?_⟩;replace BK329:=Aside0.mk (blk_below (bk BK329) hb);replace HB:=Aside0.mk (below_step bl hb);(try clear hb);(try clear hb2);(try clear hk);(try clear hi))|((with_reducible refine gate_dst (N:=3) rfl ?_);refine bx 3 #[.int .i64 0,.int .i64 0,.int .i64 0] 86 ?_;intro gb334 hg w9 hbox hb;have BK334:=Aside0.mk (hbox);have GW334:=Aside0.mk (bz hg:w.heap.size≤gb334);have GE334:=GW334;replace HB:=Aside0.mk (below_step bl hb);have NB329_334:=Aside0.mk (nl hg BK329:gb329≠gb334);have NB334_329:=Aside0.mk (nr hg BK329:gb334≠gb329);replace BK329:=Aside0.mk (blk_below (bk BK329) hb);clear hb hbox hg;have hnb10:=NB334_329.out;have hnc10:=NB329_334.out;obtain ⟨hcz11_0,hcz11_1,hcz11_2,hfz11_0,hfz11_1,hfz11_2⟩:=ck3 BK334.out;obtain ⟨hcz12_0,hcz12_1,hcz12_2,hcz12_3,hcz12_4,hcz12_5,hcz12_6,hfz12_0,hfz12_1,hfz12_2,hfz12_3,hfz12_4,hfz12_5,hfz12_6⟩:=ck7 BK329.out)|((with_reducible refine gate_callee (f:=22) rfl ?_);refine gl (some 12) Try.func22 #[.agg #[.slice A0_0 l0_0.length c0_0,.int .i64 a0_1,.int .i64 a0_2,.int .i64 a0_3,.int .i64 a0_4,.slice A0_5 l0_5.length c0_5,.int .i64 a0_6]] ?_;(with_reducible refine (impl_LineOk.calls k _ _ l0_0 a0_1 a0_2 a0_3 a0_4 _ _ l0_5 a0_6 true _ ?side1 ?side2 ?side3 ?side4 A3.out).mono ?_);(case side1=>exact Kd.C_below HR0_0.out bl);(case side2=>exact HC0_0.out);(case side3=>exact Kd.C_below HR0_5.out bl);(case side4=>exact HC0_5.out);rintro e w13 ⟨rfl,hb⟩;refine ⟨_,rfl,?_⟩;replace BK329:=Aside0.mk (blk_below (g:=gb329) (o:=.cells #[.slice A0_0 l0_0.length c0_0,.int .i64 a0_1,.int .i64 a0_2,.int .i64 a0_3,.int .i64 a0_4,.slice A0_5 l0_5.length c0_5,.int .i64 a0_6] 46 (0,0)) (bf BK329) hb);replace BK334:=Aside0.mk (blk_below (g:=gb334) (o:=.cells #[.int .i64 t330,.int .i64 t331,.int .i64 t332] 86 (0,0)) (by (with_reducible repeat (first|refine blk_drewN ?_ _|refine blk_drew ?_|refine blk_alloc ?_ _));refine blk_put (cs:=#[.int .i64 t330,.int .i64 t331,.int .i64 0]) ?_ 2 _ rfl;(with_reducible repeat (first|refine blk_drewN ?_ _|refine blk_drew ?_|refine blk_alloc ?_ _));refine blk_put (cs:=#[.int .i64 t330,.int .i64 0,.int .i64 0]) ?_ 1 _ rfl;(with_reducible repeat (first|refine blk_drewN ?_ _|refine blk_drew ?_|refine blk_alloc ?_ _));refine blk_put (cs:=#[.int .i64 0,.int .i64 0,.int .i64 0]) ?_ 0 _ rfl;(with_reducible repeat (first|refine blk_drewN ?_ _|refine blk_drew ?_|refine blk_alloc ?_ _));exact BK334.out) hb);replace HB:=Aside0.mk (below_step bl hb);(try clear hb);(try clear hb2);(try clear hk);(try clear hi);obtain ⟨hcz14_0,hcz14_1,hcz14_2,hfz14_0,hfz14_1,hfz14_2⟩:=ck3 BK334.out))
   go_ret
   exact ⟨er,bl⟩
  ·replace c5:=Bool.eq_false_iff.mpr c5
   subst c5
   rw [if_neg nft] at H
   obtain rfl:=Option.some.inj H
   go_enter Try.func25,Try.ntmps25
   go_wp2_with (first|((with_reducible refine gate_dst (N:=1) rfl ?_);refine bx 1 #[.slice A0_0 l0_0.length c0_0,.int .i64 a0_1,.int .i64 a0_2,.int .i64 a0_3,.int .i64 a0_4,.slice A0_5 l0_5.length c0_5,.int .i64 a0_6] 46 ?_;intro gb329 hg w15 hbox hb;have BK329:=Aside0.mk (hbox);have GW329:=Aside0.mk (bz hg:w.heap.size≤gb329);have GE329:=GW329;replace HB:=Aside0.mk (below_step bl hb);clear hb hbox hg;obtain ⟨hcz16_0,hcz16_1,hcz16_2,hcz16_3,hcz16_4,hcz16_5,hcz16_6,hfz16_0,hfz16_1,hfz16_2,hfz16_3,hfz16_4,hfz16_5,hfz16_6⟩:=ck7 BK329.out)|((with_reducible refine gate_callee (f:=71) rfl ?_);refine gl (some 8) Try.func71 #[.agg #[.slice A0_5 l0_5.length c0_5,.int .i64 a0_6]] ?_;(with_reducible refine (impl_NextDue.calls k _ _ l0_5 a0_6 t330 t331 t332 false _ ?side1 ?side2 A2.out).mono ?_);(case side1=>exact kc HR0_5);(case side2=>exact HC0_5.out);rintro e w17 ⟨rfl,hb⟩;refine ⟨_,rfl,?_⟩;replace BK329:=Aside0.mk (blk_below (bk BK329) hb);replace HB:=Aside0.mk (below_step bl hb);(try clear hb);(try clear hb2);(try clear hk);(try clear hi))|((with_reducible refine gate_dst (N:=3) rfl ?_);refine bx 3 #[.int .i64 0,.int .i64 0,.int .i64 0] 86 ?_;intro gb334 hg w18 hbox hb;have BK334:=Aside0.mk (hbox);have GW334:=Aside0.mk (bz hg:w.heap.size≤gb334);have GE334:=GW334;replace HB:=Aside0.mk (below_step bl hb);have NB329_334:=Aside0.mk (nl hg BK329:gb329≠gb334);have NB334_329:=Aside0.mk (nr hg BK329:gb334≠gb329);replace BK329:=Aside0.mk (blk_below (bk BK329) hb);clear hb hbox hg;have hnb19:=NB334_329.out;have hnc19:=NB329_334.out;obtain ⟨hcz20_0,hcz20_1,hcz20_2,hfz20_0,hfz20_1,hfz20_2⟩:=ck3 BK334.out;obtain ⟨hcz21_0,hcz21_1,hcz21_2,hcz21_3,hcz21_4,hcz21_5,hcz21_6,hfz21_0,hfz21_1,hfz21_2,hfz21_3,hfz21_4,hfz21_5,hfz21_6⟩:=ck7 BK329.out)|((with_reducible refine gate_callee (f:=22) rfl ?_);refine gl (some 12) Try.func22 #[.agg #[.slice A0_0 l0_0.length c0_0,.int .i64 a0_1,.int .i64 a0_2,.int .i64 a0_3,.int .i64 a0_4,.slice A0_5 l0_5.length c0_5,.int .i64 a0_6]] ?_;(with_reducible refine (impl_LineOk.calls k _ _ l0_0 a0_1 a0_2 a0_3 a0_4 _ _ l0_5 a0_6 true _ ?side1 ?side2 ?side3 ?side4 A3.out).mono ?_);(case side1=>exact Kd.C_below HR0_0.out bl);(case side2=>exact HC0_0.out);(case side3=>exact Kd.C_below HR0_5.out bl);(case side4=>exact HC0_5.out);rintro e w22 ⟨rfl,hb⟩;refine ⟨_,rfl,?_⟩;replace BK329:=Aside0.mk (blk_below (g:=gb329) (o:=.cells #[.slice A0_0 l0_0.length c0_0,.int .i64 a0_1,.int .i64 a0_2,.int .i64 a0_3,.int .i64 a0_4,.slice A0_5 l0_5.length c0_5,.int .i64 a0_6] 46 (0,0)) (bf BK329) hb);replace BK334:=Aside0.mk (blk_below (g:=gb334) (o:=.cells #[.int .i64 t330,.int .i64 t331,.int .i64 t332] 86 (0,0)) (by (with_reducible repeat (first|refine blk_drewN ?_ _|refine blk_drew ?_|refine blk_alloc ?_ _));refine blk_put (cs:=#[.int .i64 t330,.int .i64 t331,.int .i64 0]) ?_ 2 _ rfl;(with_reducible repeat (first|refine blk_drewN ?_ _|refine blk_drew ?_|refine blk_alloc ?_ _));refine blk_put (cs:=#[.int .i64 t330,.int .i64 0,.int .i64 0]) ?_ 1 _ rfl;(with_reducible repeat (first|refine blk_drewN ?_ _|refine blk_drew ?_|refine blk_alloc ?_ _));refine blk_put (cs:=#[.int .i64 0,.int .i64 0,.int .i64 0]) ?_ 0 _ rfl;(with_reducible repeat (first|refine blk_drewN ?_ _|refine blk_drew ?_|refine blk_alloc ?_ _));exact BK334.out) hb);replace HB:=Aside0.mk (below_step bl hb);(try clear hb);(try clear hb2);(try clear hk);(try clear hi)))
   go_ret
   exact ⟨er,bl⟩
 ·replace c4:=Bool.eq_false_iff.mpr c4
  subst c4
  rw [if_neg nft] at H
  obtain rfl:=Option.some.inj H
  go_enter Try.func25,Try.ntmps25
  go_wp2_with (first|((with_reducible refine gate_dst (N:=1) rfl ?_);refine bx 1 #[.slice A0_0 l0_0.length c0_0,.int .i64 a0_1,.int .i64 a0_2,.int .i64 a0_3,.int .i64 a0_4,.slice A0_5 l0_5.length c0_5,.int .i64 a0_6] 46 ?_;intro gb329 hg w23 hbox hb;have BK329:=Aside0.mk (hbox);have GW329:=Aside0.mk (bz hg:w.heap.size≤gb329);have GE329:=GW329;replace HB:=Aside0.mk (below_step bl hb);clear hb hbox hg;obtain ⟨hcz24_0,hcz24_1,hcz24_2,hcz24_3,hcz24_4,hcz24_5,hcz24_6,hfz24_0,hfz24_1,hfz24_2,hfz24_3,hfz24_4,hfz24_5,hfz24_6⟩:=ck7 BK329.out)|((with_reducible refine gate_callee (f:=71) rfl ?_);refine gl (some 8) Try.func71 #[.agg #[.slice A0_5 l0_5.length c0_5,.int .i64 a0_6]] ?_;(with_reducible refine (impl_NextDue.calls k _ _ l0_5 a0_6 t330 t331 t332 t333 _ ?side1 ?side2 A2.out).mono ?_);(case side1=>exact kc HR0_5);(case side2=>exact HC0_5.out);rintro e w25 ⟨rfl,hb⟩;refine ⟨_,rfl,?_⟩;replace BK329:=Aside0.mk (blk_below (bk BK329) hb);replace HB:=Aside0.mk (below_step bl hb);(try clear hb);(try clear hb2);(try clear hk);(try clear hi))|((with_reducible refine gate_dst (N:=3) rfl ?_);refine bx 3 #[.int .i64 0,.int .i64 0,.int .i64 0] 86 ?_;intro gb334 hg w26 hbox hb;have BK334:=Aside0.mk (hbox);have GW334:=Aside0.mk (bz hg:w.heap.size≤gb334);have GE334:=GW334;replace HB:=Aside0.mk (below_step bl hb);have NB329_334:=Aside0.mk (nl hg BK329:gb329≠gb334);have NB334_329:=Aside0.mk (nr hg BK329:gb334≠gb329);replace BK329:=Aside0.mk (blk_below (bk BK329) hb);clear hb hbox hg;have hnb27:=NB334_329.out;have hnc27:=NB329_334.out;obtain ⟨hcz28_0,hcz28_1,hcz28_2,hfz28_0,hfz28_1,hfz28_2⟩:=ck3 BK334.out;obtain ⟨hcz29_0,hcz29_1,hcz29_2,hcz29_3,hcz29_4,hcz29_5,hcz29_6,hfz29_0,hfz29_1,hfz29_2,hfz29_3,hfz29_4,hfz29_5,hfz29_6⟩:=ck7 BK329.out)|((with_reducible refine gate_callee (f:=22) rfl ?_);refine gl (some 12) Try.func22 #[.agg #[.slice A0_0 l0_0.length c0_0,.int .i64 a0_1,.int .i64 a0_2,.int .i64 a0_3,.int .i64 a0_4,.slice A0_5 l0_5.length c0_5,.int .i64 a0_6]] ?_;(with_reducible refine (impl_LineOk.calls k _ _ l0_0 a0_1 a0_2 a0_3 a0_4 _ _ l0_5 a0_6 false _ ?side1 ?side2 ?side3 ?side4 A3.out).mono ?_);(case side1=>exact Kd.C_below HR0_0.out bl);(case side2=>exact HC0_0.out);(case side3=>exact Kd.C_below HR0_5.out bl);(case side4=>exact HC0_5.out);rintro e w30 ⟨rfl,hb⟩;refine ⟨_,rfl,?_⟩;replace BK329:=Aside0.mk (blk_below (g:=gb329) (o:=.cells #[.slice A0_0 l0_0.length c0_0,.int .i64 a0_1,.int .i64 a0_2,.int .i64 a0_3,.int .i64 a0_4,.slice A0_5 l0_5.length c0_5,.int .i64 a0_6] 46 (0,0)) (bf BK329) hb);replace BK334:=Aside0.mk (blk_below (g:=gb334) (o:=.cells #[.int .i64 t330,.int .i64 t331,.int .i64 t332] 86 (0,0)) (by (with_reducible repeat (first|refine blk_drewN ?_ _|refine blk_drew ?_|refine blk_alloc ?_ _));refine blk_put (cs:=#[.int .i64 t330,.int .i64 t331,.int .i64 0]) ?_ 2 _ rfl;(with_reducible repeat (first|refine blk_drewN ?_ _|refine blk_drew ?_|refine blk_alloc ?_ _));refine blk_put (cs:=#[.int .i64 t330,.int .i64 0,.int .i64 0]) ?_ 1 _ rfl;(with_reducible repeat (first|refine blk_drewN ?_ _|refine blk_drew ?_|refine blk_alloc ?_ _));refine blk_put (cs:=#[.int .i64 0,.int .i64 0,.int .i64 0]) ?_ 0 _ rfl;(with_reducible repeat (first|refine blk_drewN ?_ _|refine blk_drew ?_|refine blk_alloc ?_ _));exact BK334.out) hb);replace HB:=Aside0.mk (below_step bl hb);(try clear hb);(try clear hb2);(try clear hk);(try clear hi)))
  go_ret
  exact ⟨er,bl⟩

/-! ### laws_FnExactNextExpiry: function 5 -/
def laws_FnExactNextExpiry.f (k:Nat) (l0_0:List (S100)) (a0_1:Int) (a0_2:Int) (a0_3:Int) (a0_4:Int) (l0_5:List (S120)) (a0_6:Int):Option (Bool):=(laws_szLine.f l0_0 a0_1 a0_2 a0_3 a0_4 l0_5 a0_6 1048576).bind fun t337=>(if t337 < 0 then (some true) else ((laws_toLine.f k l0_0 a0_1 a0_2 a0_3 a0_4 l0_5 a0_6).bind fun bt338=>((spec_NextExpiry.f k bt338.1 bt338.2.1 bt338.2.2.1 bt338.2.2.2.1 bt338.2.2.2.2.1 bt338.2.2.2.2.2.1 bt338.2.2.2.2.2.2).bind fun t349=>((laws_toLine.f k l0_0 a0_1 a0_2 a0_3 a0_4 l0_5 a0_6).bind fun bt350=>((impl_NextExpiry.f k bt350.1 bt350.2.1 bt350.2.2.1 bt350.2.2.2.1 bt350.2.2.2.2.1 bt350.2.2.2.2.2.1 bt350.2.2.2.2.2.2).bind fun t362=>(if t362=t349 then ((laws_toLine.f k l0_0 a0_1 a0_2 a0_3 a0_4 l0_5 a0_6).bind fun bt363=>((laws_eqLine.f k bt350.1 bt350.2.1 bt350.2.2.1 bt350.2.2.2.1 bt350.2.2.2.2.1 bt350.2.2.2.2.2.1 bt350.2.2.2.2.2.2 bt363.1 bt363.2.1 bt363.2.2.1 bt363.2.2.2.1 bt363.2.2.2.2.1 bt363.2.2.2.2.2.1 bt363.2.2.2.2.2.2).bind fun t374=>(if t374=true then (some true) else (none)))) else (none)))))))
theorem laws_FnExactNextExpiry.mono:∀ a0 a1 a2 a3 a4 a5 a6 k,LeO (laws_FnExactNextExpiry.f k a0 a1 a2 a3 a4 a5 a6) (laws_FnExactNextExpiry.f (k + 1) a0 a1 a2 a3 a4 a5 a6):=by
 intro a0 a1 a2 a3 a4 a5 a6 k
 unfold laws_FnExactNextExpiry.f
 repeat' first
   | (with_reducible exact impl_NextExpiry.mono _ _ _ _ _ _ _ _)
   | (with_reducible exact laws_eqLine.mono _ _ _ _ _ _ _ _ _ _ _ _ _ _ _)
   | (with_reducible exact laws_toLine.mono _ _ _ _ _ _ _ _)
   | (with_reducible exact spec_NextExpiry.mono _ _ _ _ _ _ _ _)
   | (with_reducible exact LeO.refl _)
   | (with_reducible exact LeO.none _)
   | (with_reducible refine LeO.ite ?_ ?_)
   | (with_reducible refine LeO.bind ?_ (fun _=>?_))
   | exact impl_NextExpiry.mono _ _ _ _ _ _ _ _
   | exact laws_eqLine.mono _ _ _ _ _ _ _ _ _ _ _ _ _ _ _
   | exact laws_toLine.mono _ _ _ _ _ _ _ _
   | exact spec_NextExpiry.mono _ _ _ _ _ _ _ _
   | exact LeO.none _
   | refine LeO.ite ?_ ?_
   | refine LeO.bind ?_ (fun _=>?_)
set_option maxHeartbeats 8000000 in
set_option maxRecDepth 100000 in
theorem laws_FnExactNextExpiry.calls (k:Nat) (A0_0:Option Addr) (c0_0:Nat) (l0_0:List (S100)) (a0_1:Int) (a0_2:Int) (a0_3:Int) (a0_4:Int) (A0_5:Option Addr) (c0_5:Nat) (l0_5:List (S120)) (a0_6:Int) (r:Bool) (w:World) (hr0_0:Kd.C k100 w A0_0 l0_0.length l0_0) (hc0_0:l0_0.length≤c0_0) (hr0_5:Kd.C k120 w A0_5 l0_5.length l0_5) (hc0_5:l0_5.length≤c0_5) (h:laws_FnExactNextExpiry.f k l0_0 a0_1 a0_2 a0_3 a0_4 l0_5 a0_6=some r) :
  Calls Try.prog 5 #[.agg #[.slice A0_0 l0_0.length c0_0,.int .i64 a0_1,.int .i64 a0_2,.int .i64 a0_3,.int .i64 a0_4,.slice A0_5 l0_5.length c0_5,.int .i64 a0_6]] w fun e w'=>e = .returned (.bool r)∧Below w.heap.size w w':=by
 have hu39:=Try.underlying39
 have hu46:=Try.underlying46
 have HR0_0:=Aside0.mk hr0_0
 have HC0_0:=Aside0.mk hc0_0
 clear hr0_0 hc0_0
 have HR0_5:=Aside0.mk hr0_5
 have HC0_5:=Aside0.mk hc0_5
 clear hr0_5 hc0_5
 have HB:=Aside0.mk (Below.refl w.heap.size w)
 have H:((laws_szLine.f l0_0 a0_1 a0_2 a0_3 a0_4 l0_5 a0_6 1048576).bind fun t337=>(if t337 < 0 then (some true) else ((laws_toLine.f k l0_0 a0_1 a0_2 a0_3 a0_4 l0_5 a0_6).bind fun bt338=>((spec_NextExpiry.f k bt338.1 bt338.2.1 bt338.2.2.1 bt338.2.2.2.1 bt338.2.2.2.2.1 bt338.2.2.2.2.2.1 bt338.2.2.2.2.2.2).bind fun t349=>((laws_toLine.f k l0_0 a0_1 a0_2 a0_3 a0_4 l0_5 a0_6).bind fun bt350=>((impl_NextExpiry.f k bt350.1 bt350.2.1 bt350.2.2.1 bt350.2.2.2.1 bt350.2.2.2.2.1 bt350.2.2.2.2.2.1 bt350.2.2.2.2.2.2).bind fun t362=>(if t362=t349 then ((laws_toLine.f k l0_0 a0_1 a0_2 a0_3 a0_4 l0_5 a0_6).bind fun bt363=>((laws_eqLine.f k bt350.1 bt350.2.1 bt350.2.2.1 bt350.2.2.2.1 bt350.2.2.2.2.1 bt350.2.2.2.2.2.1 bt350.2.2.2.2.2.2 bt363.1 bt363.2.1 bt363.2.2.1 bt363.2.2.2.1 bt363.2.2.2.2.1 bt363.2.2.2.2.2.1 bt363.2.2.2.2.2.2).bind fun t374=>(if t374=true then (some true) else (none)))) else (none))))))))=some r:=h
 clear h
 replace H:=Option.bind_eq_some_iff.mp H
 obtain ⟨t337,A20,H⟩:=H
 have A2:=Aside0.mk A20
 clear A20
 by_cases c3:t337 < 0
 ·rw [if_pos c3] at H
  have c3b0:decide (t337 < 0)=true:=decide_eq_true c3
  clear c3
  obtain rfl:=Option.some.inj H
  go_enter Try.func5,Try.ntmps5
  go_wp2_with (first|((with_reducible refine gate_dst (N:=1) rfl ?_);refine bx 1 #[.slice A0_0 l0_0.length c0_0,.int .i64 a0_1,.int .i64 a0_2,.int .i64 a0_3,.int .i64 a0_4,.slice A0_5 l0_5.length c0_5,.int .i64 a0_6] 39 ?_;intro gb336 hg w4 hbox hb;have BK336:=Aside0.mk (hbox);have GW336:=Aside0.mk (bz hg:w.heap.size≤gb336);have GE336:=GW336;replace HB:=Aside0.mk (below_step bl hb);clear hb hbox hg;obtain ⟨hcz5_0,hcz5_1,hcz5_2,hcz5_3,hcz5_4,hcz5_5,hcz5_6,hfz5_0,hfz5_1,hfz5_2,hfz5_3,hfz5_4,hfz5_5,hfz5_6⟩:=ck7 BK336.out)|((with_reducible refine gate_callee (f:=19) rfl ?_);refine gl (some 9) Try.func19 #[.agg #[.slice A0_0 l0_0.length c0_0,.int .i64 a0_1,.int .i64 a0_2,.int .i64 a0_3,.int .i64 a0_4,.slice A0_5 l0_5.length c0_5,.int .i64 a0_6],.int .i64 1048576] ?_;(with_reducible refine (laws_szLine.calls _ _ l0_0 a0_1 a0_2 a0_3 a0_4 _ _ l0_5 a0_6 1048576 t337 _ ?side1 ?side2 ?side3 ?side4 A2.out).mono ?_);(case side1=>exact kc HR0_0);(case side2=>exact HC0_0.out);(case side3=>exact kc HR0_5);(case side4=>exact HC0_5.out);rintro e w6 ⟨rfl,hb⟩;refine ⟨_,rfl,?_⟩;replace BK336:=Aside0.mk (blk_below (bk BK336) hb);replace HB:=Aside0.mk (below_step bl hb);(try clear hb);(try clear hb2);(try clear hk);(try clear hi)))
  go_ret
  exact ⟨er,bl⟩
 ·rw [if_neg c3] at H
  have c3b0:decide (t337 < 0)=false:=decide_eq_false c3
  clear c3
  replace H:=Option.bind_eq_some_iff.mp H
  obtain ⟨⟨t338,t341,t342,t343,t344,t345,t348⟩,A70,H⟩:=H
  replace H:((spec_NextExpiry.f k t338 t341 t342 t343 t344 t345 t348).bind fun t349=>((laws_toLine.f k l0_0 a0_1 a0_2 a0_3 a0_4 l0_5 a0_6).bind fun bt350=>((impl_NextExpiry.f k bt350.1 bt350.2.1 bt350.2.2.1 bt350.2.2.2.1 bt350.2.2.2.2.1 bt350.2.2.2.2.2.1 bt350.2.2.2.2.2.2).bind fun t362=>(if t362=t349 then ((laws_toLine.f k l0_0 a0_1 a0_2 a0_3 a0_4 l0_5 a0_6).bind fun bt363=>((laws_eqLine.f k bt350.1 bt350.2.1 bt350.2.2.1 bt350.2.2.2.1 bt350.2.2.2.2.1 bt350.2.2.2.2.2.1 bt350.2.2.2.2.2.2 bt363.1 bt363.2.1 bt363.2.2.1 bt363.2.2.2.1 bt363.2.2.2.2.1 bt363.2.2.2.2.2.1 bt363.2.2.2.2.2.2).bind fun t374=>(if t374=true then (some true) else (none)))) else (none)))))=some r:=H
  have A7:=Aside0.mk A70
  clear A70
  replace H:=Option.bind_eq_some_iff.mp H
  obtain ⟨t349,A80,H⟩:=H
  have A8:=Aside0.mk A80
  clear A80
  replace H:=Option.bind_eq_some_iff.mp H
  obtain ⟨⟨t350,t353,t354,t355,t356,t357,t360⟩,A90,H⟩:=H
  replace H:((impl_NextExpiry.f k t350 t353 t354 t355 t356 t357 t360).bind fun t362=>(if t362=t349 then ((laws_toLine.f k l0_0 a0_1 a0_2 a0_3 a0_4 l0_5 a0_6).bind fun bt363=>((laws_eqLine.f k t350 t353 t354 t355 t356 t357 t360 bt363.1 bt363.2.1 bt363.2.2.1 bt363.2.2.2.1 bt363.2.2.2.2.1 bt363.2.2.2.2.2.1 bt363.2.2.2.2.2.2).bind fun t374=>(if t374=true then (some true) else (none)))) else (none)))=some r:=H
  have A9:=Aside0.mk A90
  clear A90
  replace H:=Option.bind_eq_some_iff.mp H
  obtain ⟨t362,A100,H⟩:=H
  have A10:=Aside0.mk A100
  clear A100
  by_cases c11:t362=t349
  ·rw [if_pos c11] at H
   have c11b0:(t362 == t349)=true:=beq_iff_eq.mpr c11
   have c11b1:(t362 != t349)=false:=bne_eq_false_iff_eq.mpr c11
   clear c11
   replace H:=Option.bind_eq_some_iff.mp H
   obtain ⟨⟨t363,t366,t367,t368,t369,t370,t373⟩,A120,H⟩:=H
   replace H:((laws_eqLine.f k t350 t353 t354 t355 t356 t357 t360 t363 t366 t367 t368 t369 t370 t373).bind fun t374=>(if t374=true then (some true) else (none)))=some r:=H
   have A12:=Aside0.mk A120
   clear A120
   replace H:=Option.bind_eq_some_iff.mp H
   obtain ⟨t374,A130,H⟩:=H
   have A13:=Aside0.mk A130
   clear A130
   by_cases c14:t374=true
   ·subst c14
    rw [if_pos rfl] at H
    obtain rfl:=Option.some.inj H
    go_enter Try.func5,Try.ntmps5
    try go_wp2_with (first|((with_reducible refine gate_dst (N:=1) rfl ?_);refine bx 1 #[.slice A0_0 l0_0.length c0_0,.int .i64 a0_1,.int .i64 a0_2,.int .i64 a0_3,.int .i64 a0_4,.slice A0_5 l0_5.length c0_5,.int .i64 a0_6] 39 ?_;intro gb336 hg w15 hbox hb;have BK336:=Aside0.mk (hbox);have GW336:=Aside0.mk (bz hg:w.heap.size≤gb336);have GE336:=GW336;replace HB:=Aside0.mk (below_step bl hb);clear hb hbox hg;obtain ⟨hcz16_0,hcz16_1,hcz16_2,hcz16_3,hcz16_4,hcz16_5,hcz16_6,hfz16_0,hfz16_1,hfz16_2,hfz16_3,hfz16_4,hfz16_5,hfz16_6⟩:=ck7 BK336.out)|((with_reducible refine gate_callee (f:=19) rfl ?_);refine gl (some 9) Try.func19 #[.agg #[.slice A0_0 l0_0.length c0_0,.int .i64 a0_1,.int .i64 a0_2,.int .i64 a0_3,.int .i64 a0_4,.slice A0_5 l0_5.length c0_5,.int .i64 a0_6],.int .i64 1048576] ?_;(with_reducible refine (laws_szLine.calls _ _ l0_0 a0_1 a0_2 a0_3 a0_4 _ _ l0_5 a0_6 1048576 t337 _ ?side1 ?side2 ?side3 ?side4 A2.out).mono ?_);(case side1=>exact kc HR0_0);(case side2=>exact HC0_0.out);(case side3=>exact kc HR0_5);(case side4=>exact HC0_5.out);rintro e w17 ⟨rfl,hb⟩;refine ⟨_,rfl,?_⟩;replace BK336:=Aside0.mk (blk_below (bk BK336) hb);replace HB:=Aside0.mk (below_step bl hb);(try clear hb);(try clear hb2);(try clear hk);(try clear hi);obtain ⟨hcz18_0,hcz18_1,hcz18_2,hcz18_3,hcz18_4,hcz18_5,hcz18_6,hfz18_0,hfz18_1,hfz18_2,hfz18_3,hfz18_4,hfz18_5,hfz18_6⟩:=ck7 BK336.out)|((with_reducible refine gate_callee (f:=21) rfl ?_);refine gl (some 13) Try.func21 #[.agg #[.slice A0_0 l0_0.length c0_0,.int .i64 a0_1,.int .i64 a0_2,.int .i64 a0_3,.int .i64 a0_4,.slice A0_5 l0_5.length c0_5,.int .i64 a0_6]] ?_;(with_reducible refine (laws_toLine.calls k _ _ l0_0 a0_1 a0_2 a0_3 a0_4 _ _ l0_5 a0_6 t338 t341 t342 t343 t344 t345 t348 _ ?side1 ?side2 ?side3 ?side4 A7.out).mono ?_);(case side1=>exact kc HR0_0);(case side2=>exact HC0_0.out);(case side3=>exact kc HR0_5);(case side4=>exact HC0_5.out);rintro e w19 ⟨v339,v346,rfl,ho0,ho1,hb⟩;refine ⟨_,rfl,?_⟩;have HO340:=Aside0.mk (Kd.R_lower ho0 (below_size bl));have HO347:=Aside0.mk (Kd.R_lower ho1 (below_size bl));replace BK336:=Aside0.mk (blk_below (bk BK336) hb);replace HB:=Aside0.mk (below_step bl hb);(try clear hb);(try clear hb2);(try clear hk);(try clear hi);(try clear ho0);(try clear ho1);obtain ⟨Ao20,co20,eo20⟩:=Kd.R_slice HO340.out;subst eo20;obtain ⟨Ao21,co21,eo21⟩:=Kd.R_slice HO347.out;subst eo21)|((with_reducible refine gate_callee (f:=24) rfl ?_);refine gl (some 14) Try.func24 #[.agg #[.slice Ao20 t338.length co20,.int .i64 t341,.int .i64 t342,.int .i64 t343,.int .i64 t344,.slice Ao21 t345.length co21,.int .i64 t348]] ?_;(with_reducible refine (spec_NextExpiry.calls k _ _ t338 t341 t342 t343 t344 _ _ t345 t348 t349 _ ?side1 ?side2 ?side3 ?side4 A8.out).mono ?_);(case side1=>repeat (first|exact (Kd.R_reads' HO340.out).2.2|(with_reducible refine Kd.C_alloc ?_ _)|(with_reducible refine Kd.C_drewN ?_ _)|(with_reducible refine Kd.C_drew ?_)));(case side2=>exact (Kd.R_reads' HO340.out).2.1);(case side3=>repeat (first|exact (Kd.R_reads' HO347.out).2.2|(with_reducible refine Kd.C_alloc ?_ _)|(with_reducible refine Kd.C_drewN ?_ _)|(with_reducible refine Kd.C_drew ?_)));(case side4=>exact (Kd.R_reads' HO347.out).2.1);rintro e w22 ⟨rfl,hb⟩;refine ⟨_,rfl,?_⟩;replace HO340:=Aside0.mk (Kd.R_below (kr HO340) hb);replace HO347:=Aside0.mk (Kd.R_below (kr HO347) hb);replace BK336:=Aside0.mk (blk_below (bk BK336) hb);replace HB:=Aside0.mk (below_step bl hb);(try clear hb);(try clear hb2);(try clear hk);(try clear hi);obtain ⟨hcz23_0,hcz23_1,hcz23_2,hcz23_3,hcz23_4,hcz23_5,hcz23_6,hfz23_0,hfz23_1,hfz23_2,hfz23_3,hfz23_4,hfz23_5,hfz23_6⟩:=ck7 BK336.out)|((with_reducible refine gate_callee (f:=21) rfl ?_);refine gl (some 16) Try.func21 #[.agg #[.slice A0_0 l0_0.length c0_0,.int .i64 a0_1,.int .i64 a0_2,.int .i64 a0_3,.int .i64 a0_4,.slice A0_5 l0_5.length c0_5,.int .i64 a0_6]] ?_;(with_reducible refine (laws_toLine.calls k _ _ l0_0 a0_1 a0_2 a0_3 a0_4 _ _ l0_5 a0_6 t350 t353 t354 t355 t356 t357 t360 _ ?side1 ?side2 ?side3 ?side4 A9.out).mono ?_);(case side1=>exact kc HR0_0);(case side2=>exact HC0_0.out);(case side3=>exact kc HR0_5);(case side4=>exact HC0_5.out);rintro e w24 ⟨v351,v358,rfl,ho0,ho1,hb⟩;refine ⟨_,rfl,?_⟩;have HO352:=Aside0.mk (Kd.R_lower (Kd.R_new' ho0 (Kd.R_lt (kr HO340))) (below_size bl));replace HO340:=Aside0.mk (Kd.R_elder' (kr HO340) (Kd.R_base ho0) hb);have HO359:=Aside0.mk (Kd.R_lower (Kd.R_new' ho1 (Kd.R_lt (kr HO347))) (below_size bl));replace HO347:=Aside0.mk (Kd.R_elder' (kr HO347) (Kd.R_base ho1) hb);replace BK336:=Aside0.mk (blk_below (bk BK336) hb);replace HB:=Aside0.mk (below_step bl hb);(try clear hb);(try clear hb2);(try clear hk);(try clear hi);(try clear ho0);(try clear ho1))|((with_reducible refine gate_dst (N:=5) rfl ?_);refine bx 5 #[.slice none 0 0,.int .i64 0,.int .i64 0,.int .i64 0,.int .i64 0,.slice none 0 0,.int .i64 0] 46 ?_;intro gb361 hg w25 hbox hb;replace HO340:=Aside0.mk (Kd.R_below (kr HO340) hb);replace HO347:=Aside0.mk (Kd.R_below (kr HO347) hb);replace HO352:=Aside0.mk (Kd.R_below (kr HO352) hb);replace HO359:=Aside0.mk (Kd.R_below (kr HO359) hb);have BK361:=Aside0.mk (hbox);have GW361:=Aside0.mk (bz hg:w.heap.size≤gb361);have GE361:=GW361;replace HB:=Aside0.mk (below_step bl hb);have NB336_361:=Aside0.mk (nl hg BK336:gb336≠gb361);have NB361_336:=Aside0.mk (nr hg BK336:gb361≠gb336);replace BK336:=Aside0.mk (blk_below (bk BK336) hb);clear hb hbox hg;obtain ⟨Ao26,co26,eo26⟩:=Kd.R_slice HO352.out;subst eo26;have hnb27:=NB361_336.out;have hnc27:=NB336_361.out;obtain ⟨hcz28_0,hcz28_1,hcz28_2,hcz28_3,hcz28_4,hcz28_5,hcz28_6,hfz28_0,hfz28_1,hfz28_2,hfz28_3,hfz28_4,hfz28_5,hfz28_6⟩:=ck7 BK361.out;obtain ⟨Ao29,co29,eo29⟩:=Kd.R_slice HO359.out;subst eo29)|((with_reducible refine gate_callee (f:=25) rfl ?_);refine gl (some 18) Try.func25 #[.agg #[.slice Ao26 t350.length co26,.int .i64 t353,.int .i64 t354,.int .i64 t355,.int .i64 t356,.slice Ao29 t357.length co29,.int .i64 t360]] ?_;(with_reducible refine (impl_NextExpiry.calls k _ _ t350 t353 t354 t355 t356 _ _ t357 t360 t362 _ ?side1 ?side2 ?side3 ?side4 A10.out).mono ?_);(case side1=>refine (Kd.R_reads' (e:=97) (base:=w.heap.size) (ok:=fun k_=>(True∧some k_≠(.slice Ao20 t338.length co20:Value).ownBlock)) (n:=t350.length) (c:=co26) ?_).2.2;exact (by (with_reducible repeat (first|apply Kd.R_alloc|apply Kd.R_drewN|apply Kd.R_drew));exact (Kd.R_mono (Kd.R_far (p:=⟨gb361,6,none⟩) (Kd.R_far (p:=⟨gb361,5,none⟩) (Kd.R_far (p:=⟨gb361,4,none⟩) (Kd.R_far (p:=⟨gb361,3,none⟩) (Kd.R_far (p:=⟨gb361,2,none⟩) (Kd.R_far (p:=⟨gb361,1,none⟩) (Kd.R_far (p:=⟨gb361,0,none⟩) (Kd.R_types HO352.out BK361.out (by decide)) (fun _ hk=>hk.2) (.slice Ao26 t350.length co26)) (fun _ hk=>hk.2) (.int .i64 t353)) (fun _ hk=>hk.2) (.int .i64 t354)) (fun _ hk=>hk.2) (.int .i64 t355)) (fun _ hk=>hk.2) (.int .i64 t356)) (fun _ hk=>hk.2) (.slice Ao29 t357.length co29)) (fun _ hk=>hk.2) (.int .i64 t360)) (fun _ h_=>h_.1))));(case side2=>exact (Kd.R_reads' HO352.out).2.1);(case side3=>refine (Kd.R_reads' (e:=86) (base:=w.heap.size) (ok:=fun k_=>(True∧some k_≠(.slice Ao21 t345.length co21:Value).ownBlock)) (n:=t357.length) (c:=co29) ?_).2.2;exact (by (with_reducible repeat (first|apply Kd.R_alloc|apply Kd.R_drewN|apply Kd.R_drew));exact (Kd.R_mono (Kd.R_far (p:=⟨gb361,6,none⟩) (Kd.R_far (p:=⟨gb361,5,none⟩) (Kd.R_far (p:=⟨gb361,4,none⟩) (Kd.R_far (p:=⟨gb361,3,none⟩) (Kd.R_far (p:=⟨gb361,2,none⟩) (Kd.R_far (p:=⟨gb361,1,none⟩) (Kd.R_far (p:=⟨gb361,0,none⟩) (Kd.R_types HO359.out BK361.out (by decide)) (fun _ hk=>hk.2) (.slice Ao26 t350.length co26)) (fun _ hk=>hk.2) (.int .i64 t353)) (fun _ hk=>hk.2) (.int .i64 t354)) (fun _ hk=>hk.2) (.int .i64 t355)) (fun _ hk=>hk.2) (.int .i64 t356)) (fun _ hk=>hk.2) (.slice Ao29 t357.length co29)) (fun _ hk=>hk.2) (.int .i64 t360)) (fun _ h_=>h_.1))));(case side4=>exact (Kd.R_reads' HO359.out).2.1);rintro e w30 ⟨rfl,hb⟩;refine ⟨_,rfl,?_⟩;replace HO340:=Aside0.mk (Kd.R_below (by (with_reducible repeat (first|apply Kd.R_alloc|apply Kd.R_drewN|apply Kd.R_drew));exact (Kd.R_mono (Kd.R_far (p:=⟨gb361,6,none⟩) (Kd.R_far (p:=⟨gb361,5,none⟩) (Kd.R_far (p:=⟨gb361,4,none⟩) (Kd.R_far (p:=⟨gb361,3,none⟩) (Kd.R_far (p:=⟨gb361,2,none⟩) (Kd.R_far (p:=⟨gb361,1,none⟩) (Kd.R_far (p:=⟨gb361,0,none⟩) (Kd.R_types HO340.out BK361.out (by decide)) (fun _ hk=>hk.2) (.slice Ao26 t350.length co26)) (fun _ hk=>hk.2) (.int .i64 t353)) (fun _ hk=>hk.2) (.int .i64 t354)) (fun _ hk=>hk.2) (.int .i64 t355)) (fun _ hk=>hk.2) (.int .i64 t356)) (fun _ hk=>hk.2) (.slice Ao29 t357.length co29)) (fun _ hk=>hk.2) (.int .i64 t360)) (fun _ h_=>h_.1))) hb);replace HO347:=Aside0.mk (Kd.R_below (by (with_reducible repeat (first|apply Kd.R_alloc|apply Kd.R_drewN|apply Kd.R_drew));exact (Kd.R_mono (Kd.R_far (p:=⟨gb361,6,none⟩) (Kd.R_far (p:=⟨gb361,5,none⟩) (Kd.R_far (p:=⟨gb361,4,none⟩) (Kd.R_far (p:=⟨gb361,3,none⟩) (Kd.R_far (p:=⟨gb361,2,none⟩) (Kd.R_far (p:=⟨gb361,1,none⟩) (Kd.R_far (p:=⟨gb361,0,none⟩) (Kd.R_types HO347.out BK361.out (by decide)) (fun _ hk=>hk.2) (.slice Ao26 t350.length co26)) (fun _ hk=>hk.2) (.int .i64 t353)) (fun _ hk=>hk.2) (.int .i64 t354)) (fun _ hk=>hk.2) (.int .i64 t355)) (fun _ hk=>hk.2) (.int .i64 t356)) (fun _ hk=>hk.2) (.slice Ao29 t357.length co29)) (fun _ hk=>hk.2) (.int .i64 t360)) (fun _ h_=>h_.1))) hb);replace HO352:=Aside0.mk (Kd.R_below (by (with_reducible repeat (first|apply Kd.R_alloc|apply Kd.R_drewN|apply Kd.R_drew));exact (Kd.R_mono (Kd.R_far (p:=⟨gb361,6,none⟩) (Kd.R_far (p:=⟨gb361,5,none⟩) (Kd.R_far (p:=⟨gb361,4,none⟩) (Kd.R_far (p:=⟨gb361,3,none⟩) (Kd.R_far (p:=⟨gb361,2,none⟩) (Kd.R_far (p:=⟨gb361,1,none⟩) (Kd.R_far (p:=⟨gb361,0,none⟩) (Kd.R_types HO352.out BK361.out (by decide)) (fun _ hk=>hk.2) (.slice Ao26 t350.length co26)) (fun _ hk=>hk.2) (.int .i64 t353)) (fun _ hk=>hk.2) (.int .i64 t354)) (fun _ hk=>hk.2) (.int .i64 t355)) (fun _ hk=>hk.2) (.int .i64 t356)) (fun _ hk=>hk.2) (.slice Ao29 t357.length co29)) (fun _ hk=>hk.2) (.int .i64 t360)) (fun _ h_=>h_.1))) hb);replace HO359:=Aside0.mk (Kd.R_below (by (with_reducible repeat (first|apply Kd.R_alloc|apply Kd.R_drewN|apply Kd.R_drew));exact (Kd.R_mono (Kd.R_far (p:=⟨gb361,6,none⟩) (Kd.R_far (p:=⟨gb361,5,none⟩) (Kd.R_far (p:=⟨gb361,4,none⟩) (Kd.R_far (p:=⟨gb361,3,none⟩) (Kd.R_far (p:=⟨gb361,2,none⟩) (Kd.R_far (p:=⟨gb361,1,none⟩) (Kd.R_far (p:=⟨gb361,0,none⟩) (Kd.R_types HO359.out BK361.out (by decide)) (fun _ hk=>hk.2) (.slice Ao26 t350.length co26)) (fun _ hk=>hk.2) (.int .i64 t353)) (fun _ hk=>hk.2) (.int .i64 t354)) (fun _ hk=>hk.2) (.int .i64 t355)) (fun _ hk=>hk.2) (.int .i64 t356)) (fun _ hk=>hk.2) (.slice Ao29 t357.length co29)) (fun _ hk=>hk.2) (.int .i64 t360)) (fun _ h_=>h_.1))) hb);replace BK336:=Aside0.mk (blk_below (g:=gb336) (o:=.cells #[.slice A0_0 l0_0.length c0_0,.int .i64 a0_1,.int .i64 a0_2,.int .i64 a0_3,.int .i64 a0_4,.slice A0_5 l0_5.length c0_5,.int .i64 a0_6] 39 (0,0)) (bf BK336) hb);replace BK361:=Aside0.mk (blk_below (g:=gb361) (o:=.cells #[.slice Ao26 t350.length co26,.int .i64 t353,.int .i64 t354,.int .i64 t355,.int .i64 t356,.slice Ao29 t357.length co29,.int .i64 t360] 46 (0,0)) (by (with_reducible repeat (first|refine blk_drewN ?_ _|refine blk_drew ?_|refine blk_alloc ?_ _));refine blk_put (cs:=#[.slice Ao26 t350.length co26,.int .i64 t353,.int .i64 t354,.int .i64 t355,.int .i64 t356,.slice Ao29 t357.length co29,.int .i64 0]) ?_ 6 _ rfl;(with_reducible repeat (first|refine blk_drewN ?_ _|refine blk_drew ?_|refine blk_alloc ?_ _));refine blk_put (cs:=#[.slice Ao26 t350.length co26,.int .i64 t353,.int .i64 t354,.int .i64 t355,.int .i64 t356,.slice none 0 0,.int .i64 0]) ?_ 5 _ rfl;(with_reducible repeat (first|refine blk_drewN ?_ _|refine blk_drew ?_|refine blk_alloc ?_ _));refine blk_put (cs:=#[.slice Ao26 t350.length co26,.int .i64 t353,.int .i64 t354,.int .i64 t355,.int .i64 0,.slice none 0 0,.int .i64 0]) ?_ 4 _ rfl;(with_reducible repeat (first|refine blk_drewN ?_ _|refine blk_drew ?_|refine blk_alloc ?_ _));refine blk_put (cs:=#[.slice Ao26 t350.length co26,.int .i64 t353,.int .i64 t354,.int .i64 0,.int .i64 0,.slice none 0 0,.int .i64 0]) ?_ 3 _ rfl;(with_reducible repeat (first|refine blk_drewN ?_ _|refine blk_drew ?_|refine blk_alloc ?_ _));refine blk_put (cs:=#[.slice Ao26 t350.length co26,.int .i64 t353,.int .i64 0,.int .i64 0,.int .i64 0,.slice none 0 0,.int .i64 0]) ?_ 2 _ rfl;(with_reducible repeat (first|refine blk_drewN ?_ _|refine blk_drew ?_|refine blk_alloc ?_ _));refine blk_put (cs:=#[.slice Ao26 t350.length co26,.int .i64 0,.int .i64 0,.int .i64 0,.int .i64 0,.slice none 0 0,.int .i64 0]) ?_ 1 _ rfl;(with_reducible repeat (first|refine blk_drewN ?_ _|refine blk_drew ?_|refine blk_alloc ?_ _));refine blk_put (cs:=#[.slice none 0 0,.int .i64 0,.int .i64 0,.int .i64 0,.int .i64 0,.slice none 0 0,.int .i64 0]) ?_ 0 _ rfl;(with_reducible repeat (first|refine blk_drewN ?_ _|refine blk_drew ?_|refine blk_alloc ?_ _));exact BK361.out) hb);replace HB:=Aside0.mk (below_step bl hb);(try clear hb);(try clear hb2);(try clear hk);(try clear hi)))
    replace HO340:=Aside0.mk (Kd.R_drew HO340.out)
    replace HO347:=Aside0.mk (Kd.R_drew HO347.out)
    replace HO352:=Aside0.mk (Kd.R_drew HO352.out)
    replace HO359:=Aside0.mk (Kd.R_drew HO359.out)
    replace BK336:=Aside0.mk (blk_drew BK336.out)
    replace BK361:=Aside0.mk (blk_drew BK361.out)
    replace HB:=Aside0.mk (below_drew1 HB.out)
    refine start_ (n:=5) (S:=fun w'=>w'.cell? ⟨gb361,0,none⟩=some (.slice Ao26 t350.length co26)∧w'.cell? ⟨gb361,1,none⟩=some (.int .i64 t353)∧w'.cell? ⟨gb361,2,none⟩=some (.int .i64 t354)∧w'.cell? ⟨gb361,3,none⟩=some (.int .i64 t355)∧w'.cell? ⟨gb361,4,none⟩=some (.int .i64 t356)∧w'.cell? ⟨gb361,5,none⟩=some (.slice Ao29 t357.length co29)∧w'.cell? ⟨gb361,6,none⟩=some (.int .i64 t360)∧w'.cell? ⟨gb336,0,none⟩=some (.slice A0_0 l0_0.length c0_0)∧w'.cell? ⟨gb336,1,none⟩=some (.int .i64 a0_1)∧w'.cell? ⟨gb336,2,none⟩=some (.int .i64 a0_2)∧w'.cell? ⟨gb336,3,none⟩=some (.int .i64 a0_3)∧w'.cell? ⟨gb336,4,none⟩=some (.int .i64 a0_4)∧w'.cell? ⟨gb336,5,none⟩=some (.slice A0_5 l0_5.length c0_5)∧w'.cell? ⟨gb336,6,none⟩=some (.int .i64 a0_6)) (ds:=[]) (bs 5 0) (by kernel_rfl) rfl rfl ⟨bc BK361 0,bc BK361 1,bc BK361 2,bc BK361 3,bc BK361 4,bc BK361 5,bc BK361 6,bc BK336 0,bc BK336 1,bc BK336 2,bc BK336 3,bc BK336 4,bc BK336 5,bc BK336 6⟩ (fun hHeld=>?_)
    generalize w30.drew=w31 at HO340 HO347 HO352 HO359 BK336 BK361 HB hHeld ⊢
    refine tk 0 22 (bs 5 1) hHeld ?_
    refine tk 1 23 (bs 5 3) hHeld ?_
    refine one_ (i:=2) (N:=some 24) (bs 5 7) rfl rfl (by kernel_rfl) (by decide) (fun K hK=>?_)
    refine goes_ Try.func21 (by kernel_rfl) rfl #[.agg #[.slice A0_0 l0_0.length c0_0,.int .i64 a0_1,.int .i64 a0_2,.int .i64 a0_3,.int .i64 a0_4,.slice A0_5 l0_5.length c0_5,.int .i64 a0_6]] (by rfl) rfl rfl (by (try simp only [List.map_toArray,List.map_cons,List.map_nil]);first|done|rfl|(simp only [List.length_drop,List.length_take];rfl)) ?_
    with_reducible refine (laws_toLine.calls k _ _ l0_0 a0_1 a0_2 a0_3 a0_4 _ _ l0_5 a0_6 t363 t366 t367 t368 t369 t370 t373 _ ?side1 ?side2 ?side3 ?side4 A12.out).mono ?_
    (case side1=>exact kc HR0_0)
    (case side2=>exact HC0_0.out)
    (case side3=>exact kc HR0_5)
    (case side4=>exact HC0_5.out)
    rintro e w32 ⟨v364,v371,rfl,ho0,ho1,hb⟩
    refine ⟨_,rfl,?_⟩
    have HO365:=Aside0.mk (Kd.R_lower (Kd.R_new' (Kd.R_new' ho0 (Kd.R_lt (kr HO340))) (Kd.R_lt (kr HO352))) (below_size bl))
    replace HO340:=Aside0.mk (Kd.R_elder' (kr HO340) (Kd.R_base ho0) hb)
    replace HO352:=Aside0.mk (Kd.R_elder' (kr HO352) (Kd.R_base ho0) hb)
    have HO372:=Aside0.mk (Kd.R_lower (Kd.R_new' (Kd.R_new' ho1 (Kd.R_lt (kr HO347))) (Kd.R_lt (kr HO359))) (below_size bl))
    replace HO347:=Aside0.mk (Kd.R_elder' (kr HO347) (Kd.R_base ho1) hb)
    replace HO359:=Aside0.mk (Kd.R_elder' (kr HO359) (Kd.R_base ho1) hb)
    replace BK336:=Aside0.mk (blk_below (bk BK336) hb)
    replace BK361:=Aside0.mk (blk_below (bk BK361) hb)
    replace HB:=Aside0.mk (below_step bl hb)
    (try clear hb)
    (try clear hb2)
    (try clear hk)
    (try clear hi)
    (try clear ho0)
    (try clear ho1)
    obtain ⟨Ao33,co33,eo33⟩:=Kd.R_slice HO365.out
    (first|subst eo33|(injection eo33 with f1_ f2_ f3_;have f4_:=f1_.symm;have f5_:=f3_.symm;clear f1_ f2_ f3_;subst f4_;subst f5_))
    obtain ⟨Ao34,co34,eo34⟩:=Kd.R_slice HO372.out
    (first|subst eo34|(injection eo34 with f1_ f2_ f3_;have f4_:=f1_.symm;have f5_:=f3_.symm;clear f1_ f2_ f3_;subst f4_;subst f5_))
    refine hK.out _ _ ⟨bc BK361 0,bc BK361 1,bc BK361 2,bc BK361 3,bc BK361 4,bc BK361 5,bc BK361 6,bc BK336 0,bc BK336 1,bc BK336 2,bc BK336 3,bc BK336 4,bc BK336 5,bc BK336 6⟩ (fun hHeld=>?_)
    clear hK K
    refine nrm ?_
    refine one_ (i:=3) (N:=some 25) (bs 5 15) rfl rfl (by kernel_rfl) (by decide) (fun K hK=>?_)
    refine goes_ Try.func23 (by kernel_rfl) rfl #[.agg #[.slice Ao26 t350.length co26,.int .i64 t353,.int .i64 t354,.int .i64 t355,.int .i64 t356,.slice Ao29 t357.length co29,.int .i64 t360],.agg #[.slice Ao33 t363.length co33,.int .i64 t366,.int .i64 t367,.int .i64 t368,.int .i64 t369,.slice Ao34 t370.length co34,.int .i64 t373]] (by rfl) rfl rfl (by (try simp only [List.map_toArray,List.map_cons,List.map_nil]);first|done|rfl|(simp only [List.length_drop,List.length_take];rfl)) ?_
    with_reducible refine (laws_eqLine.calls k _ _ t350 t353 t354 t355 t356 _ _ t357 t360 _ _ t363 t366 t367 t368 t369 _ _ t370 t373 true _ ?side1 ?side2 ?side3 ?side4 ?side5 ?side6 ?side7 ?side8 A13.out).mono ?_
    (case side1=>repeat (first|exact (Kd.R_reads' HO352.out).2.2|(with_reducible refine Kd.C_alloc ?_ _)|(with_reducible refine Kd.C_drewN ?_ _)|(with_reducible refine Kd.C_drew ?_)))
    (case side2=>exact (Kd.R_reads' HO352.out).2.1)
    (case side3=>repeat (first|exact (Kd.R_reads' HO359.out).2.2|(with_reducible refine Kd.C_alloc ?_ _)|(with_reducible refine Kd.C_drewN ?_ _)|(with_reducible refine Kd.C_drew ?_)))
    (case side4=>exact (Kd.R_reads' HO359.out).2.1)
    (case side5=>repeat (first|exact (Kd.R_reads' HO365.out).2.2|(with_reducible refine Kd.C_alloc ?_ _)|(with_reducible refine Kd.C_drewN ?_ _)|(with_reducible refine Kd.C_drew ?_)))
    (case side6=>exact (Kd.R_reads' HO365.out).2.1)
    (case side7=>repeat (first|exact (Kd.R_reads' HO372.out).2.2|(with_reducible refine Kd.C_alloc ?_ _)|(with_reducible refine Kd.C_drewN ?_ _)|(with_reducible refine Kd.C_drew ?_)))
    (case side8=>exact (Kd.R_reads' HO372.out).2.1)
    rintro e w35 ⟨rfl,hb⟩
    refine ⟨_,rfl,?_⟩
    replace HO340:=Aside0.mk (Kd.R_below (kr HO340) hb)
    replace HO347:=Aside0.mk (Kd.R_below (kr HO347) hb)
    replace HO352:=Aside0.mk (Kd.R_below (kr HO352) hb)
    replace HO359:=Aside0.mk (Kd.R_below (kr HO359) hb)
    replace HO365:=Aside0.mk (Kd.R_below (kr HO365) hb)
    replace HO372:=Aside0.mk (Kd.R_below (kr HO372) hb)
    replace BK336:=Aside0.mk (blk_below (bk BK336) hb)
    replace BK361:=Aside0.mk (blk_below (bk BK361) hb)
    replace HB:=Aside0.mk (below_step bl hb)
    (try clear hb)
    (try clear hb2)
    (try clear hk)
    (try clear hi)
    refine hK.out _ _ ⟨bc BK361 0,bc BK361 1,bc BK361 2,bc BK361 3,bc BK361 4,bc BK361 5,bc BK361 6,bc BK336 0,bc BK336 1,bc BK336 2,bc BK336 3,bc BK336 4,bc BK336 5,bc BK336 6⟩ (fun hHeld=>?_)
    clear hK K
    refine nrm ?_
    refine pk 4 26 (bs 5 31) ?_
    refine done_ (by kernel_rfl) ?_
    try go_wp2
    go_ret
    exact ⟨er,bl⟩
   ·replace c14:=Bool.eq_false_iff.mpr c14
    subst c14
    rw [if_neg nft] at H
    exact absurd H (by simp)
  ·rw [if_neg c11] at H
   exact absurd H (by simp)

end Go.Proofs.Ytnkpjpfmjkiidaa.PFnExactNextExpiry
