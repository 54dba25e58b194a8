/- Contracts of functions of the given program: what each call answers. Written by a program of this session, out of the text of the functions. -/
import Derived.Test.YtdffkcbaijbhoaaPFnExactSchedulex0
import Derived.Test.YtdffkcbaijbhoaaPFnExactSchedulex2
import Derived.Test.YtdffkcbaijbhoaaPrs
namespace Go.Proofs.Ytdffkcbaijbhoaa.PFnExactSchedule
open Go.RowKit Go.Proofs.YtdffkcbaijbhoaaW.PrintWords Go.Proofs.YtdffkcbaijbhoaaW.PrintLast Go.Proofs.YtdffkcbaijbhoaaW.PrintMore Go.Proofs.Ytdffkcbaijbhoaa.Giv Go.Proofs.Ytdffkcbaijbhoaa.Prs
attribute [local go_sem] max2_int min2_int max_two min_two max_three min_three max_four min_four   -- for this text's walks alone
set_option linter.unusedVariables false
set_option linter.unusedSimpArgs false

/-! ### spec_HeapOk: function 34 -/
mutual
def spec_HeapOk.j0:Nat→Bool→List (S56)→Int→Option (Bool)
 | 0,_,_,_=>none
 | k + 1,x15,x143000,x143001=>if x15=true then (some false) else (spec_HeapOk.l0 k 0 x143000 x143001)
def spec_HeapOk.l0:Nat→Int→List (S56)→Int→Option (Bool)
 | 0,_,_,_=>none
 | k + 1,x3,x143000,x143001=>if x3 < (x143000.length:Int) then (if 0≤x3 then ((spec_TickOk.f ((rd_T56 x143000 x3).f0)).bind fun t146=>(if t146=true then ((spec_l01In.f ((rd_T56 x143000 x3).f1) 1 x143001).bind fun t147=>(if t147=true then ((spec_l01In.f ((rd_T56 x143000 x3).f2) 1 1000000000).bind fun t148=>(if t148=true then (if x3 > 0 then (if 0≤(wrap64 (Int.tdiv (wrap64 (x3 - 1)) 2)) then (if (wrap64 (Int.tdiv (wrap64 (x3 - 1)) 2)) < (x143000.length:Int) then ((spec_l03Before.f ((rd_T56 x143000 x3).f0) ((rd_T56 x143000 x3).f1) ((rd_T56 x143000 x3).f2) ((rd_T56 x143000 (wrap64 (Int.tdiv (wrap64 (x3 - 1)) 2))).f0) ((rd_T56 x143000 (wrap64 (Int.tdiv (wrap64 (x3 - 1)) 2))).f1) ((rd_T56 x143000 (wrap64 (Int.tdiv (wrap64 (x3 - 1)) 2))).f2)).bind fun t150=>(spec_HeapOk.j2 k x3 t150 x143000 x143001 ((rd_T56 x143000 x3).f0) ((rd_T56 x143000 x3).f1) ((rd_T56 x143000 x3).f2))) else (none)) else (none)) else (spec_HeapOk.j2 k x3 false x143000 x143001 ((rd_T56 x143000 x3).f0) ((rd_T56 x143000 x3).f1) ((rd_T56 x143000 x3).f2))) else (spec_HeapOk.j2 k x3 true x143000 x143001 ((rd_T56 x143000 x3).f0) ((rd_T56 x143000 x3).f1) ((rd_T56 x143000 x3).f2)))) else (spec_HeapOk.j2 k x3 true x143000 x143001 ((rd_T56 x143000 x3).f0) ((rd_T56 x143000 x3).f1) ((rd_T56 x143000 x3).f2)))) else (spec_HeapOk.j2 k x3 true x143000 x143001 ((rd_T56 x143000 x3).f0) ((rd_T56 x143000 x3).f1) ((rd_T56 x143000 x3).f2)))) else (none)) else (some true)
def spec_HeapOk.j2:Nat→Int→Bool→List (S56)→Int→Int→Int→Int→Option (Bool)
 | 0,_,_,_,_,_,_,_=>none
 | k + 1,x3,x60,x143000,x143001,x146000,x146001,x146002=>if x60=true then (some false) else (spec_HeapOk.l1 k x3 0 x143000 x143001 x146000 x146001 x146002)
def spec_HeapOk.l1:Nat→Int→Int→List (S56)→Int→Int→Int→Int→Option (Bool)
 | 0,_,_,_,_,_,_,_=>none
 | k + 1,x3,x5,x143000,x143001,x146000,x146001,x146002=>if x5 < x3 then (if 0≤x5 then (if x5 < (x143000.length:Int) then (if ((rd_T56 x143000 x5).f2)=x146002 then (some false) else (if ((rd_T56 x143000 x5).f1)=x146001 then (some false) else (spec_HeapOk.l1 k x3 (wrap64 (x5 + 1)) x143000 x143001 x146000 x146001 x146002))) else (none)) else (none)) else (spec_HeapOk.l0 k (wrap64 (x3 + 1)) x143000 x143001)
end
def spec_HeapOk.f (k:Nat) (l0_0:List (S56)) (a0_1:Int):Option (Bool):=if (l0_0.length:Int) > 100 then (spec_HeapOk.j0 k true l0_0 a0_1) else ((spec_TickOk.f a0_1).bind fun t143=>(spec_HeapOk.j0 k (!t143) l0_0 a0_1))
theorem spec_HeapOk.mono_l:∀ k,(∀ y0 y1 y2,LeO (spec_HeapOk.j0 k y0 y1 y2) (spec_HeapOk.j0 (k + 1) y0 y1 y2))∧(∀ y0 y1 y2,LeO (spec_HeapOk.l0 k y0 y1 y2) (spec_HeapOk.l0 (k + 1) y0 y1 y2))∧(∀ y0 y1 y2 y3 y4 y5 y6,LeO (spec_HeapOk.j2 k y0 y1 y2 y3 y4 y5 y6) (spec_HeapOk.j2 (k + 1) y0 y1 y2 y3 y4 y5 y6))∧(∀ y0 y1 y2 y3 y4 y5 y6,LeO (spec_HeapOk.l1 k y0 y1 y2 y3 y4 y5 y6) (spec_HeapOk.l1 (k + 1) y0 y1 y2 y3 y4 y5 y6))
 | 0=>⟨fun _ _ _ r h=>by simp [spec_HeapOk.j0] at h,fun _ _ _ r h=>by simp [spec_HeapOk.l0] at h,fun _ _ _ _ _ _ _ r h=>by simp [spec_HeapOk.j2] at h,fun _ _ _ _ _ _ _ r h=>by simp [spec_HeapOk.l1] at h⟩
 | k + 1=>by
  obtain ⟨ih0,ih1,ih2,ih3⟩:=spec_HeapOk.mono_l k
  refine ⟨?_,?_,?_,?_⟩
  ·intro y0 y1 y2
   unfold spec_HeapOk.j0
   repeat' first
   | (with_reducible exact ih0 _ _ _)
   | (with_reducible exact ih1 _ _ _)
   | (with_reducible exact ih2 _ _ _ _ _ _ _)
   | (with_reducible exact ih3 _ _ _ _ _ _ _)
   | (with_reducible exact LeO.refl _)
   | (with_reducible exact LeO.none _)
   | (with_reducible refine LeO.ite ?_ ?_)
   | (with_reducible refine LeO.bind ?_ (fun _=>?_))
   | exact ih0 _ _ _
   | exact ih1 _ _ _
   | exact ih2 _ _ _ _ _ _ _
   | exact ih3 _ _ _ _ _ _ _
   | exact LeO.none _
   | refine LeO.ite ?_ ?_
   | refine LeO.bind ?_ (fun _=>?_)
  ·intro y0 y1 y2
   unfold spec_HeapOk.l0
   repeat' first
   | (with_reducible exact ih0 _ _ _)
   | (with_reducible exact ih1 _ _ _)
   | (with_reducible exact ih2 _ _ _ _ _ _ _)
   | (with_reducible exact ih3 _ _ _ _ _ _ _)
   | (with_reducible exact LeO.refl _)
   | (with_reducible exact LeO.none _)
   | (with_reducible refine LeO.ite ?_ ?_)
   | (with_reducible refine LeO.bind ?_ (fun _=>?_))
   | exact ih0 _ _ _
   | exact ih1 _ _ _
   | exact ih2 _ _ _ _ _ _ _
   | exact ih3 _ _ _ _ _ _ _
   | exact LeO.none _
   | refine LeO.ite ?_ ?_
   | refine LeO.bind ?_ (fun _=>?_)
  ·intro y0 y1 y2 y3 y4 y5 y6
   unfold spec_HeapOk.j2
   repeat' first
   | (with_reducible exact ih0 _ _ _)
   | (with_reducible exact ih1 _ _ _)
   | (with_reducible exact ih2 _ _ _ _ _ _ _)
   | (with_reducible exact ih3 _ _ _ _ _ _ _)
   | (with_reducible exact LeO.refl _)
   | (with_reducible exact LeO.none _)
   | (with_reducible refine LeO.ite ?_ ?_)
   | (with_reducible refine LeO.bind ?_ (fun _=>?_))
   | exact ih0 _ _ _
   | exact ih1 _ _ _
   | exact ih2 _ _ _ _ _ _ _
   | exact ih3 _ _ _ _ _ _ _
   | exact LeO.none _
   | refine LeO.ite ?_ ?_
   | refine LeO.bind ?_ (fun _=>?_)
  ·intro y0 y1 y2 y3 y4 y5 y6
   unfold spec_HeapOk.l1
   repeat' first
   | (with_reducible exact ih0 _ _ _)
   | (with_reducible exact ih1 _ _ _)
   | (with_reducible exact ih2 _ _ _ _ _ _ _)
   | (with_reducible exact ih3 _ _ _ _ _ _ _)
   | (with_reducible exact LeO.refl _)
   | (with_reducible exact LeO.none _)
   | (with_reducible refine LeO.ite ?_ ?_)
   | (with_reducible refine LeO.bind ?_ (fun _=>?_))
   | exact ih0 _ _ _
   | exact ih1 _ _ _
   | exact ih2 _ _ _ _ _ _ _
   | exact ih3 _ _ _ _ _ _ _
   | exact LeO.none _
   | refine LeO.ite ?_ ?_
   | refine LeO.bind ?_ (fun _=>?_)
theorem spec_HeapOk.mono:∀ a0 a1 k,LeO (spec_HeapOk.f k a0 a1) (spec_HeapOk.f (k + 1) a0 a1):=by
 intro a0 a1 k
 obtain ⟨ih0,ih1,ih2,ih3⟩:=spec_HeapOk.mono_l k
 unfold spec_HeapOk.f
 repeat' first
   | (with_reducible exact ih0 _ _ _)
   | (with_reducible exact ih1 _ _ _)
   | (with_reducible exact ih2 _ _ _ _ _ _ _)
   | (with_reducible exact ih3 _ _ _ _ _ _ _)
   | (with_reducible exact LeO.refl _)
   | (with_reducible exact LeO.none _)
   | (with_reducible refine LeO.ite ?_ ?_)
   | (with_reducible refine LeO.bind ?_ (fun _=>?_))
   | exact ih0 _ _ _
   | exact ih1 _ _ _
   | exact ih2 _ _ _ _ _ _ _
   | exact ih3 _ _ _ _ _ _ _
   | exact LeO.none _
   | refine LeO.ite ?_ ?_
   | refine LeO.bind ?_ (fun _=>?_)
def spec_HeapOk.T7:Bool × List (List Nat × List Nat):=(true,[([],[]),([0],[0]),([1],[1]),([2],[2]),([3,2],[3]),([4],[4]),([5,4],[4,5]),([4],[4]),([7,4],[4,7]),([6,8,4,4],[4,6,8]),([9,4],[4,9]),([4,10],[4,10]),([11,9],[11]),([12],[12]),([13,12],[12,13]),([14,12,12],[12,14]),([15,12],[12,15]),([12,16],[12,16]),([17,15],[17]),([18],[18]),([19,18],[18,19]),([20,18,18],[18,20]),([21],[21]),([21],[21]),([23,21],[21,23]),([21],[21]),([25,21],[21,25]),([26,21],[21,26]),([24,27,21],[21,24,27]),([28,21],[21,28]),([22,29,21,21],[21,22,29]),([21,30,18],[18,21,30]),([18,31],[18,31])])
def spec_HeapOk.B7:List Nat:=[0,1,3,7,15,31,63,31,159,511,1023,2047,4095,8191,16383,32767,65535,131071,262143,524287,1048575,2097151,4194303,4194303,12582911,4194303,37748735,104857599,264241151,532676607,1073741823,2147483647,4294967295]
theorem spec_HeapOk.tab7:rtab .any (opsOf Try.f34 7)=spec_HeapOk.T7:=by kernel_rfl
theorem spec_HeapOk.bits7:waitsOk spec_HeapOk.T7.2 spec_HeapOk.B7=true:=by kernel_rfl
def spec_HeapOk.T12:Bool × List (List Nat × List Nat):=(true,[([],[]),([0],[0]),([],[]),([1,2],[1,2]),([3],[3]),([4],[4]),([],[]),([6],[6]),([5,7],[5,7]),([8],[8]),([9],[9]),([10,9],[9,10]),([9],[9]),([11,12,9],[9,11,12]),([13,9],[9,13]),([14,9],[9,14]),([9],[9]),([16,9],[9,16]),([15,17,9],[9,15,17]),([9,18],[9,18])])
def spec_HeapOk.B12:List Nat:=[0,1,0,7,15,31,0,64,255,511,1023,2047,1023,8191,16383,32767,1023,66559,262143,524287]
theorem spec_HeapOk.tab12:rtab .any (opsOf Try.f34 12)=spec_HeapOk.T12:=by kernel_rfl
theorem spec_HeapOk.bits12:waitsOk spec_HeapOk.T12.2 spec_HeapOk.B12=true:=by kernel_rfl
set_option maxHeartbeats 8000000 in
set_option maxRecDepth 100000 in
theorem spec_HeapOk.calls (k:Nat) (A0_0:Option Addr) (c0_0:Nat) (l0_0:List (S56)) (a0_1:Int) (r:Bool) (w:World) (hr0_0:Kd.C k56 w A0_0 l0_0.length l0_0) (hc0_0:l0_0.length≤c0_0) (h:spec_HeapOk.f k l0_0 a0_1=some r) :
  Calls Try.prog 34 #[.agg #[.slice A0_0 l0_0.length c0_0,.int .i64 a0_1]] w fun e w'=>e = .returned (.bool r)∧Below w.heap.size w w':=by
 have hu28:=Try.underlying28
 have hu56:=Try.underlying56
 have HR0_0:=Aside0.mk hr0_0
 have HC0_0:=Aside0.mk hc0_0
 clear hr0_0 hc0_0
 have HB:=Aside0.mk (Below.refl w.heap.size w)
 have H:(if (l0_0.length:Int) > 100 then (spec_HeapOk.j0 k true l0_0 a0_1) else ((spec_TickOk.f a0_1).bind fun t143=>(spec_HeapOk.j0 k (!t143) l0_0 a0_1)))=some r:=h
 clear h
 have HC2:=Aside0.mk H
 clear H
 go_enter Try.func34,Try.ntmps34
 go_upto_region 1 with (first|((with_reducible refine gate_dst (N:=1) rfl ?_);refine bx 1 #[.slice A0_0 l0_0.length c0_0,.int .i64 a0_1] 28 ?_;intro gb142 hg w3 hbox hb;have BK142:=Aside0.mk (hbox);have GW142:=Aside0.mk (bz hg:w.heap.size≤gb142);have GE142:=GW142;replace HB:=Aside0.mk (below_step bl hb);clear hb hbox hg))
 (try simp only [Act.put,List.setIfInBounds_toArray,List.set_cons_zero,List.set_cons_succ])
 go_cut [15] (fun v15 wc=>∃ (kq:Nat) (x15_1:Bool),v15 = .bool x15_1∧Aside0 (spec_HeapOk.j0 kq x15_1 l0_0 a0_1=some r)∧Aside0 (kq≤k)∧Aside0 (wc.heap[gb142]? = some (.cells #[(.slice A0_0 l0_0.length c0_0),.int .i64 a0_1] 28 (0,0)))∧Aside0 (Below w.heap.size w wc))
 case first =>
  have H:=HC2.out
  clear HC2
  by_cases c4:(l0_0.length:Int) > 100
  ·rw [if_pos c4] at H
   have c4b0:decide (100 < (l0_0.length:Int))=true:=decide_eq_true c4
   have c4b1:decide (100 < l0_0.length)=true:=decide_eq_true (by omega)
   clear c4
   (first|rw [c4b0]|(simp only [i64_w,i32_w];rw [c4b0])|skip)
   have H':=Aside0.mk H
   clear H
   obtain ⟨hcz5_0,hcz5_1,hfz5_0,hfz5_1⟩:=ck2 BK142.out
   go_wp2
   go_meet
   case rel=>exact ⟨_,(true),(by first|rfl|(simp;done)|(simp [*];done)),H',⟨by first|omega|exact Nat.le_refl _⟩,⟨bk BK142⟩,⟨bl⟩⟩
  ·rw [if_neg c4] at H
   have c4b0:decide (100 < (l0_0.length:Int))=false:=decide_eq_false c4
   have c4b1:decide (100 < l0_0.length)=false:=decide_eq_false (by omega)
   clear c4
   (first|rw [c4b0]|(simp only [i64_w,i32_w];rw [c4b0])|skip)
   replace H:=Option.bind_eq_some_iff.mp H
   obtain ⟨t143,A60,H⟩:=H
   have A6:=Aside0.mk A60
   clear A60
   have H':=Aside0.mk H
   clear H
   obtain ⟨hcz7_0,hcz7_1,hfz7_0,hfz7_1⟩:=ck2 BK142.out
   go_wp2_with (first|(go_at_call 51;(with_reducible refine (spec_TickOk.calls a0_1 t143 _ A6.out).mono ?_);rintro e w' ⟨rfl,⟨nd,rfl⟩⟩))
   go_meet
   case rel=>exact ⟨_,(!t143),(by first|rfl|(simp;done)|(simp [*];done)),H',⟨by first|omega|exact Nat.le_refl _⟩,⟨bk BK142⟩,⟨bl⟩⟩
 case rest =>
  clear HC2
  try clear p2
  try clear c3
  try clear c4
  try clear c4b0
  try clear c4b1
  try clear hcz5_0
  try clear hcz5_1
  try clear hcz7_0
  try clear hcz7_1
  try clear hfz5_0
  try clear hfz5_1
  try clear hfz7_0
  try clear hfz7_1
  obtain ⟨kq,x15_1,rfl,HA,HJ1,BK142,HB⟩:=hcut
  cases kq with
  | zero=>exact absurd HA.out (by simp [spec_HeapOk.j0])
  | succ kj1 =>
   have H:=HA.out
   clear HA
   simp only [spec_HeapOk.j0] at H
   by_cases c8:x15_1=true
   ·subst c8
    rw [if_pos rfl] at H
    obtain rfl:=Option.some.inj H
    go_wp2
    go_ret
    exact ⟨er,bl⟩
   ·replace c8:=Bool.eq_false_iff.mpr c8
    subst c8
    rw [if_neg nft] at H
    have H':=Aside0.mk H
    clear H
    go_wp2
    go_loopg [3] kj1 (fun kq v3 w'=>∃ (x3_2:Int),v3 = .int .i64 x3_2∧Aside0 (spec_HeapOk.l0 kq x3_2 l0_0 a0_1=some r)∧Aside0 (kq≤kj1)∧Aside0 (w'.heap[gb142]? = some (.cells #[(.slice A0_0 l0_0.length c0_0),.int .i64 a0_1] 28 (0,0)))∧Aside0 (Below w.heap.size w w'))
    case atStart=>exact ⟨(0),(by first|rfl|(simp;done)|(simp [*];done)),H',⟨Nat.le_refl _⟩,⟨bk BK142⟩,⟨bl⟩⟩
    case round =>
     clear H'
     try clear p2
     try clear c3
     try clear c4
     try clear c4b0
     try clear c4b1
     try clear c8
     try clear hcz5_0
     try clear hcz5_1
     try clear hcz7_0
     try clear hcz7_1
     try clear hfz5_0
     try clear hfz5_1
     try clear hfz7_0
     try clear hfz7_1
     try clear p2
     obtain ⟨x3_2,rfl,HA,HK2,BK142,HB⟩:=hrel
     cases gk with
     | zero=>exact absurd HA.out (by simp [spec_HeapOk.l0])
     | succ k2 =>
      have H:=HA.out
      clear HA
      simp only [spec_HeapOk.l0] at H
      by_cases c9:x3_2 < (l0_0.length:Int)
      ·rw [if_pos c9] at H
       have c9b0:decide (x3_2 < (l0_0.length:Int))=true:=decide_eq_true c9
       clear c9
       by_cases c10:0≤x3_2
       case neg =>
        rw [if_neg c10] at H
        exact absurd H (by simp)
       rw [if_pos c10] at H
       have c10b0:decide (0≤x3_2)=true:=decide_eq_true c10
       clear c10
       have HC11:=Aside0.mk H
       clear H
       obtain ⟨hcz12_0,hcz12_1,hfz12_0,hfz12_1⟩:=ck2 BK142.out
       have p144:0≤(x3_2:Int):=od
       have q144:x3_2 < (l0_0.length:Int):=od
       obtain ⟨ad144,e144,hx144_0,hx144_1,hx144_2⟩:=at_T56 HR0_0.out x3_2 p144 q144
       cases e144
       replace hx144_0:=cl HB hx144_0
       replace hx144_1:=cl HB hx144_1
       replace hx144_2:=cl HB hx144_2
       replace p144:=eq_true p144
       replace q144:=eq_true q144
       go_upto_region 7 with (first|((with_reducible refine gate_dst (N:=4) rfl ?_);refine bx 4 #[.int .i64 0,.int .i64 0,.int .i64 0] 56 ?_;intro gb145 hg w13 hbox hb;have BK145:=Aside0.mk (hbox);have GW145:=Aside0.mk (bz hg:w.heap.size≤gb145);have GE145:=GW145;replace HB:=Aside0.mk (below_step bl hb);have NB142_145:=Aside0.mk (nl hg BK142:gb142≠gb145);have NB145_142:=Aside0.mk (nr hg BK142:gb145≠gb142);replace BK142:=Aside0.mk (blk_below (bk BK142) hb);clear hb hbox hg;have hnb14:=NB145_142.out;have hnc14:=NB142_145.out;obtain ⟨hcz15_0,hcz15_1,hcz15_2,hfz15_0,hfz15_1,hfz15_2⟩:=ck3 BK145.out))
       (try simp only [Act.put,List.setIfInBounds_toArray,List.set_cons_zero,List.set_cons_succ])
       go_cut [60] (fun v60 wc=>∃ (kq:Nat) (x60_10:Bool),v60 = .bool x60_10∧Aside0 (spec_HeapOk.j2 kq x3_2 x60_10 l0_0 a0_1 ((rd_T56 l0_0 x3_2).f0) ((rd_T56 l0_0 x3_2).f1) ((rd_T56 l0_0 x3_2).f2)=some r)∧Aside0 (kq≤k2)∧Aside0 (wc.heap[gb142]? = some (.cells #[(.slice (some ad144) l0_0.length c0_0),.int .i64 a0_1] 28 (0,0)))∧Aside0 (wc.heap[gb145]? = some (.cells #[.int .i64 ((rd_T56 l0_0 x3_2).f0),.int .i64 ((rd_T56 l0_0 x3_2).f1),.int .i64 ((rd_T56 l0_0 x3_2).f2)] 56 (0,0)))∧Aside0 (Below w.heap.size w wc))
       case first =>
        have H:=HC11.out
        clear HC11
        replace H:=Option.bind_eq_some_iff.mp H
        obtain ⟨t146,A160,H⟩:=H
        have A16:=Aside0.mk A160
        clear A160
        by_cases c17:t146=true
        ·subst c17
         rw [if_pos rfl] at H
         replace H:=Option.bind_eq_some_iff.mp H
         obtain ⟨t147,A180,H⟩:=H
         have A18:=Aside0.mk A180
         clear A180
         by_cases c19:t147=true
         ·subst c19
          rw [if_pos rfl] at H
          replace H:=Option.bind_eq_some_iff.mp H
          obtain ⟨t148,A200,H⟩:=H
          have A20:=Aside0.mk A200
          clear A200
          by_cases c21:t148=true
          ·subst c21
           rw [if_pos rfl] at H
           by_cases c22:x3_2 > 0
           ·rw [if_pos c22] at H
            have c22b0:decide (0 < x3_2)=true:=decide_eq_true c22
            clear c22
            (first|rw [c22b0]|(simp only [i64_w,i32_w];rw [c22b0])|skip)
            obtain ⟨ji23,hji23⟩:∃ j_:Int,(wrap64 (Int.tdiv (wrap64 (x3_2 - 1)) 2))=j_:=⟨_,rfl⟩
            first|rw [hji23] at H|simp only [hji23] at H
            (try rw [hji23] at A16)
            (try rw [hji23] at A18)
            (try rw [hji23] at A20)
            have hji23w:(IntKind.i64.wrap (Int.tdiv (wrap64 (x3_2 - 1)) 2))=ji23:=(i64_w _).trans hji23
            by_cases c24:0≤(ji23)
            case neg =>
             rw [if_neg c24] at H
             exact absurd H (by simp)
            rw [if_pos c24] at H
            have c24b0:decide (0≤(ji23))=true:=decide_eq_true c24
            clear c24
            by_cases c25:(ji23) < (l0_0.length:Int)
            case neg =>
             rw [if_neg c25] at H
             exact absurd H (by simp)
            rw [if_pos c25] at H
            have c25b0:decide ((ji23) < (l0_0.length:Int))=true:=decide_eq_true c25
            clear c25
            replace H:=Option.bind_eq_some_iff.mp H
            obtain ⟨t150,A260,H⟩:=H
            have A26:=Aside0.mk A260
            clear A260
            have H':=Aside0.mk H
            clear H
            try go_wp2
            have n0_:Aside0 ((((w13.setCell ⟨gb145,0,none⟩ (.int .i64 ((rd_T56 l0_0 x3_2).f0))).setCell ⟨gb145,1,none⟩ (.int .i64 ((rd_T56 l0_0 x3_2).f1))).setCell ⟨gb145,2,none⟩ (.int .i64 ((rd_T56 l0_0 x3_2).f2))).heap[gb142]? = some (.cells #[.slice (some ad144) l0_0.length c0_0,.int .i64 a0_1] 28 (0,0))):=⟨bf BK142⟩
            have n1_:Aside0 ((((w13.setCell ⟨gb145,0,none⟩ (.int .i64 ((rd_T56 l0_0 x3_2).f0))).setCell ⟨gb145,1,none⟩ (.int .i64 ((rd_T56 l0_0 x3_2).f1))).setCell ⟨gb145,2,none⟩ (.int .i64 ((rd_T56 l0_0 x3_2).f2))).heap[gb145]? = some (.cells #[.int .i64 ((rd_T56 l0_0 x3_2).f0),.int .i64 ((rd_T56 l0_0 x3_2).f1),.int .i64 ((rd_T56 l0_0 x3_2).f2)] 56 (0,0))):=⟨by (with_reducible repeat (first|refine blk_drewN ?_ _|refine blk_drew ?_|refine blk_alloc ?_ _));refine blk_put (cs:=#[.int .i64 ((rd_T56 l0_0 x3_2).f0),.int .i64 ((rd_T56 l0_0 x3_2).f1),.int .i64 0]) ?_ 2 _ rfl;(with_reducible repeat (first|refine blk_drewN ?_ _|refine blk_drew ?_|refine blk_alloc ?_ _));refine blk_put (cs:=#[.int .i64 ((rd_T56 l0_0 x3_2).f0),.int .i64 0,.int .i64 0]) ?_ 1 _ rfl;(with_reducible repeat (first|refine blk_drewN ?_ _|refine blk_drew ?_|refine blk_alloc ?_ _));refine blk_put (cs:=#[.int .i64 0,.int .i64 0,.int .i64 0]) ?_ 0 _ rfl;(with_reducible repeat (first|refine blk_drewN ?_ _|refine blk_drew ?_|refine blk_alloc ?_ _));exact BK145.out⟩
            have n2_:Aside0 (Below w.heap.size w (((w13.setCell ⟨gb145,0,none⟩ (.int .i64 ((rd_T56 l0_0 x3_2).f0))).setCell ⟨gb145,1,none⟩ (.int .i64 ((rd_T56 l0_0 x3_2).f1))).setCell ⟨gb145,2,none⟩ (.int .i64 ((rd_T56 l0_0 x3_2).f2)))):=⟨bl⟩
            (try clear BK142)
            (try clear BK145)
            (try clear HB)
            generalize (((w13.setCell ⟨gb145,0,none⟩ (.int .i64 ((rd_T56 l0_0 x3_2).f0))).setCell ⟨gb145,1,none⟩ (.int .i64 ((rd_T56 l0_0 x3_2).f1))).setCell ⟨gb145,2,none⟩ (.int .i64 ((rd_T56 l0_0 x3_2).f2)))=w27 at n0_ n1_ n2_ ⊢
            have BK142:=n0_
            have BK145:=n1_
            have HB:=n2_
            clear n0_ n1_ n2_
            replace BK142:=Aside0.mk (blk_drew BK142.out)
            replace BK145:=Aside0.mk (blk_drew BK145.out)
            replace HB:=Aside0.mk (below_drew1 HB.out)
            have p149:0≤((ji23):Int):=od
            have q149:(ji23) < (l0_0.length:Int):=od
            obtain ⟨ad149,e149,hx149_0,hx149_1,hx149_2⟩:=at_T56 HR0_0.out (ji23) p149 q149
            have hw149_2:=hx149_2
            have hw149_1:=hx149_1
            have hw149_0:=hx149_0
            obtain rfl:ad144=ad149:=(by injection e149)
            replace hx149_0:=cl HB hx149_0
            replace hx149_1:=cl HB hx149_1
            replace hx149_2:=cl HB hx149_2
            replace p149:=eq_true p149
            replace q149:=eq_true q149
            refine start_ (n:=33) (S:=fun w'=>w'.cell? ⟨gb145,0,none⟩=some (.int .i64 ((rd_T56 l0_0 x3_2).f0))∧w'.cell? ⟨gb145,1,none⟩=some (.int .i64 ((rd_T56 l0_0 x3_2).f1))∧w'.cell? ⟨gb145,2,none⟩=some (.int .i64 ((rd_T56 l0_0 x3_2).f2))∧w'.cell? ⟨gb142,0,none⟩=some (.slice (some ad144) l0_0.length c0_0)∧w'.cell? ⟨gb142,1,none⟩=some (.int .i64 a0_1)∧w'.cell? (ad144.add (((ji23)).toNat * 3))=some (.int .i64 ((rd_T56 l0_0 (ji23)).f0))∧w'.cell? ⟨(ad144.add (((ji23)).toNat * 3)).block,(ad144.add (((ji23)).toNat * 3)).off + 1,none⟩=some (.int .i64 ((rd_T56 l0_0 (ji23)).f1))∧w'.cell? ⟨(ad144.add (((ji23)).toNat * 3)).block,(ad144.add (((ji23)).toNat * 3)).off + 2,none⟩=some (.int .i64 ((rd_T56 l0_0 (ji23)).f2))) (ds:=[]) (bs 33 0) (by kernel_rfl) rfl rfl ⟨bc BK145 0,bc BK145 1,bc BK145 2,bc BK142 0,bc BK142 1,(cl HB hw149_0),(cl HB hw149_1),(cl HB hw149_2)⟩ (fun hHeld=>?_);refine with_tabW spec_HeapOk.tab7 spec_HeapOk.bits7 (fun HT_ HW_=>?_)
            generalize w27.drew=w28 at BK142 BK145 HB hx149_0 hx149_1 hx149_2 hHeld ⊢
            refine pq 0 28 (bs 33 1) HT_ ?_
            refine tq 1 29 (bs 33 3) HT_ HW_ hHeld ?_
            refine one_ (i:=2) (N:=some 30) (bs 33 7) rfl rfl (one_of HT_.out (by kernel_rfl)) (by decide) (fun K hK=>?_)
            refine goes_ Try.func51 (by kernel_rfl) rfl #[.int .i64 ((rd_T56 l0_0 x3_2).f0)] (by rfl) rfl rfl (by (try simp only [List.map_toArray,List.map_cons,List.map_nil]);first|done|rfl|(simp only [List.length_drop,List.length_take];rfl)) ?_
            with_reducible refine (spec_TickOk.calls ((rd_T56 l0_0 x3_2).f0) true _ A16.out).mono ?_
            rintro e w' ⟨rfl,⟨nd,rfl⟩⟩
            refine ⟨_,rfl,?_⟩
            refine hK.out _ _ ⟨bc BK145 0,bc BK145 1,bc BK145 2,bc BK142 0,bc BK142 1,(cl HB hw149_0),(cl HB hw149_1),(cl HB hw149_2)⟩ (fun hHeld=>?_)
            clear hK K
            refine nrm ?_
            refine pq 3 31 (bs 33 15) HT_ ?_
            refine pq 4 32 (bs 33 31) HT_ ?_
            refine pq 5 33 (bs 33 63) HT_ ?_
            refine pq 7 35 (bs 33 191) HT_ ?_
            refine tq 6 34 (bs 33 255) HT_ HW_ hHeld ?_
            refine tq 8 36 (bs 33 511) HT_ HW_ hHeld ?_
            refine one_ (i:=9) (N:=some 37) (bs 33 1023) rfl rfl (one_of HT_.out (by kernel_rfl)) (by decide) (fun K hK=>?_)
            refine goes_ Try.func52 (by kernel_rfl) rfl #[.int .i64 ((rd_T56 l0_0 x3_2).f1),.int .i64 1,.int .i64 a0_1] (by rfl) rfl rfl (by (try simp only [List.map_toArray,List.map_cons,List.map_nil]);first|done|rfl|(simp only [List.length_drop,List.length_take];rfl)) ?_
            with_reducible refine (spec_l01In.calls ((rd_T56 l0_0 x3_2).f1) 1 a0_1 true _ A18.out).mono ?_
            rintro e w' ⟨rfl,⟨nd,rfl⟩⟩
            refine ⟨_,rfl,?_⟩
            refine hK.out _ _ ⟨bc BK145 0,bc BK145 1,bc BK145 2,bc BK142 0,bc BK142 1,(cl HB hw149_0),(cl HB hw149_1),(cl HB hw149_2)⟩ (fun hHeld=>?_)
            clear hK K
            refine nrm ?_
            refine pq 10 38 (bs 33 2047) HT_ ?_
            refine pq 11 39 (bs 33 4095) HT_ ?_
            refine pq 12 40 (bs 33 8191) HT_ ?_
            refine pq 13 41 (bs 33 16383) HT_ ?_
            refine tq 14 42 (bs 33 32767) HT_ HW_ hHeld ?_
            refine one_ (i:=15) (N:=some 43) (bs 33 65535) rfl rfl (one_of HT_.out (by kernel_rfl)) (by decide) (fun K hK=>?_)
            refine goes_ Try.func52 (by kernel_rfl) rfl #[.int .i64 ((rd_T56 l0_0 x3_2).f2),.int .i64 1,.int .i64 1000000000] (by rfl) rfl rfl (by (try simp only [List.map_toArray,List.map_cons,List.map_nil]);first|done|rfl|(simp only [List.length_drop,List.length_take];rfl)) ?_
            with_reducible refine (spec_l01In.calls ((rd_T56 l0_0 x3_2).f2) 1 1000000000 true _ A20.out).mono ?_
            rintro e w' ⟨rfl,⟨nd,rfl⟩⟩
            refine ⟨_,rfl,?_⟩
            refine hK.out _ _ ⟨bc BK145 0,bc BK145 1,bc BK145 2,bc BK142 0,bc BK142 1,(cl HB hw149_0),(cl HB hw149_1),(cl HB hw149_2)⟩ (fun hHeld=>?_)
            clear hK K
            refine nrm ?_
            refine pq 16 44 (bs 33 131071) HT_ ?_
            refine pq 17 45 (bs 33 262143) HT_ ?_
            refine pq 18 46 (bs 33 524287) HT_ ?_
            refine pq 19 47 (bs 33 1048575) HT_ ?_
            refine pq 20 48 (bs 33 2097151) HT_ ?_
            refine pq 21 49 (bs 33 4194303) HT_ ?_
            refine pq 23 51 (bs 33 12582911) HT_ ?_
            refine pq 25 53 (bs 33 46137343) HT_ ?_
            refine pq 26 54 (bs 33 113246207) HT_ ?_
            refine pq 27 55 (bs 33 247463935) HT_ ?_
            refine tq 22 50 (bs 33 251658239) HT_ HW_ hHeld ?_
            refine tq 24 52 (bs 33 268435455) HT_ HW_ hHeld ?_
            refine pq 28 56 (bs 33 536870911) HT_ ?_
            refine tq 29 57 (bs 33 1073741823) HT_ HW_ hHeld ?_
            refine one_ (i:=30) (N:=some 58) (bs 33 2147483647) rfl rfl (one_of HT_.out (by kernel_rfl)) (by decide) (fun K hK=>?_)
            refine goes_ Try.func68 (by kernel_rfl) rfl #[.agg #[.int .i64 ((rd_T56 l0_0 x3_2).f0),.int .i64 ((rd_T56 l0_0 x3_2).f1),.int .i64 ((rd_T56 l0_0 x3_2).f2)],.agg #[.int .i64 ((rd_T56 l0_0 (ji23)).f0),.int .i64 ((rd_T56 l0_0 (ji23)).f1),.int .i64 ((rd_T56 l0_0 (ji23)).f2)]] (by rfl) rfl rfl (by (try simp only [List.map_toArray,List.map_cons,List.map_nil]);first|done|(simp only [hji23];rfl)|rfl|(simp only [List.length_drop,List.length_take];rfl)) ?_
            with_reducible refine (spec_l03Before.calls ((rd_T56 l0_0 x3_2).f0) ((rd_T56 l0_0 x3_2).f1) ((rd_T56 l0_0 x3_2).f2) ((rd_T56 l0_0 (ji23)).f0) ((rd_T56 l0_0 (ji23)).f1) ((rd_T56 l0_0 (ji23)).f2) t150 _ A26.out).mono ?_
            rintro e w29 ⟨rfl,hb⟩
            refine ⟨_,rfl,?_⟩
            replace BK142:=Aside0.mk (blk_below (bk BK142) hb)
            replace BK145:=Aside0.mk (blk_below (bk BK145) hb)
            replace HB:=Aside0.mk (below_step bl hb)
            (try clear hb)
            (try clear hb2)
            (try clear hk)
            (try clear hi)
            refine hK.out _ _ ⟨bc BK145 0,bc BK145 1,bc BK145 2,bc BK142 0,bc BK142 1,(cl HB hw149_0),(cl HB hw149_1),(cl HB hw149_2)⟩ (fun hHeld=>?_)
            clear hK K
            refine nrm ?_
            refine pq 31 59 (bs 33 4294967295) HT_ ?_
            refine pq 32 60 (bs 33 8589934591) HT_ ?_
            refine done_ (done_of HT_.out (by kernel_rfl)) ?_
            try go_wp2
            (try subst hji23)
            go_meet
            case rel=>exact ⟨_,(t150),(by first|rfl|(simp;done)|(simp [*];done)),H',⟨by have:=HJ1.out;have:=HK2.out;first|omega|exact Nat.le_refl _⟩,⟨bk BK142⟩,⟨bk BK145⟩,⟨bl⟩⟩
           ·rw [if_neg c22] at H
            have c22b0:decide (0 < x3_2)=false:=decide_eq_false c22
            clear c22
            (first|rw [c22b0]|(simp only [i64_w,i32_w];rw [c22b0])|skip)
            have H':=Aside0.mk H
            clear H
            try go_wp2
            have n0_:Aside0 ((((w13.setCell ⟨gb145,0,none⟩ (.int .i64 ((rd_T56 l0_0 x3_2).f0))).setCell ⟨gb145,1,none⟩ (.int .i64 ((rd_T56 l0_0 x3_2).f1))).setCell ⟨gb145,2,none⟩ (.int .i64 ((rd_T56 l0_0 x3_2).f2))).heap[gb142]? = some (.cells #[.slice (some ad144) l0_0.length c0_0,.int .i64 a0_1] 28 (0,0))):=⟨bf BK142⟩
            have n1_:Aside0 ((((w13.setCell ⟨gb145,0,none⟩ (.int .i64 ((rd_T56 l0_0 x3_2).f0))).setCell ⟨gb145,1,none⟩ (.int .i64 ((rd_T56 l0_0 x3_2).f1))).setCell ⟨gb145,2,none⟩ (.int .i64 ((rd_T56 l0_0 x3_2).f2))).heap[gb145]? = some (.cells #[.int .i64 ((rd_T56 l0_0 x3_2).f0),.int .i64 ((rd_T56 l0_0 x3_2).f1),.int .i64 ((rd_T56 l0_0 x3_2).f2)] 56 (0,0))):=⟨by (with_reducible repeat (first|refine blk_drewN ?_ _|refine blk_drew ?_|refine blk_alloc ?_ _));refine blk_put (cs:=#[.int .i64 ((rd_T56 l0_0 x3_2).f0),.int .i64 ((rd_T56 l0_0 x3_2).f1),.int .i64 0]) ?_ 2 _ rfl;(with_reducible repeat (first|refine blk_drewN ?_ _|refine blk_drew ?_|refine blk_alloc ?_ _));refine blk_put (cs:=#[.int .i64 ((rd_T56 l0_0 x3_2).f0),.int .i64 0,.int .i64 0]) ?_ 1 _ rfl;(with_reducible repeat (first|refine blk_drewN ?_ _|refine blk_drew ?_|refine blk_alloc ?_ _));refine blk_put (cs:=#[.int .i64 0,.int .i64 0,.int .i64 0]) ?_ 0 _ rfl;(with_reducible repeat (first|refine blk_drewN ?_ _|refine blk_drew ?_|refine blk_alloc ?_ _));exact BK145.out⟩
            have n2_:Aside0 (Below w.heap.size w (((w13.setCell ⟨gb145,0,none⟩ (.int .i64 ((rd_T56 l0_0 x3_2).f0))).setCell ⟨gb145,1,none⟩ (.int .i64 ((rd_T56 l0_0 x3_2).f1))).setCell ⟨gb145,2,none⟩ (.int .i64 ((rd_T56 l0_0 x3_2).f2)))):=⟨bl⟩
            (try clear BK142)
            (try clear BK145)
            (try clear HB)
            generalize (((w13.setCell ⟨gb145,0,none⟩ (.int .i64 ((rd_T56 l0_0 x3_2).f0))).setCell ⟨gb145,1,none⟩ (.int .i64 ((rd_T56 l0_0 x3_2).f1))).setCell ⟨gb145,2,none⟩ (.int .i64 ((rd_T56 l0_0 x3_2).f2)))=w30 at n0_ n1_ n2_ ⊢
            have BK142:=n0_
            have BK145:=n1_
            have HB:=n2_
            clear n0_ n1_ n2_
            replace BK142:=Aside0.mk (blk_drew BK142.out)
            replace BK145:=Aside0.mk (blk_drew BK145.out)
            replace HB:=Aside0.mk (below_drew1 HB.out)
            refine start_ (n:=33) (S:=fun w'=>w'.cell? ⟨gb145,0,none⟩=some (.int .i64 ((rd_T56 l0_0 x3_2).f0))∧w'.cell? ⟨gb145,1,none⟩=some (.int .i64 ((rd_T56 l0_0 x3_2).f1))∧w'.cell? ⟨gb145,2,none⟩=some (.int .i64 ((rd_T56 l0_0 x3_2).f2))∧w'.cell? ⟨gb142,0,none⟩=some (.slice (some ad144) l0_0.length c0_0)∧w'.cell? ⟨gb142,1,none⟩=some (.int .i64 a0_1)) (ds:=[]) (bs 33 0) (by kernel_rfl) rfl rfl ⟨bc BK145 0,bc BK145 1,bc BK145 2,bc BK142 0,bc BK142 1⟩ (fun hHeld=>?_);refine with_tabW spec_HeapOk.tab7 spec_HeapOk.bits7 (fun HT_ HW_=>?_)
            generalize w30.drew=w31 at BK142 BK145 HB hHeld ⊢
            refine pq 0 28 (bs 33 1) HT_ ?_
            refine tq 1 29 (bs 33 3) HT_ HW_ hHeld ?_
            refine one_ (i:=2) (N:=some 30) (bs 33 7) rfl rfl (one_of HT_.out (by kernel_rfl)) (by decide) (fun K hK=>?_)
            refine goes_ Try.func51 (by kernel_rfl) rfl #[.int .i64 ((rd_T56 l0_0 x3_2).f0)] (by rfl) rfl rfl (by (try simp only [List.map_toArray,List.map_cons,List.map_nil]);first|done|rfl|(simp only [List.length_drop,List.length_take];rfl)) ?_
            with_reducible refine (spec_TickOk.calls ((rd_T56 l0_0 x3_2).f0) true _ A16.out).mono ?_
            rintro e w' ⟨rfl,⟨nd,rfl⟩⟩
            refine ⟨_,rfl,?_⟩
            refine hK.out _ _ ⟨bc BK145 0,bc BK145 1,bc BK145 2,bc BK142 0,bc BK142 1⟩ (fun hHeld=>?_)
            clear hK K
            refine nrm ?_
            refine pq 3 31 (bs 33 15) HT_ ?_
            refine pq 4 32 (bs 33 31) HT_ ?_
            refine pq 5 33 (bs 33 63) HT_ ?_
            refine pq 7 35 (bs 33 191) HT_ ?_
            refine tq 6 34 (bs 33 255) HT_ HW_ hHeld ?_
            refine tq 8 36 (bs 33 511) HT_ HW_ hHeld ?_
            refine one_ (i:=9) (N:=some 37) (bs 33 1023) rfl rfl (one_of HT_.out (by kernel_rfl)) (by decide) (fun K hK=>?_)
            refine goes_ Try.func52 (by kernel_rfl) rfl #[.int .i64 ((rd_T56 l0_0 x3_2).f1),.int .i64 1,.int .i64 a0_1] (by rfl) rfl rfl (by (try simp only [List.map_toArray,List.map_cons,List.map_nil]);first|done|rfl|(simp only [List.length_drop,List.length_take];rfl)) ?_
            with_reducible refine (spec_l01In.calls ((rd_T56 l0_0 x3_2).f1) 1 a0_1 true _ A18.out).mono ?_
            rintro e w' ⟨rfl,⟨nd,rfl⟩⟩
            refine ⟨_,rfl,?_⟩
            refine hK.out _ _ ⟨bc BK145 0,bc BK145 1,bc BK145 2,bc BK142 0,bc BK142 1⟩ (fun hHeld=>?_)
            clear hK K
            refine nrm ?_
            refine pq 10 38 (bs 33 2047) HT_ ?_
            refine pq 11 39 (bs 33 4095) HT_ ?_
            refine pq 12 40 (bs 33 8191) HT_ ?_
            refine pq 13 41 (bs 33 16383) HT_ ?_
            refine tq 14 42 (bs 33 32767) HT_ HW_ hHeld ?_
            refine one_ (i:=15) (N:=some 43) (bs 33 65535) rfl rfl (one_of HT_.out (by kernel_rfl)) (by decide) (fun K hK=>?_)
            refine goes_ Try.func52 (by kernel_rfl) rfl #[.int .i64 ((rd_T56 l0_0 x3_2).f2),.int .i64 1,.int .i64 1000000000] (by rfl) rfl rfl (by (try simp only [List.map_toArray,List.map_cons,List.map_nil]);first|done|rfl|(simp only [List.length_drop,List.length_take];rfl)) ?_
            with_reducible refine (spec_l01In.calls ((rd_T56 l0_0 x3_2).f2) 1 1000000000 true _ A20.out).mono ?_
            rintro e w' ⟨rfl,⟨nd,rfl⟩⟩
            refine ⟨_,rfl,?_⟩
            refine hK.out _ _ ⟨bc BK145 0,bc BK145 1,bc BK145 2,bc BK142 0,bc BK142 1⟩ (fun hHeld=>?_)
            clear hK K
            refine nrm ?_
            refine pq 16 44 (bs 33 131071) HT_ ?_
            refine pq 17 45 (bs 33 262143) HT_ ?_
            refine pq 18 46 (bs 33 524287) HT_ ?_
            refine pq 19 47 (bs 33 1048575) HT_ ?_
            refine pq 20 48 (bs 33 2097151) HT_ ?_
            refine pq 21 49 (bs 33 4194303) HT_ ?_
            refine uq 22 50 (bs 33 8388607) HT_ ?_
            refine uq 23 51 (bs 33 16777215) HT_ ?_
            refine uq 24 52 (bs 33 33554431) HT_ ?_
            refine uq 25 53 (bs 33 67108863) HT_ ?_
            refine uq 26 54 (bs 33 134217727) HT_ ?_
            refine uq 27 55 (bs 33 268435455) HT_ ?_
            refine uq 28 56 (bs 33 536870911) HT_ ?_
            refine uq 29 57 (bs 33 1073741823) HT_ ?_
            refine uq 30 58 (bs 33 2147483647) HT_ ?_
            refine pq 31 59 (bs 33 4294967295) HT_ ?_
            refine pq 32 60 (bs 33 8589934591) HT_ ?_
            refine done_ (done_of HT_.out (by kernel_rfl)) ?_
            try go_wp2
            go_meet
            case rel=>exact ⟨_,(false),(by first|rfl|(simp;done)|(simp [*];done)),H',⟨by have:=HJ1.out;have:=HK2.out;first|omega|exact Nat.le_refl _⟩,⟨bk BK142⟩,⟨bk BK145⟩,⟨bl⟩⟩
          ·replace c21:=Bool.eq_false_iff.mpr c21
           subst c21
           rw [if_neg nft] at H
           have H':=Aside0.mk H
           clear H
           try go_wp2
           have n0_:Aside0 ((((w13.setCell ⟨gb145,0,none⟩ (.int .i64 ((rd_T56 l0_0 x3_2).f0))).setCell ⟨gb145,1,none⟩ (.int .i64 ((rd_T56 l0_0 x3_2).f1))).setCell ⟨gb145,2,none⟩ (.int .i64 ((rd_T56 l0_0 x3_2).f2))).heap[gb142]? = some (.cells #[.slice (some ad144) l0_0.length c0_0,.int .i64 a0_1] 28 (0,0))):=⟨bf BK142⟩
           have n1_:Aside0 ((((w13.setCell ⟨gb145,0,none⟩ (.int .i64 ((rd_T56 l0_0 x3_2).f0))).setCell ⟨gb145,1,none⟩ (.int .i64 ((rd_T56 l0_0 x3_2).f1))).setCell ⟨gb145,2,none⟩ (.int .i64 ((rd_T56 l0_0 x3_2).f2))).heap[gb145]? = some (.cells #[.int .i64 ((rd_T56 l0_0 x3_2).f0),.int .i64 ((rd_T56 l0_0 x3_2).f1),.int .i64 ((rd_T56 l0_0 x3_2).f2)] 56 (0,0))):=⟨by (with_reducible repeat (first|refine blk_drewN ?_ _|refine blk_drew ?_|refine blk_alloc ?_ _));refine blk_put (cs:=#[.int .i64 ((rd_T56 l0_0 x3_2).f0),.int .i64 ((rd_T56 l0_0 x3_2).f1),.int .i64 0]) ?_ 2 _ rfl;(with_reducible repeat (first|refine blk_drewN ?_ _|refine blk_drew ?_|refine blk_alloc ?_ _));refine blk_put (cs:=#[.int .i64 ((rd_T56 l0_0 x3_2).f0),.int .i64 0,.int .i64 0]) ?_ 1 _ rfl;(with_reducible repeat (first|refine blk_drewN ?_ _|refine blk_drew ?_|refine blk_alloc ?_ _));refine blk_put (cs:=#[.int .i64 0,.int .i64 0,.int .i64 0]) ?_ 0 _ rfl;(with_reducible repeat (first|refine blk_drewN ?_ _|refine blk_drew ?_|refine blk_alloc ?_ _));exact BK145.out⟩
           have n2_:Aside0 (Below w.heap.size w (((w13.setCell ⟨gb145,0,none⟩ (.int .i64 ((rd_T56 l0_0 x3_2).f0))).setCell ⟨gb145,1,none⟩ (.int .i64 ((rd_T56 l0_0 x3_2).f1))).setCell ⟨gb145,2,none⟩ (.int .i64 ((rd_T56 l0_0 x3_2).f2)))):=⟨bl⟩
           (try clear BK142)
           (try clear BK145)
           (try clear HB)
           generalize (((w13.setCell ⟨gb145,0,none⟩ (.int .i64 ((rd_T56 l0_0 x3_2).f0))).setCell ⟨gb145,1,none⟩ (.int .i64 ((rd_T56 l0_0 x3_2).f1))).setCell ⟨gb145,2,none⟩ (.int .i64 ((rd_T56 l0_0 x3_2).f2)))=w32 at n0_ n1_ n2_ ⊢
           have BK142:=n0_
           have BK145:=n1_
           have HB:=n2_
           clear n0_ n1_ n2_
           replace BK142:=Aside0.mk (blk_drew BK142.out)
           replace BK145:=Aside0.mk (blk_drew BK145.out)
           replace HB:=Aside0.mk (below_drew1 HB.out)
           refine start_ (n:=33) (S:=fun w'=>w'.cell? ⟨gb145,0,none⟩=some (.int .i64 ((rd_T56 l0_0 x3_2).f0))∧w'.cell? ⟨gb145,1,none⟩=some (.int .i64 ((rd_T56 l0_0 x3_2).f1))∧w'.cell? ⟨gb145,2,none⟩=some (.int .i64 ((rd_T56 l0_0 x3_2).f2))∧w'.cell? ⟨gb142,0,none⟩=some (.slice (some ad144) l0_0.length c0_0)∧w'.cell? ⟨gb142,1,none⟩=some (.int .i64 a0_1)) (ds:=[]) (bs 33 0) (by kernel_rfl) rfl rfl ⟨bc BK145 0,bc BK145 1,bc BK145 2,bc BK142 0,bc BK142 1⟩ (fun hHeld=>?_);refine with_tabW spec_HeapOk.tab7 spec_HeapOk.bits7 (fun HT_ HW_=>?_)
           generalize w32.drew=w33 at BK142 BK145 HB hHeld ⊢
           refine pq 0 28 (bs 33 1) HT_ ?_
           refine tq 1 29 (bs 33 3) HT_ HW_ hHeld ?_
           refine one_ (i:=2) (N:=some 30) (bs 33 7) rfl rfl (one_of HT_.out (by kernel_rfl)) (by decide) (fun K hK=>?_)
           refine goes_ Try.func51 (by kernel_rfl) rfl #[.int .i64 ((rd_T56 l0_0 x3_2).f0)] (by rfl) rfl rfl (by (try simp only [List.map_toArray,List.map_cons,List.map_nil]);first|done|rfl|(simp only [List.length_drop,List.length_take];rfl)) ?_
           with_reducible refine (spec_TickOk.calls ((rd_T56 l0_0 x3_2).f0) true _ A16.out).mono ?_
           rintro e w' ⟨rfl,⟨nd,rfl⟩⟩
           refine ⟨_,rfl,?_⟩
           refine hK.out _ _ ⟨bc BK145 0,bc BK145 1,bc BK145 2,bc BK142 0,bc BK142 1⟩ (fun hHeld=>?_)
           clear hK K
           refine nrm ?_
           refine pq 3 31 (bs 33 15) HT_ ?_
           refine pq 4 32 (bs 33 31) HT_ ?_
           refine pq 5 33 (bs 33 63) HT_ ?_
           refine pq 7 35 (bs 33 191) HT_ ?_
           refine tq 6 34 (bs 33 255) HT_ HW_ hHeld ?_
           refine tq 8 36 (bs 33 511) HT_ HW_ hHeld ?_
           refine one_ (i:=9) (N:=some 37) (bs 33 1023) rfl rfl (one_of HT_.out (by kernel_rfl)) (by decide) (fun K hK=>?_)
           refine goes_ Try.func52 (by kernel_rfl) rfl #[.int .i64 ((rd_T56 l0_0 x3_2).f1),.int .i64 1,.int .i64 a0_1] (by rfl) rfl rfl (by (try simp only [List.map_toArray,List.map_cons,List.map_nil]);first|done|rfl|(simp only [List.length_drop,List.length_take];rfl)) ?_
           with_reducible refine (spec_l01In.calls ((rd_T56 l0_0 x3_2).f1) 1 a0_1 true _ A18.out).mono ?_
           rintro e w' ⟨rfl,⟨nd,rfl⟩⟩
           refine ⟨_,rfl,?_⟩
           refine hK.out _ _ ⟨bc BK145 0,bc BK145 1,bc BK145 2,bc BK142 0,bc BK142 1⟩ (fun hHeld=>?_)
           clear hK K
           refine nrm ?_
           refine pq 10 38 (bs 33 2047) HT_ ?_
           refine pq 11 39 (bs 33 4095) HT_ ?_
           refine pq 12 40 (bs 33 8191) HT_ ?_
           refine pq 13 41 (bs 33 16383) HT_ ?_
           refine tq 14 42 (bs 33 32767) HT_ HW_ hHeld ?_
           refine one_ (i:=15) (N:=some 43) (bs 33 65535) rfl rfl (one_of HT_.out (by kernel_rfl)) (by decide) (fun K hK=>?_)
           refine goes_ Try.func52 (by kernel_rfl) rfl #[.int .i64 ((rd_T56 l0_0 x3_2).f2),.int .i64 1,.int .i64 1000000000] (by rfl) rfl rfl (by (try simp only [List.map_toArray,List.map_cons,List.map_nil]);first|done|rfl|(simp only [List.length_drop,List.length_take];rfl)) ?_
           with_reducible refine (spec_l01In.calls ((rd_T56 l0_0 x3_2).f2) 1 1000000000 false _ A20.out).mono ?_
           rintro e w' ⟨rfl,⟨nd,rfl⟩⟩
           refine ⟨_,rfl,?_⟩
           refine hK.out _ _ ⟨bc BK145 0,bc BK145 1,bc BK145 2,bc BK142 0,bc BK142 1⟩ (fun hHeld=>?_)
           clear hK K
           refine nrm ?_
           refine pq 16 44 (bs 33 131071) HT_ ?_
           refine pq 17 45 (bs 33 262143) HT_ ?_
           refine pq 18 46 (bs 33 524287) HT_ ?_
           refine uq 19 47 (bs 33 1048575) HT_ ?_
           refine uq 20 48 (bs 33 2097151) HT_ ?_
           refine uq 21 49 (bs 33 4194303) HT_ ?_
           refine uq 22 50 (bs 33 8388607) HT_ ?_
           refine uq 23 51 (bs 33 16777215) HT_ ?_
           refine uq 24 52 (bs 33 33554431) HT_ ?_
           refine uq 25 53 (bs 33 67108863) HT_ ?_
           refine uq 26 54 (bs 33 134217727) HT_ ?_
           refine uq 27 55 (bs 33 268435455) HT_ ?_
           refine uq 28 56 (bs 33 536870911) HT_ ?_
           refine uq 29 57 (bs 33 1073741823) HT_ ?_
           refine uq 30 58 (bs 33 2147483647) HT_ ?_
           refine uq 31 59 (bs 33 4294967295) HT_ ?_
           refine pq 32 60 (bs 33 8589934591) HT_ ?_
           refine done_ (done_of HT_.out (by kernel_rfl)) ?_
           try go_wp2
           go_meet
           case rel=>exact ⟨_,(true),(by first|rfl|(simp;done)|(simp [*];done)),H',⟨by have:=HJ1.out;have:=HK2.out;first|omega|exact Nat.le_refl _⟩,⟨bk BK142⟩,⟨bk BK145⟩,⟨bl⟩⟩
         ·replace c19:=Bool.eq_false_iff.mpr c19
          subst c19
          rw [if_neg nft] at H
          have H':=Aside0.mk H
          clear H
          try go_wp2
          have n0_:Aside0 ((((w13.setCell ⟨gb145,0,none⟩ (.int .i64 ((rd_T56 l0_0 x3_2).f0))).setCell ⟨gb145,1,none⟩ (.int .i64 ((rd_T56 l0_0 x3_2).f1))).setCell ⟨gb145,2,none⟩ (.int .i64 ((rd_T56 l0_0 x3_2).f2))).heap[gb142]? = some (.cells #[.slice (some ad144) l0_0.length c0_0,.int .i64 a0_1] 28 (0,0))):=⟨bf BK142⟩
          have n1_:Aside0 ((((w13.setCell ⟨gb145,0,none⟩ (.int .i64 ((rd_T56 l0_0 x3_2).f0))).setCell ⟨gb145,1,none⟩ (.int .i64 ((rd_T56 l0_0 x3_2).f1))).setCell ⟨gb145,2,none⟩ (.int .i64 ((rd_T56 l0_0 x3_2).f2))).heap[gb145]? = some (.cells #[.int .i64 ((rd_T56 l0_0 x3_2).f0),.int .i64 ((rd_T56 l0_0 x3_2).f1),.int .i64 ((rd_T56 l0_0 x3_2).f2)] 56 (0,0))):=⟨by (with_reducible repeat (first|refine blk_drewN ?_ _|refine blk_drew ?_|refine blk_alloc ?_ _));refine blk_put (cs:=#[.int .i64 ((rd_T56 l0_0 x3_2).f0),.int .i64 ((rd_T56 l0_0 x3_2).f1),.int .i64 0]) ?_ 2 _ rfl;(with_reducible repeat (first|refine blk_drewN ?_ _|refine blk_drew ?_|refine blk_alloc ?_ _));refine blk_put (cs:=#[.int .i64 ((rd_T56 l0_0 x3_2).f0),.int .i64 0,.int .i64 0]) ?_ 1 _ rfl;(with_reducible repeat (first|refine blk_drewN ?_ _|refine blk_drew ?_|refine blk_alloc ?_ _));refine blk_put (cs:=#[.int .i64 0,.int .i64 0,.int .i64 0]) ?_ 0 _ rfl;(with_reducible repeat (first|refine blk_drewN ?_ _|refine blk_drew ?_|refine blk_alloc ?_ _));exact BK145.out⟩
          have n2_:Aside0 (Below w.heap.size w (((w13.setCell ⟨gb145,0,none⟩ (.int .i64 ((rd_T56 l0_0 x3_2).f0))).setCell ⟨gb145,1,none⟩ (.int .i64 ((rd_T56 l0_0 x3_2).f1))).setCell ⟨gb145,2,none⟩ (.int .i64 ((rd_T56 l0_0 x3_2).f2)))):=⟨bl⟩
          (try clear BK142)
          (try clear BK145)
          (try clear HB)
          generalize (((w13.setCell ⟨gb145,0,none⟩ (.int .i64 ((rd_T56 l0_0 x3_2).f0))).setCell ⟨gb145,1,none⟩ (.int .i64 ((rd_T56 l0_0 x3_2).f1))).setCell ⟨gb145,2,none⟩ (.int .i64 ((rd_T56 l0_0 x3_2).f2)))=w34 at n0_ n1_ n2_ ⊢
          have BK142:=n0_
          have BK145:=n1_
          have HB:=n2_
          clear n0_ n1_ n2_
          replace BK142:=Aside0.mk (blk_drew BK142.out)
          replace BK145:=Aside0.mk (blk_drew BK145.out)
          replace HB:=Aside0.mk (below_drew1 HB.out)
          refine start_ (n:=33) (S:=fun w'=>w'.cell? ⟨gb145,0,none⟩=some (.int .i64 ((rd_T56 l0_0 x3_2).f0))∧w'.cell? ⟨gb145,1,none⟩=some (.int .i64 ((rd_T56 l0_0 x3_2).f1))∧w'.cell? ⟨gb145,2,none⟩=some (.int .i64 ((rd_T56 l0_0 x3_2).f2))∧w'.cell? ⟨gb142,0,none⟩=some (.slice (some ad144) l0_0.length c0_0)∧w'.cell? ⟨gb142,1,none⟩=some (.int .i64 a0_1)) (ds:=[]) (bs 33 0) (by kernel_rfl) rfl rfl ⟨bc BK145 0,bc BK145 1,bc BK145 2,bc BK142 0,bc BK142 1⟩ (fun hHeld=>?_);refine with_tabW spec_HeapOk.tab7 spec_HeapOk.bits7 (fun HT_ HW_=>?_)
          generalize w34.drew=w35 at BK142 BK145 HB hHeld ⊢
          refine pq 0 28 (bs 33 1) HT_ ?_
          refine tq 1 29 (bs 33 3) HT_ HW_ hHeld ?_
          refine one_ (i:=2) (N:=some 30) (bs 33 7) rfl rfl (one_of HT_.out (by kernel_rfl)) (by decide) (fun K hK=>?_)
          refine goes_ Try.func51 (by kernel_rfl) rfl #[.int .i64 ((rd_T56 l0_0 x3_2).f0)] (by rfl) rfl rfl (by (try simp only [List.map_toArray,List.map_cons,List.map_nil]);first|done|rfl|(simp only [List.length_drop,List.length_take];rfl)) ?_
          with_reducible refine (spec_TickOk.calls ((rd_T56 l0_0 x3_2).f0) true _ A16.out).mono ?_
          rintro e w' ⟨rfl,⟨nd,rfl⟩⟩
          refine ⟨_,rfl,?_⟩
          refine hK.out _ _ ⟨bc BK145 0,bc BK145 1,bc BK145 2,bc BK142 0,bc BK142 1⟩ (fun hHeld=>?_)
          clear hK K
          refine nrm ?_
          refine pq 3 31 (bs 33 15) HT_ ?_
          refine pq 4 32 (bs 33 31) HT_ ?_
          refine pq 5 33 (bs 33 63) HT_ ?_
          refine pq 7 35 (bs 33 191) HT_ ?_
          refine tq 6 34 (bs 33 255) HT_ HW_ hHeld ?_
          refine tq 8 36 (bs 33 511) HT_ HW_ hHeld ?_
          refine one_ (i:=9) (N:=some 37) (bs 33 1023) rfl rfl (one_of HT_.out (by kernel_rfl)) (by decide) (fun K hK=>?_)
          refine goes_ Try.func52 (by kernel_rfl) rfl #[.int .i64 ((rd_T56 l0_0 x3_2).f1),.int .i64 1,.int .i64 a0_1] (by rfl) rfl rfl (by (try simp only [List.map_toArray,List.map_cons,List.map_nil]);first|done|rfl|(simp only [List.length_drop,List.length_take];rfl)) ?_
          with_reducible refine (spec_l01In.calls ((rd_T56 l0_0 x3_2).f1) 1 a0_1 false _ A18.out).mono ?_
          rintro e w' ⟨rfl,⟨nd,rfl⟩⟩
          refine ⟨_,rfl,?_⟩
          refine hK.out _ _ ⟨bc BK145 0,bc BK145 1,bc BK145 2,bc BK142 0,bc BK142 1⟩ (fun hHeld=>?_)
          clear hK K
          refine nrm ?_
          refine pq 10 38 (bs 33 2047) HT_ ?_
          refine pq 11 39 (bs 33 4095) HT_ ?_
          refine pq 12 40 (bs 33 8191) HT_ ?_
          refine uq 13 41 (bs 33 16383) HT_ ?_
          refine uq 14 42 (bs 33 32767) HT_ ?_
          refine uq 15 43 (bs 33 65535) HT_ ?_
          refine uq 16 44 (bs 33 131071) HT_ ?_
          refine pq 17 45 (bs 33 262143) HT_ ?_
          refine pq 18 46 (bs 33 524287) HT_ ?_
          refine uq 19 47 (bs 33 1048575) HT_ ?_
          refine uq 20 48 (bs 33 2097151) HT_ ?_
          refine uq 21 49 (bs 33 4194303) HT_ ?_
          refine uq 22 50 (bs 33 8388607) HT_ ?_
          refine uq 23 51 (bs 33 16777215) HT_ ?_
          refine uq 24 52 (bs 33 33554431) HT_ ?_
          refine uq 25 53 (bs 33 67108863) HT_ ?_
          refine uq 26 54 (bs 33 134217727) HT_ ?_
          refine uq 27 55 (bs 33 268435455) HT_ ?_
          refine uq 28 56 (bs 33 536870911) HT_ ?_
          refine uq 29 57 (bs 33 1073741823) HT_ ?_
          refine uq 30 58 (bs 33 2147483647) HT_ ?_
          refine uq 31 59 (bs 33 4294967295) HT_ ?_
          refine pq 32 60 (bs 33 8589934591) HT_ ?_
          refine done_ (done_of HT_.out (by kernel_rfl)) ?_
          try go_wp2
          go_meet
          case rel=>exact ⟨_,(true),(by first|rfl|(simp;done)|(simp [*];done)),H',⟨by have:=HJ1.out;have:=HK2.out;first|omega|exact Nat.le_refl _⟩,⟨bk BK142⟩,⟨bk BK145⟩,⟨bl⟩⟩
        ·replace c17:=Bool.eq_false_iff.mpr c17
         subst c17
         rw [if_neg nft] at H
         have H':=Aside0.mk H
         clear H
         try go_wp2
         have n0_:Aside0 ((((w13.setCell ⟨gb145,0,none⟩ (.int .i64 ((rd_T56 l0_0 x3_2).f0))).setCell ⟨gb145,1,none⟩ (.int .i64 ((rd_T56 l0_0 x3_2).f1))).setCell ⟨gb145,2,none⟩ (.int .i64 ((rd_T56 l0_0 x3_2).f2))).heap[gb142]? = some (.cells #[.slice (some ad144) l0_0.length c0_0,.int .i64 a0_1] 28 (0,0))):=⟨bf BK142⟩
         have n1_:Aside0 ((((w13.setCell ⟨gb145,0,none⟩ (.int .i64 ((rd_T56 l0_0 x3_2).f0))).setCell ⟨gb145,1,none⟩ (.int .i64 ((rd_T56 l0_0 x3_2).f1))).setCell ⟨gb145,2,none⟩ (.int .i64 ((rd_T56 l0_0 x3_2).f2))).heap[gb145]? = some (.cells #[.int .i64 ((rd_T56 l0_0 x3_2).f0),.int .i64 ((rd_T56 l0_0 x3_2).f1),.int .i64 ((rd_T56 l0_0 x3_2).f2)] 56 (0,0))):=⟨by (with_reducible repeat (first|refine blk_drewN ?_ _|refine blk_drew ?_|refine blk_alloc ?_ _));refine blk_put (cs:=#[.int .i64 ((rd_T56 l0_0 x3_2).f0),.int .i64 ((rd_T56 l0_0 x3_2).f1),.int .i64 0]) ?_ 2 _ rfl;(with_reducible repeat (first|refine blk_drewN ?_ _|refine blk_drew ?_|refine blk_alloc ?_ _));refine blk_put (cs:=#[.int .i64 ((rd_T56 l0_0 x3_2).f0),.int .i64 0,.int .i64 0]) ?_ 1 _ rfl;(with_reducible repeat (first|refine blk_drewN ?_ _|refine blk_drew ?_|refine blk_alloc ?_ _));refine blk_put (cs:=#[.int .i64 0,.int .i64 0,.int .i64 0]) ?_ 0 _ rfl;(with_reducible repeat (first|refine blk_drewN ?_ _|refine blk_drew ?_|refine blk_alloc ?_ _));exact BK145.out⟩
         have n2_:Aside0 (Below w.heap.size w (((w13.setCell ⟨gb145,0,none⟩ (.int .i64 ((rd_T56 l0_0 x3_2).f0))).setCell ⟨gb145,1,none⟩ (.int .i64 ((rd_T56 l0_0 x3_2).f1))).setCell ⟨gb145,2,none⟩ (.int .i64 ((rd_T56 l0_0 x3_2).f2)))):=⟨bl⟩
         (try clear BK142)
         (try clear BK145)
         (try clear HB)
         generalize (((w13.setCell ⟨gb145,0,none⟩ (.int .i64 ((rd_T56 l0_0 x3_2).f0))).setCell ⟨gb145,1,none⟩ (.int .i64 ((rd_T56 l0_0 x3_2).f1))).setCell ⟨gb145,2,none⟩ (.int .i64 ((rd_T56 l0_0 x3_2).f2)))=w36 at n0_ n1_ n2_ ⊢
         have BK142:=n0_
         have BK145:=n1_
         have HB:=n2_
         clear n0_ n1_ n2_
         replace BK142:=Aside0.mk (blk_drew BK142.out)
         replace BK145:=Aside0.mk (blk_drew BK145.out)
         replace HB:=Aside0.mk (below_drew1 HB.out)
         refine start_ (n:=33) (S:=fun w'=>w'.cell? ⟨gb145,0,none⟩=some (.int .i64 ((rd_T56 l0_0 x3_2).f0))∧w'.cell? ⟨gb145,1,none⟩=some (.int .i64 ((rd_T56 l0_0 x3_2).f1))∧w'.cell? ⟨gb145,2,none⟩=some (.int .i64 ((rd_T56 l0_0 x3_2).f2))) (ds:=[]) (bs 33 0) (by kernel_rfl) rfl rfl ⟨bc BK145 0,bc BK145 1,bc BK145 2⟩ (fun hHeld=>?_);refine with_tabW spec_HeapOk.tab7 spec_HeapOk.bits7 (fun HT_ HW_=>?_)
         generalize w36.drew=w37 at BK142 BK145 HB hHeld ⊢
         refine pq 0 28 (bs 33 1) HT_ ?_
         refine tq 1 29 (bs 33 3) HT_ HW_ hHeld ?_
         refine one_ (i:=2) (N:=some 30) (bs 33 7) rfl rfl (one_of HT_.out (by kernel_rfl)) (by decide) (fun K hK=>?_)
         refine goes_ Try.func51 (by kernel_rfl) rfl #[.int .i64 ((rd_T56 l0_0 x3_2).f0)] (by rfl) rfl rfl (by (try simp only [List.map_toArray,List.map_cons,List.map_nil]);first|done|rfl|(simp only [List.length_drop,List.length_take];rfl)) ?_
         with_reducible refine (spec_TickOk.calls ((rd_T56 l0_0 x3_2).f0) false _ A16.out).mono ?_
         rintro e w' ⟨rfl,⟨nd,rfl⟩⟩
         refine ⟨_,rfl,?_⟩
         refine hK.out _ _ ⟨bc BK145 0,bc BK145 1,bc BK145 2⟩ (fun hHeld=>?_)
         clear hK K
         refine nrm ?_
         refine pq 3 31 (bs 33 15) HT_ ?_
         refine pq 4 32 (bs 33 31) HT_ ?_
         refine uq 5 33 (bs 33 63) HT_ ?_
         refine uq 6 34 (bs 33 127) HT_ ?_
         refine uq 7 35 (bs 33 255) HT_ ?_
         refine uq 8 36 (bs 33 511) HT_ ?_
         refine uq 9 37 (bs 33 1023) HT_ ?_
         refine uq 10 38 (bs 33 2047) HT_ ?_
         refine pq 11 39 (bs 33 4095) HT_ ?_
         refine pq 12 40 (bs 33 8191) HT_ ?_
         refine uq 13 41 (bs 33 16383) HT_ ?_
         refine uq 14 42 (bs 33 32767) HT_ ?_
         refine uq 15 43 (bs 33 65535) HT_ ?_
         refine uq 16 44 (bs 33 131071) HT_ ?_
         refine pq 17 45 (bs 33 262143) HT_ ?_
         refine pq 18 46 (bs 33 524287) HT_ ?_
         refine uq 19 47 (bs 33 1048575) HT_ ?_
         refine uq 20 48 (bs 33 2097151) HT_ ?_
         refine uq 21 49 (bs 33 4194303) HT_ ?_
         refine uq 22 50 (bs 33 8388607) HT_ ?_
         refine uq 23 51 (bs 33 16777215) HT_ ?_
         refine uq 24 52 (bs 33 33554431) HT_ ?_
         refine uq 25 53 (bs 33 67108863) HT_ ?_
         refine uq 26 54 (bs 33 134217727) HT_ ?_
         refine uq 27 55 (bs 33 268435455) HT_ ?_
         refine uq 28 56 (bs 33 536870911) HT_ ?_
         refine uq 29 57 (bs 33 1073741823) HT_ ?_
         refine uq 30 58 (bs 33 2147483647) HT_ ?_
         refine uq 31 59 (bs 33 4294967295) HT_ ?_
         refine pq 32 60 (bs 33 8589934591) HT_ ?_
         refine done_ (done_of HT_.out (by kernel_rfl)) ?_
         try go_wp2
         go_meet
         case rel=>exact ⟨_,(true),(by first|rfl|(simp;done)|(simp [*];done)),H',⟨by have:=HJ1.out;have:=HK2.out;first|omega|exact Nat.le_refl _⟩,⟨bk BK142⟩,⟨bk BK145⟩,⟨bl⟩⟩
       case rest =>
        clear HC11
        try clear c1
        try clear p2
        try clear c5
        try clear c17
        try clear c19
        obtain ⟨kq,x60_10,rfl,HA,HJ10,BK142,BK145,HB⟩:=hcut
        cases kq with
        | zero=>exact absurd HA.out (by simp [spec_HeapOk.j2])
        | succ kj10 =>
         have H:=HA.out
         clear HA
         simp only [spec_HeapOk.j2] at H
         by_cases c38:x60_10=true
         ·subst c38
          rw [if_pos rfl] at H
          obtain rfl:=Option.some.inj H
          go_wp2
          go_ret
          exact ⟨er,bl⟩
         ·replace c38:=Bool.eq_false_iff.mpr c38
          subst c38
          rw [if_neg nft] at H
          have H':=Aside0.mk H
          clear H
          go_wp2
          go_loopg [5] kj10 (fun kq v5 w'=>∃ (x5_4:Int),v5 = .int .i64 x5_4∧Aside0 (spec_HeapOk.l1 kq x3_2 x5_4 l0_0 a0_1 ((rd_T56 l0_0 x3_2).f0) ((rd_T56 l0_0 x3_2).f1) ((rd_T56 l0_0 x3_2).f2)=some r)∧Aside0 (kq≤kj10)∧Aside0 (w'.heap[gb142]? = some (.cells #[(.slice (some ad144) l0_0.length c0_0),.int .i64 a0_1] 28 (0,0)))∧Aside0 (w'.heap[gb145]? = some (.cells #[.int .i64 ((rd_T56 l0_0 x3_2).f0),.int .i64 ((rd_T56 l0_0 x3_2).f1),.int .i64 ((rd_T56 l0_0 x3_2).f2)] 56 (0,0)))∧Aside0 (Below w.heap.size w w'))
          case atStart=>exact ⟨(0),(by first|rfl|(simp;done)|(simp [*];done)),H',⟨Nat.le_refl _⟩,⟨bk BK142⟩,⟨bk BK145⟩,⟨bl⟩⟩
          case round =>
           clear H'
           try clear c1
           try clear p2
           try clear c3
           try clear c5
           try clear c17
           try clear c19
           try clear c38
           try clear p2
           obtain ⟨x5_4,rfl,HA,HK4,BK142,BK145,HB⟩:=hrel
           cases gk with
           | zero=>exact absurd HA.out (by simp [spec_HeapOk.l1])
           | succ k4 =>
            have H:=HA.out
            clear HA
            simp only [spec_HeapOk.l1] at H
            by_cases c39:x5_4 < x3_2
            ·rw [if_pos c39] at H
             have c39b0:decide (x5_4 < x3_2)=true:=decide_eq_true c39
             clear c39
             by_cases c40:0≤x5_4
             case neg =>
              rw [if_neg c40] at H
              exact absurd H (by simp)
             rw [if_pos c40] at H
             have c40b0:decide (0≤x5_4)=true:=decide_eq_true c40
             clear c40
             by_cases c41:x5_4 < (l0_0.length:Int)
             case neg =>
              rw [if_neg c41] at H
              exact absurd H (by simp)
             rw [if_pos c41] at H
             have c41b0:decide (x5_4 < (l0_0.length:Int))=true:=decide_eq_true c41
             clear c41
             by_cases c42:((rd_T56 l0_0 x5_4).f2)=((rd_T56 l0_0 x3_2).f2)
             ·rw [if_pos c42] at H
              have c42b0:(((rd_T56 l0_0 x5_4).f2) == ((rd_T56 l0_0 x3_2).f2))=true:=beq_iff_eq.mpr c42
              have c42b1:(((rd_T56 l0_0 x5_4).f2) != ((rd_T56 l0_0 x3_2).f2))=false:=bne_eq_false_iff_eq.mpr c42
              clear c42
              obtain rfl:=Option.some.inj H
              try go_wp2
              replace BK142:=Aside0.mk (blk_drew BK142.out)
              replace BK145:=Aside0.mk (blk_drew BK145.out)
              replace HB:=Aside0.mk (below_drew1 HB.out)
              have p151:0≤(x5_4:Int):=od
              have q151:x5_4 < (l0_0.length:Int):=od
              obtain ⟨ad151,e151,hx151_0,hx151_1,hx151_2⟩:=at_T56 HR0_0.out x5_4 p151 q151
              have hw151_2:=hx151_2
              have hw151_1:=hx151_1
              have hw151_0:=hx151_0
              obtain rfl:ad144=ad151:=(by injection e151)
              replace hx151_0:=cl HB hx151_0
              replace hx151_1:=cl HB hx151_1
              replace hx151_2:=cl HB hx151_2
              replace p151:=eq_true p151
              replace q151:=eq_true q151
              refine start_ (n:=20) (S:=fun w'=>w'.cell? ⟨gb142,0,none⟩=some (.slice (some ad144) l0_0.length c0_0)∧w'.cell? ⟨gb142,1,none⟩=some (.int .i64 a0_1)∧w'.cell? ⟨gb145,0,none⟩=some (.int .i64 ((rd_T56 l0_0 x3_2).f0))∧w'.cell? ⟨gb145,1,none⟩=some (.int .i64 ((rd_T56 l0_0 x3_2).f1))∧w'.cell? ⟨gb145,2,none⟩=some (.int .i64 ((rd_T56 l0_0 x3_2).f2))∧w'.cell? (ad144.add ((x5_4).toNat * 3))=some (.int .i64 ((rd_T56 l0_0 x5_4).f0))∧w'.cell? ⟨(ad144.add ((x5_4).toNat * 3)).block,(ad144.add ((x5_4).toNat * 3)).off + 1,none⟩=some (.int .i64 ((rd_T56 l0_0 x5_4).f1))∧w'.cell? ⟨(ad144.add ((x5_4).toNat * 3)).block,(ad144.add ((x5_4).toNat * 3)).off + 2,none⟩=some (.int .i64 ((rd_T56 l0_0 x5_4).f2))) (ds:=[]) (bs 20 0) (by kernel_rfl) rfl rfl ⟨bc BK142 0,bc BK142 1,bc BK145 0,bc BK145 1,bc BK145 2,(cl HB hw151_0),(cl HB hw151_1),(cl HB hw151_2)⟩ (fun hHeld=>?_);refine with_tabW spec_HeapOk.tab12 spec_HeapOk.bits12 (fun HT_ HW_=>?_)
              generalize wr.drew=w43 at BK142 BK145 HB hx151_0 hx151_1 hx151_2 hHeld ⊢
              refine pq 0 66 (bs 20 1) HT_ ?_
              refine pq 2 68 (bs 20 5) HT_ ?_
              refine pq 6 72 (bs 20 69) HT_ ?_
              refine tq 1 67 (bs 20 71) HT_ HW_ hHeld ?_
              refine pq 3 69 (bs 20 79) HT_ ?_
              refine pq 4 70 (bs 20 95) HT_ ?_
              refine tq 5 71 (bs 20 127) HT_ HW_ hHeld ?_
              refine tq 7 73 (bs 20 255) HT_ HW_ hHeld ?_
              refine pq 8 74 (bs 20 511) HT_ ?_
              refine pq 9 75 (bs 20 1023) HT_ ?_
              refine uq 10 76 (bs 20 2047) HT_ ?_
              refine uq 11 77 (bs 20 4095) HT_ ?_
              refine uq 12 78 (bs 20 8191) HT_ ?_
              refine uq 13 79 (bs 20 16383) HT_ ?_
              refine uq 14 80 (bs 20 32767) HT_ ?_
              refine uq 15 81 (bs 20 65535) HT_ ?_
              refine uq 16 82 (bs 20 131071) HT_ ?_
              refine uq 17 83 (bs 20 262143) HT_ ?_
              refine uq 18 84 (bs 20 524287) HT_ ?_
              refine pq 19 85 (bs 20 1048575) HT_ ?_
              refine done_ (done_of HT_.out (by kernel_rfl)) ?_
              try go_wp2
              go_ret
              exact ⟨er,bl⟩
             ·rw [if_neg c42] at H
              have c42b0:(((rd_T56 l0_0 x5_4).f2) == ((rd_T56 l0_0 x3_2).f2))=false:=beq_eq_false_iff_ne.mpr c42
              have c42b1:(((rd_T56 l0_0 x5_4).f2) != ((rd_T56 l0_0 x3_2).f2))=true:=bne_iff_ne.mpr c42
              by_cases c44:((rd_T56 l0_0 x5_4).f1)=((rd_T56 l0_0 x3_2).f1)
              ·rw [if_pos c44] at H
               have c44b0:(((rd_T56 l0_0 x5_4).f1) == ((rd_T56 l0_0 x3_2).f1))=true:=beq_iff_eq.mpr c44
               have c44b1:(((rd_T56 l0_0 x5_4).f1) != ((rd_T56 l0_0 x3_2).f1))=false:=bne_eq_false_iff_eq.mpr c44
               clear c44
               obtain rfl:=Option.some.inj H
               try go_wp2
               replace BK142:=Aside0.mk (blk_drew BK142.out)
               replace BK145:=Aside0.mk (blk_drew BK145.out)
               replace HB:=Aside0.mk (below_drew1 HB.out)
               have p151:0≤(x5_4:Int):=od
               have q151:x5_4 < (l0_0.length:Int):=od
               obtain ⟨ad151,e151,hx151_0,hx151_1,hx151_2⟩:=at_T56 HR0_0.out x5_4 p151 q151
               have hw151_2:=hx151_2
               have hw151_1:=hx151_1
               have hw151_0:=hx151_0
               obtain rfl:ad144=ad151:=(by injection e151)
               replace hx151_0:=cl HB hx151_0
               replace hx151_1:=cl HB hx151_1
               replace hx151_2:=cl HB hx151_2
               replace p151:=eq_true p151
               replace q151:=eq_true q151
               have p152:0≤(x5_4:Int):=od
               have q152:x5_4 < (l0_0.length:Int):=od
               obtain ⟨ad152,e152,hx152_0,hx152_1,hx152_2⟩:=at_T56 HR0_0.out x5_4 p152 q152
               have hw152_2:=hx152_2
               have hw152_1:=hx152_1
               have hw152_0:=hx152_0
               obtain rfl:ad144=ad152:=(by injection e152)
               replace hx152_0:=cl HB hx152_0
               replace hx152_1:=cl HB hx152_1
               replace hx152_2:=cl HB hx152_2
               replace p152:=eq_true p152
               replace q152:=eq_true q152
               refine start_ (n:=20) (S:=fun w'=>w'.cell? ⟨gb142,0,none⟩=some (.slice (some ad144) l0_0.length c0_0)∧w'.cell? ⟨gb142,1,none⟩=some (.int .i64 a0_1)∧w'.cell? ⟨gb145,0,none⟩=some (.int .i64 ((rd_T56 l0_0 x3_2).f0))∧w'.cell? ⟨gb145,1,none⟩=some (.int .i64 ((rd_T56 l0_0 x3_2).f1))∧w'.cell? ⟨gb145,2,none⟩=some (.int .i64 ((rd_T56 l0_0 x3_2).f2))∧w'.cell? (ad144.add ((x5_4).toNat * 3))=some (.int .i64 ((rd_T56 l0_0 x5_4).f0))∧w'.cell? ⟨(ad144.add ((x5_4).toNat * 3)).block,(ad144.add ((x5_4).toNat * 3)).off + 1,none⟩=some (.int .i64 ((rd_T56 l0_0 x5_4).f1))∧w'.cell? ⟨(ad144.add ((x5_4).toNat * 3)).block,(ad144.add ((x5_4).toNat * 3)).off + 2,none⟩=some (.int .i64 ((rd_T56 l0_0 x5_4).f2))∧w'.cell? (ad144.add ((x5_4).toNat * 3))=some (.int .i64 ((rd_T56 l0_0 x5_4).f0))∧w'.cell? ⟨(ad144.add ((x5_4).toNat * 3)).block,(ad144.add ((x5_4).toNat * 3)).off + 1,none⟩=some (.int .i64 ((rd_T56 l0_0 x5_4).f1))∧w'.cell? ⟨(ad144.add ((x5_4).toNat * 3)).block,(ad144.add ((x5_4).toNat * 3)).off + 2,none⟩=some (.int .i64 ((rd_T56 l0_0 x5_4).f2))) (ds:=[]) (bs 20 0) (by kernel_rfl) rfl rfl ⟨bc BK142 0,bc BK142 1,bc BK145 0,bc BK145 1,bc BK145 2,(cl HB hw151_0),(cl HB hw151_1),(cl HB hw151_2),(cl HB hw152_0),(cl HB hw152_1),(cl HB hw152_2)⟩ (fun hHeld=>?_);refine with_tabW spec_HeapOk.tab12 spec_HeapOk.bits12 (fun HT_ HW_=>?_)
               generalize wr.drew=w45 at BK142 BK145 HB hx151_0 hx151_1 hx151_2 hx152_0 hx152_1 hx152_2 hHeld ⊢
               refine pq 0 66 (bs 20 1) HT_ ?_
               refine pq 2 68 (bs 20 5) HT_ ?_
               refine pq 6 72 (bs 20 69) HT_ ?_
               refine tq 1 67 (bs 20 71) HT_ HW_ hHeld ?_
               refine pq 3 69 (bs 20 79) HT_ ?_
               refine pq 4 70 (bs 20 95) HT_ ?_
               refine tq 5 71 (bs 20 127) HT_ HW_ hHeld ?_
               refine tq 7 73 (bs 20 255) HT_ HW_ hHeld ?_
               refine pq 8 74 (bs 20 511) HT_ ?_
               refine pq 9 75 (bs 20 1023) HT_ ?_
               refine pq 10 76 (bs 20 2047) HT_ ?_
               refine pq 12 78 (bs 20 6143) HT_ ?_
               refine pq 16 82 (bs 20 71679) HT_ ?_
               refine tq 11 77 (bs 20 73727) HT_ HW_ hHeld ?_
               refine pq 13 79 (bs 20 81919) HT_ ?_
               refine pq 14 80 (bs 20 98303) HT_ ?_
               refine tq 15 81 (bs 20 131071) HT_ HW_ hHeld ?_
               refine tq 17 83 (bs 20 262143) HT_ HW_ hHeld ?_
               refine pq 18 84 (bs 20 524287) HT_ ?_
               refine pq 19 85 (bs 20 1048575) HT_ ?_
               refine done_ (done_of HT_.out (by kernel_rfl)) ?_
               try go_wp2
               go_ret
               exact ⟨er,bl⟩
              ·rw [if_neg c44] at H
               have c44b0:(((rd_T56 l0_0 x5_4).f1) == ((rd_T56 l0_0 x3_2).f1))=false:=beq_eq_false_iff_ne.mpr c44
               have c44b1:(((rd_T56 l0_0 x5_4).f1) != ((rd_T56 l0_0 x3_2).f1))=true:=bne_iff_ne.mpr c44
               have H':=Aside0.mk H
               clear H
               try go_wp2
               replace BK142:=Aside0.mk (blk_drew BK142.out)
               replace BK145:=Aside0.mk (blk_drew BK145.out)
               replace HB:=Aside0.mk (below_drew1 HB.out)
               have p151:0≤(x5_4:Int):=od
               have q151:x5_4 < (l0_0.length:Int):=od
               obtain ⟨ad151,e151,hx151_0,hx151_1,hx151_2⟩:=at_T56 HR0_0.out x5_4 p151 q151
               have hw151_2:=hx151_2
               have hw151_1:=hx151_1
               have hw151_0:=hx151_0
               obtain rfl:ad144=ad151:=(by injection e151)
               replace hx151_0:=cl HB hx151_0
               replace hx151_1:=cl HB hx151_1
               replace hx151_2:=cl HB hx151_2
               replace p151:=eq_true p151
               replace q151:=eq_true q151
               have p152:0≤(x5_4:Int):=od
               have q152:x5_4 < (l0_0.length:Int):=od
               obtain ⟨ad152,e152,hx152_0,hx152_1,hx152_2⟩:=at_T56 HR0_0.out x5_4 p152 q152
               have hw152_2:=hx152_2
               have hw152_1:=hx152_1
               have hw152_0:=hx152_0
               obtain rfl:ad144=ad152:=(by injection e152)
               replace hx152_0:=cl HB hx152_0
               replace hx152_1:=cl HB hx152_1
               replace hx152_2:=cl HB hx152_2
               replace p152:=eq_true p152
               replace q152:=eq_true q152
               refine start_ (n:=20) (S:=fun w'=>w'.cell? ⟨gb142,0,none⟩=some (.slice (some ad144) l0_0.length c0_0)∧w'.cell? ⟨gb142,1,none⟩=some (.int .i64 a0_1)∧w'.cell? ⟨gb145,0,none⟩=some (.int .i64 ((rd_T56 l0_0 x3_2).f0))∧w'.cell? ⟨gb145,1,none⟩=some (.int .i64 ((rd_T56 l0_0 x3_2).f1))∧w'.cell? ⟨gb145,2,none⟩=some (.int .i64 ((rd_T56 l0_0 x3_2).f2))∧w'.cell? (ad144.add ((x5_4).toNat * 3))=some (.int .i64 ((rd_T56 l0_0 x5_4).f0))∧w'.cell? ⟨(ad144.add ((x5_4).toNat * 3)).block,(ad144.add ((x5_4).toNat * 3)).off + 1,none⟩=some (.int .i64 ((rd_T56 l0_0 x5_4).f1))∧w'.cell? ⟨(ad144.add ((x5_4).toNat * 3)).block,(ad144.add ((x5_4).toNat * 3)).off + 2,none⟩=some (.int .i64 ((rd_T56 l0_0 x5_4).f2))∧w'.cell? (ad144.add ((x5_4).toNat * 3))=some (.int .i64 ((rd_T56 l0_0 x5_4).f0))∧w'.cell? ⟨(ad144.add ((x5_4).toNat * 3)).block,(ad144.add ((x5_4).toNat * 3)).off + 1,none⟩=some (.int .i64 ((rd_T56 l0_0 x5_4).f1))∧w'.cell? ⟨(ad144.add ((x5_4).toNat * 3)).block,(ad144.add ((x5_4).toNat * 3)).off + 2,none⟩=some (.int .i64 ((rd_T56 l0_0 x5_4).f2))) (ds:=[]) (bs 20 0) (by kernel_rfl) rfl rfl ⟨bc BK142 0,bc BK142 1,bc BK145 0,bc BK145 1,bc BK145 2,(cl HB hw151_0),(cl HB hw151_1),(cl HB hw151_2),(cl HB hw152_0),(cl HB hw152_1),(cl HB hw152_2)⟩ (fun hHeld=>?_);refine with_tabW spec_HeapOk.tab12 spec_HeapOk.bits12 (fun HT_ HW_=>?_)
               generalize wr.drew=w46 at BK142 BK145 HB hx151_0 hx151_1 hx151_2 hx152_0 hx152_1 hx152_2 hHeld ⊢
               refine pq 0 66 (bs 20 1) HT_ ?_
               refine pq 2 68 (bs 20 5) HT_ ?_
               refine pq 6 72 (bs 20 69) HT_ ?_
               refine tq 1 67 (bs 20 71) HT_ HW_ hHeld ?_
               refine pq 3 69 (bs 20 79) HT_ ?_
               refine pq 4 70 (bs 20 95) HT_ ?_
               refine tq 5 71 (bs 20 127) HT_ HW_ hHeld ?_
               refine tq 7 73 (bs 20 255) HT_ HW_ hHeld ?_
               refine pq 8 74 (bs 20 511) HT_ ?_
               refine pq 9 75 (bs 20 1023) HT_ ?_
               refine pq 10 76 (bs 20 2047) HT_ ?_
               refine pq 12 78 (bs 20 6143) HT_ ?_
               refine pq 16 82 (bs 20 71679) HT_ ?_
               refine tq 11 77 (bs 20 73727) HT_ HW_ hHeld ?_
               refine pq 13 79 (bs 20 81919) HT_ ?_
               refine pq 14 80 (bs 20 98303) HT_ ?_
               refine tq 15 81 (bs 20 131071) HT_ HW_ hHeld ?_
               refine tq 17 83 (bs 20 262143) HT_ HW_ hHeld ?_
               refine pq 18 84 (bs 20 524287) HT_ ?_
               refine pq 19 85 (bs 20 1048575) HT_ ?_
               refine done_ (done_of HT_.out (by kernel_rfl)) ?_
               try go_wp2
               go_roundg k4
               case measure=>have:=HJ1.out;have:=HK2.out;have:=HJ10.out;have:=HK4.out;omega
               case rel=>exact ⟨(wrap64 (x5_4 + 1)),(by first|rfl|(simp;done)|(simp [*];done)),H',⟨by have:=HJ1.out;have:=HK2.out;have:=HJ10.out;have:=HK4.out;omega⟩,⟨bk BK142⟩,⟨bk BK145⟩,⟨bl⟩⟩
            ·rw [if_neg c39] at H
             have c39b0:decide (x5_4 < x3_2)=false:=decide_eq_false c39
             clear c39
             have H':=Aside0.mk H
             clear H
             go_wp2
             go_roundg k4
             case measure=>have:=HJ1.out;have:=HK2.out;have:=HJ10.out;have:=HK4.out;omega
             case rel=>exact ⟨(wrap64 (x3_2 + 1)),(by first|rfl|(simp;done)|(simp [*];done)),H',⟨by have:=HJ1.out;have:=HK2.out;have:=HJ10.out;have:=HK4.out;omega⟩,⟨bk BK142⟩,⟨bl⟩⟩
      ·rw [if_neg c9] at H
       have c9b0:decide (x3_2 < (l0_0.length:Int))=false:=decide_eq_false c9
       clear c9
       obtain rfl:=Option.some.inj H
       obtain ⟨hcz47_0,hcz47_1,hfz47_0,hfz47_1⟩:=ck2 BK142.out
       go_wp2
       go_ret
       exact ⟨er,bl⟩

end Go.Proofs.Ytdffkcbaijbhoaa.PFnExactSchedule
