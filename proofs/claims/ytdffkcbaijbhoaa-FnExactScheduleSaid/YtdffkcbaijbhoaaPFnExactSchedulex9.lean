/- Contracts of functions of the given program: what each call answers. Written by a program of this session, out of the text of the functions. -/
import Derived.Test.YtdffkcbaijbhoaaPFnExactSchedulex0
import Derived.Test.YtdffkcbaijbhoaaPFnExactSchedulex8
import Derived.Test.YtdffkcbaijbhoaaPrs
namespace Go.Proofs.Ytdffkcbaijbhoaa.PFnExactSchedule
open Go.RowKit Go.Proofs.YtdffkcbaijbhoaaW.PrintWords Go.Proofs.YtdffkcbaijbhoaaW.PrintLast Go.Proofs.YtdffkcbaijbhoaaW.PrintMore Go.Proofs.Ytdffkcbaijbhoaa.Giv Go.Proofs.Ytdffkcbaijbhoaa.Prs
attribute [local go_sem] max2_int min2_int max_two min_two max_three min_three max_four min_four   -- for this text's walks alone
set_option linter.unusedVariables false
set_option linter.unusedSimpArgs false

/-! ### impl_HeapOk: function 46 -/
mutual
def impl_HeapOk.j0:Nat→Bool→List (S56)→Int→Option (Bool)
 | 0,_,_,_=>none
 | k + 1,x16,x257000,x257001=>if x16=true then (some false) else (impl_HeapOk.l0 k x257000 (x257000.length:Int) 0 x257000 x257001)
def impl_HeapOk.l0:Nat→List (S56)→Int→Int→List (S56)→Int→Option (Bool)
 | 0,_,_,_,_,_=>none
 | k + 1,x18,x19,x20,x257000,x257001=>if x20 < x19 then (if 0≤x20 then (if x20 < (x18.length:Int) then ((impl_TickOk.f ((rd_T56 x18 x20).f0)).bind fun t260=>(if t260=true then ((impl_in.f ((rd_T56 x18 x20).f1) 1 x257001).bind fun t261=>(if t261=true then ((impl_isId.f ((rd_T56 x18 x20).f2)).bind fun t262=>(if t262=true then (if x20 > 0 then (if 0≤(wrap64 (Int.tdiv (wrap64 (x20 - 1)) 2)) then (if (wrap64 (Int.tdiv (wrap64 (x20 - 1)) 2)) < (x257000.length:Int) then ((impl_Due_before.f k ((rd_T56 x18 x20).f0) ((rd_T56 x18 x20).f1) ((rd_T56 x18 x20).f2) ((rd_T56 x257000 (wrap64 (Int.tdiv (wrap64 (x20 - 1)) 2))).f0) ((rd_T56 x257000 (wrap64 (Int.tdiv (wrap64 (x20 - 1)) 2))).f1) ((rd_T56 x257000 (wrap64 (Int.tdiv (wrap64 (x20 - 1)) 2))).f2)).bind fun t264=>(impl_HeapOk.j2 k x20 x18 x19 x20 t264 x257000 x257001 ((rd_T56 x18 x20).f0) ((rd_T56 x18 x20).f1) ((rd_T56 x18 x20).f2))) else (none)) else (none)) else (impl_HeapOk.j2 k x20 x18 x19 x20 false x257000 x257001 ((rd_T56 x18 x20).f0) ((rd_T56 x18 x20).f1) ((rd_T56 x18 x20).f2))) else (impl_HeapOk.j2 k x20 x18 x19 x20 true x257000 x257001 ((rd_T56 x18 x20).f0) ((rd_T56 x18 x20).f1) ((rd_T56 x18 x20).f2)))) else (impl_HeapOk.j2 k x20 x18 x19 x20 true x257000 x257001 ((rd_T56 x18 x20).f0) ((rd_T56 x18 x20).f1) ((rd_T56 x18 x20).f2)))) else (impl_HeapOk.j2 k x20 x18 x19 x20 true x257000 x257001 ((rd_T56 x18 x20).f0) ((rd_T56 x18 x20).f1) ((rd_T56 x18 x20).f2)))) else (none)) else (none)) else (some true)
def impl_HeapOk.j2:Nat→Int→List (S56)→Int→Int→Bool→List (S56)→Int→Int→Int→Int→Option (Bool)
 | 0,_,_,_,_,_,_,_,_,_,_=>none
 | k + 1,x3,x18,x19,x20,x57,x257000,x257001,x260000,x260001,x260002=>if x57=true then (some false) else (if 0≤x3 then (if x3≤(x257000.length:Int) then ((some (x257000.take (x3:Int).toNat:List (S56))).bind fun y265=>(impl_HeapOk.l1 k x18 x19 x20 y265 (y265.length:Int) 0 x257000 x257001 x260000 x260001 x260002)) else (none)) else (none))
def impl_HeapOk.l1:Nat→List (S56)→Int→Int→List (S56)→Int→Int→List (S56)→Int→Int→Int→Int→Option (Bool)
 | 0,_,_,_,_,_,_,_,_,_,_,_=>none
 | k + 1,x18,x19,x20,x61,x62,x63,x257000,x257001,x260000,x260001,x260002=>if x63 < x62 then (if 0≤x63 then (if x63 < (x61.length:Int) then (if ((rd_T56 x61 x63).f1)=x260001 then (some false) else (if ((rd_T56 x61 x63).f2)=x260002 then (some false) else (impl_HeapOk.l1 k x18 x19 x20 x61 x62 (wrap64 (x63 + 1)) x257000 x257001 x260000 x260001 x260002))) else (none)) else (none)) else (impl_HeapOk.l0 k x18 x19 (wrap64 (x20 + 1)) x257000 x257001)
end
def impl_HeapOk.f (k:Nat) (l0_0:List (S56)) (a0_1:Int):Option (Bool):=if (l0_0.length:Int) > 100 then (impl_HeapOk.j0 k true l0_0 a0_1) else ((impl_TickOk.f a0_1).bind fun t257=>(impl_HeapOk.j0 k (!t257) l0_0 a0_1))
theorem impl_HeapOk.mono_l:∀ k,(∀ y0 y1 y2,LeO (impl_HeapOk.j0 k y0 y1 y2) (impl_HeapOk.j0 (k + 1) y0 y1 y2))∧(∀ y0 y1 y2 y3 y4,LeO (impl_HeapOk.l0 k y0 y1 y2 y3 y4) (impl_HeapOk.l0 (k + 1) y0 y1 y2 y3 y4))∧(∀ y0 y1 y2 y3 y4 y5 y6 y7 y8 y9,LeO (impl_HeapOk.j2 k y0 y1 y2 y3 y4 y5 y6 y7 y8 y9) (impl_HeapOk.j2 (k + 1) y0 y1 y2 y3 y4 y5 y6 y7 y8 y9))∧(∀ y0 y1 y2 y3 y4 y5 y6 y7 y8 y9 y10,LeO (impl_HeapOk.l1 k y0 y1 y2 y3 y4 y5 y6 y7 y8 y9 y10) (impl_HeapOk.l1 (k + 1) y0 y1 y2 y3 y4 y5 y6 y7 y8 y9 y10))
 | 0=>⟨fun _ _ _ r h=>by simp [impl_HeapOk.j0] at h,fun _ _ _ _ _ r h=>by simp [impl_HeapOk.l0] at h,fun _ _ _ _ _ _ _ _ _ _ r h=>by simp [impl_HeapOk.j2] at h,fun _ _ _ _ _ _ _ _ _ _ _ r h=>by simp [impl_HeapOk.l1] at h⟩
 | k + 1=>by
  obtain ⟨ih0,ih1,ih2,ih3⟩:=impl_HeapOk.mono_l k
  refine ⟨?_,?_,?_,?_⟩
  ·intro y0 y1 y2
   unfold impl_HeapOk.j0
   repeat' first
   | (with_reducible exact ih0 _ _ _)
   | (with_reducible exact ih1 _ _ _ _ _)
   | (with_reducible exact ih2 _ _ _ _ _ _ _ _ _ _)
   | (with_reducible exact ih3 _ _ _ _ _ _ _ _ _ _ _)
   | (with_reducible exact impl_Due_before.mono _ _ _ _ _ _ _)
   | (with_reducible exact LeO.refl _)
   | (with_reducible exact LeO.none _)
   | (with_reducible refine LeO.ite ?_ ?_)
   | (with_reducible refine LeO.bind ?_ (fun _=>?_))
   | exact ih0 _ _ _
   | exact ih1 _ _ _ _ _
   | exact ih2 _ _ _ _ _ _ _ _ _ _
   | exact ih3 _ _ _ _ _ _ _ _ _ _ _
   | exact impl_Due_before.mono _ _ _ _ _ _ _
   | exact LeO.none _
   | refine LeO.ite ?_ ?_
   | refine LeO.bind ?_ (fun _=>?_)
  ·intro y0 y1 y2 y3 y4
   unfold impl_HeapOk.l0
   repeat' first
   | (with_reducible exact ih0 _ _ _)
   | (with_reducible exact ih1 _ _ _ _ _)
   | (with_reducible exact ih2 _ _ _ _ _ _ _ _ _ _)
   | (with_reducible exact ih3 _ _ _ _ _ _ _ _ _ _ _)
   | (with_reducible exact impl_Due_before.mono _ _ _ _ _ _ _)
   | (with_reducible exact LeO.refl _)
   | (with_reducible exact LeO.none _)
   | (with_reducible refine LeO.ite ?_ ?_)
   | (with_reducible refine LeO.bind ?_ (fun _=>?_))
   | exact ih0 _ _ _
   | exact ih1 _ _ _ _ _
   | exact ih2 _ _ _ _ _ _ _ _ _ _
   | exact ih3 _ _ _ _ _ _ _ _ _ _ _
   | exact impl_Due_before.mono _ _ _ _ _ _ _
   | exact LeO.none _
   | refine LeO.ite ?_ ?_
   | refine LeO.bind ?_ (fun _=>?_)
  ·intro y0 y1 y2 y3 y4 y5 y6 y7 y8 y9
   unfold impl_HeapOk.j2
   repeat' first
   | (with_reducible exact ih0 _ _ _)
   | (with_reducible exact ih1 _ _ _ _ _)
   | (with_reducible exact ih2 _ _ _ _ _ _ _ _ _ _)
   | (with_reducible exact ih3 _ _ _ _ _ _ _ _ _ _ _)
   | (with_reducible exact impl_Due_before.mono _ _ _ _ _ _ _)
   | (with_reducible exact LeO.refl _)
   | (with_reducible exact LeO.none _)
   | (with_reducible refine LeO.ite ?_ ?_)
   | (with_reducible refine LeO.bind ?_ (fun _=>?_))
   | exact ih0 _ _ _
   | exact ih1 _ _ _ _ _
   | exact ih2 _ _ _ _ _ _ _ _ _ _
   | exact ih3 _ _ _ _ _ _ _ _ _ _ _
   | exact impl_Due_before.mono _ _ _ _ _ _ _
   | exact LeO.none _
   | refine LeO.ite ?_ ?_
   | refine LeO.bind ?_ (fun _=>?_)
  ·intro y0 y1 y2 y3 y4 y5 y6 y7 y8 y9 y10
   unfold impl_HeapOk.l1
   repeat' first
   | (with_reducible exact ih0 _ _ _)
   | (with_reducible exact ih1 _ _ _ _ _)
   | (with_reducible exact ih2 _ _ _ _ _ _ _ _ _ _)
   | (with_reducible exact ih3 _ _ _ _ _ _ _ _ _ _ _)
   | (with_reducible exact impl_Due_before.mono _ _ _ _ _ _ _)
   | (with_reducible exact LeO.refl _)
   | (with_reducible exact LeO.none _)
   | (with_reducible refine LeO.ite ?_ ?_)
   | (with_reducible refine LeO.bind ?_ (fun _=>?_))
   | exact ih0 _ _ _
   | exact ih1 _ _ _ _ _
   | exact ih2 _ _ _ _ _ _ _ _ _ _
   | exact ih3 _ _ _ _ _ _ _ _ _ _ _
   | exact impl_Due_before.mono _ _ _ _ _ _ _
   | exact LeO.none _
   | refine LeO.ite ?_ ?_
   | refine LeO.bind ?_ (fun _=>?_)
theorem impl_HeapOk.mono:∀ a0 a1 k,LeO (impl_HeapOk.f k a0 a1) (impl_HeapOk.f (k + 1) a0 a1):=by
 intro a0 a1 k
 obtain ⟨ih0,ih1,ih2,ih3⟩:=impl_HeapOk.mono_l k
 unfold impl_HeapOk.f
 repeat' first
   | (with_reducible exact ih0 _ _ _)
   | (with_reducible exact ih1 _ _ _ _ _)
   | (with_reducible exact ih2 _ _ _ _ _ _ _ _ _ _)
   | (with_reducible exact ih3 _ _ _ _ _ _ _ _ _ _ _)
   | (with_reducible exact impl_Due_before.mono _ _ _ _ _ _ _)
   | (with_reducible exact LeO.refl _)
   | (with_reducible exact LeO.none _)
   | (with_reducible refine LeO.ite ?_ ?_)
   | (with_reducible refine LeO.bind ?_ (fun _=>?_))
   | exact ih0 _ _ _
   | exact ih1 _ _ _ _ _
   | exact ih2 _ _ _ _ _ _ _ _ _ _
   | exact ih3 _ _ _ _ _ _ _ _ _ _ _
   | exact impl_Due_before.mono _ _ _ _ _ _ _
   | exact LeO.none _
   | refine LeO.ite ?_ ?_
   | refine LeO.bind ?_ (fun _=>?_)
def impl_HeapOk.T6:Bool × List (List Nat × List Nat):=(true,[([],[]),([0],[0]),([1],[1]),([2],[2]),([3,2],[3]),([4],[4]),([5,4],[4,5]),([4],[4]),([7,4],[4,7]),([6,8,4,4],[4,6,8]),([9,4],[4,9]),([4,10],[4,10]),([11,9],[11]),([12],[12]),([13,12],[12,13]),([14,12,12],[12,14]),([15,12],[12,15]),([12,16],[12,16]),([17,15],[17]),([18],[18]),([19,18],[18,19]),([20,18,18],[18,20]),([21],[21]),([21],[21]),([23,21],[21,23]),([21],[21]),([25,21],[21,25]),([26,21],[21,26]),([24,27,21],[21,24,27]),([28,21],[21,28]),([22,29,21,21],[21,22,29]),([21,30,18],[18,21,30]),([18,31],[18,31])])
def impl_HeapOk.B6:List Nat:=[0,1,3,7,15,31,63,31,159,511,1023,2047,4095,8191,16383,32767,65535,131071,262143,524287,1048575,2097151,4194303,4194303,12582911,4194303,37748735,104857599,264241151,532676607,1073741823,2147483647,4294967295]
theorem impl_HeapOk.tab6:rtab .any (opsOf Try.f46 6)=impl_HeapOk.T6:=by kernel_rfl
theorem impl_HeapOk.bits6:waitsOk impl_HeapOk.T6.2 impl_HeapOk.B6=true:=by kernel_rfl
set_option maxHeartbeats 8000000 in
set_option maxRecDepth 100000 in
theorem impl_HeapOk.calls (k:Nat) (A0_0:Option Addr) (c0_0:Nat) (l0_0:List (S56)) (a0_1:Int) (r:Bool) (w:World) (hr0_0:Kd.C k56 w A0_0 l0_0.length l0_0) (hc0_0:l0_0.length≤c0_0) (h:impl_HeapOk.f k l0_0 a0_1=some r) :
  Calls Try.prog 46 #[.agg #[.slice A0_0 l0_0.length c0_0,.int .i64 a0_1]] w fun e w'=>e = .returned (.bool r)∧Below w.heap.size w w':=by
 have hu28:=Try.underlying28
 have hu56:=Try.underlying56
 have HR0_0:=Aside0.mk hr0_0
 have HC0_0:=Aside0.mk hc0_0
 clear hr0_0 hc0_0
 have HB:=Aside0.mk (Below.refl w.heap.size w)
 have H:(if (l0_0.length:Int) > 100 then (impl_HeapOk.j0 k true l0_0 a0_1) else ((impl_TickOk.f a0_1).bind fun t257=>(impl_HeapOk.j0 k (!t257) l0_0 a0_1)))=some r:=h
 clear h
 have HC2:=Aside0.mk H
 clear H
 go_enter Try.func46,Try.ntmps46
 go_upto_region 1 with (first|((with_reducible refine gate_dst (N:=1) rfl ?_);refine bx 1 #[.slice A0_0 l0_0.length c0_0,.int .i64 a0_1] 28 ?_;intro gb256 hg w3 hbox hb;have BK256:=Aside0.mk (hbox);have GW256:=Aside0.mk (bz hg:w.heap.size≤gb256);have GE256:=GW256;replace HB:=Aside0.mk (below_step bl hb);clear hb hbox hg))
 (try simp only [Act.put,List.setIfInBounds_toArray,List.set_cons_zero,List.set_cons_succ])
 go_cut [16] (fun v16 wc=>∃ (kq:Nat) (x16_1:Bool),v16 = .bool x16_1∧Aside0 (impl_HeapOk.j0 kq x16_1 l0_0 a0_1=some r)∧Aside0 (kq≤k)∧Aside0 (wc.heap[gb256]? = some (.cells #[(.slice A0_0 l0_0.length c0_0),.int .i64 a0_1] 28 (0,0)))∧Aside0 (Below w.heap.size w wc))
 case first =>
  have H:=HC2.out
  clear HC2
  by_cases c4:(l0_0.length:Int) > 100
  ·rw [if_pos c4] at H
   have c4b0:decide (100 < (l0_0.length:Int))=true:=decide_eq_true c4
   have c4b1:decide (100 < l0_0.length)=true:=decide_eq_true (by omega)
   clear c4
   (first|rw [c4b0]|(simp only [i64_w,i32_w];rw [c4b0])|skip)
   have H':=Aside0.mk H
   clear H
   obtain ⟨hcz5_0,hcz5_1,hfz5_0,hfz5_1⟩:=ck2 BK256.out
   go_wp2
   go_meet
   case rel=>exact ⟨_,(true),(by first|rfl|(simp;done)|(simp [*];done)),H',⟨by first|omega|exact Nat.le_refl _⟩,⟨bk BK256⟩,⟨bl⟩⟩
  ·rw [if_neg c4] at H
   have c4b0:decide (100 < (l0_0.length:Int))=false:=decide_eq_false c4
   have c4b1:decide (100 < l0_0.length)=false:=decide_eq_false (by omega)
   clear c4
   (first|rw [c4b0]|(simp only [i64_w,i32_w];rw [c4b0])|skip)
   replace H:=Option.bind_eq_some_iff.mp H
   obtain ⟨t257,A60,H⟩:=H
   have A6:=Aside0.mk A60
   clear A60
   have H':=Aside0.mk H
   clear H
   obtain ⟨hcz7_0,hcz7_1,hfz7_0,hfz7_1⟩:=ck2 BK256.out
   go_wp2_with (first|(go_at_call 53;(with_reducible refine (impl_TickOk.calls a0_1 t257 _ A6.out).mono ?_);rintro e w' ⟨rfl,⟨nd,rfl⟩⟩))
   go_meet
   case rel=>exact ⟨_,(!t257),(by first|rfl|(simp;done)|(simp [*];done)),H',⟨by first|omega|exact Nat.le_refl _⟩,⟨bk BK256⟩,⟨bl⟩⟩
 case rest =>
  clear HC2
  try clear p2
  try clear c4
  try clear c4b0
  try clear c4b1
  try clear hcz5_0
  try clear hcz5_1
  try clear hcz7_0
  try clear hcz7_1
  try clear hfz5_0
  try clear hfz5_1
  try clear hfz7_0
  try clear hfz7_1
  obtain ⟨kq,x16_1,rfl,HA,HJ1,BK256,HB⟩:=hcut
  cases kq with
  | zero=>exact absurd HA.out (by simp [impl_HeapOk.j0])
  | succ kj1 =>
   have H:=HA.out
   clear HA
   simp only [impl_HeapOk.j0] at H
   by_cases c8:x16_1=true
   ·subst c8
    rw [if_pos rfl] at H
    obtain rfl:=Option.some.inj H
    go_wp2
    go_ret
    exact ⟨er,bl⟩
   ·replace c8:=Bool.eq_false_iff.mpr c8
    subst c8
    rw [if_neg nft] at H
    have H':=Aside0.mk H
    clear H
    obtain ⟨hcz9_0,hcz9_1,hfz9_0,hfz9_1⟩:=ck2 BK256.out
    go_wp2
    go_loopg [20] kj1 (fun kq v20 w'=>∃ (x20_2:Int),v20 = .int .i64 x20_2∧Aside0 (impl_HeapOk.l0 kq l0_0 (l0_0.length:Int) x20_2 l0_0 a0_1=some r)∧Aside0 (kq≤kj1)∧Aside0 (w'.heap[gb256]? = some (.cells #[(.slice A0_0 l0_0.length c0_0),.int .i64 a0_1] 28 (0,0)))∧Aside0 (Below w.heap.size w w'))
    case atStart=>exact ⟨(0),(by first|rfl|(simp;done)|(simp [*];done)),H',⟨Nat.le_refl _⟩,⟨bk BK256⟩,⟨bl⟩⟩
    case round =>
     clear H'
     try clear p2
     try clear c4
     try clear c4b0
     try clear c4b1
     try clear c8
     try clear hcz5_0
     try clear hcz5_1
     try clear hcz7_0
     try clear hcz7_1
     try clear hcz9_0
     try clear hcz9_1
     try clear hfz5_0
     try clear hfz5_1
     try clear hfz7_0
     try clear hfz7_1
     try clear hfz9_0
     try clear hfz9_1
     try clear p2
     obtain ⟨x20_2,rfl,HA,HK2,BK256,HB⟩:=hrel
     cases gk with
     | zero=>exact absurd HA.out (by simp [impl_HeapOk.l0])
     | succ k2 =>
      have H:=HA.out
      clear HA
      simp only [impl_HeapOk.l0] at H
      by_cases c10:x20_2 < (l0_0.length:Int)
      ·rw [if_pos c10] at H
       have c10b0:decide (x20_2 < (l0_0.length:Int))=true:=decide_eq_true c10
       clear c10
       by_cases c11:0≤x20_2
       case neg =>
        rw [if_neg c11] at H
        exact absurd H (by simp)
       rw [if_pos c11] at H
       have c11b0:decide (0≤x20_2)=true:=decide_eq_true c11
       clear c11
       by_cases c12:x20_2 < (l0_0.length:Int)
       case neg =>
        rw [if_neg c12] at H
        exact absurd H (by simp)
       rw [if_pos c12] at H
       have c12b0:decide (x20_2 < (l0_0.length:Int))=true:=decide_eq_true c12
       clear c12
       have HC13:=Aside0.mk H
       clear H
       have p258:0≤(x20_2:Int):=od
       have q258:x20_2 < (l0_0.length:Int):=od
       obtain ⟨ad258,e258,hx258_0,hx258_1,hx258_2⟩:=at_T56 HR0_0.out x20_2 p258 q258
       cases e258
       replace hx258_0:=cl HB hx258_0
       replace hx258_1:=cl HB hx258_1
       replace hx258_2:=cl HB hx258_2
       replace p258:=eq_true p258
       replace q258:=eq_true q258
       go_upto_region 6 with (first|((with_reducible refine gate_dst (N:=4) rfl ?_);refine bx 4 #[.int .i64 0,.int .i64 0,.int .i64 0] 56 ?_;intro gb259 hg w14 hbox hb;have BK259:=Aside0.mk (hbox);have GW259:=Aside0.mk (bz hg:w.heap.size≤gb259);have GE259:=GW259;replace HB:=Aside0.mk (below_step bl hb);have NB256_259:=Aside0.mk (nl hg BK256:gb256≠gb259);have NB259_256:=Aside0.mk (nr hg BK256:gb259≠gb256);replace BK256:=Aside0.mk (blk_below (bk BK256) hb);clear hb hbox hg;have hnb15:=NB259_256.out;have hnc15:=NB256_259.out;obtain ⟨hcz16_0,hcz16_1,hcz16_2,hfz16_0,hfz16_1,hfz16_2⟩:=ck3 BK259.out))
       (try simp only [Act.put,List.setIfInBounds_toArray,List.set_cons_zero,List.set_cons_succ])
       go_cut [57] (fun v57 wc=>∃ (kq:Nat) (x57_12:Bool),v57 = .bool x57_12∧Aside0 (impl_HeapOk.j2 kq x20_2 l0_0 (l0_0.length:Int) x20_2 x57_12 l0_0 a0_1 ((rd_T56 l0_0 x20_2).f0) ((rd_T56 l0_0 x20_2).f1) ((rd_T56 l0_0 x20_2).f2)=some r)∧Aside0 (kq≤k2)∧Aside0 (wc.heap[gb256]? = some (.cells #[(.slice (some ad258) l0_0.length c0_0),.int .i64 a0_1] 28 (0,0)))∧Aside0 (wc.heap[gb259]? = some (.cells #[.int .i64 ((rd_T56 l0_0 x20_2).f0),.int .i64 ((rd_T56 l0_0 x20_2).f1),.int .i64 ((rd_T56 l0_0 x20_2).f2)] 56 (0,0)))∧Aside0 (Below w.heap.size w wc))
       case first =>
        have H:=HC13.out
        clear HC13
        replace H:=Option.bind_eq_some_iff.mp H
        obtain ⟨t260,A170,H⟩:=H
        have A17:=Aside0.mk A170
        clear A170
        by_cases c18:t260=true
        ·subst c18
         rw [if_pos rfl] at H
         replace H:=Option.bind_eq_some_iff.mp H
         obtain ⟨t261,A190,H⟩:=H
         have A19:=Aside0.mk A190
         clear A190
         by_cases c20:t261=true
         ·subst c20
          rw [if_pos rfl] at H
          replace H:=Option.bind_eq_some_iff.mp H
          obtain ⟨t262,A210,H⟩:=H
          have A21:=Aside0.mk A210
          clear A210
          by_cases c22:t262=true
          ·subst c22
           rw [if_pos rfl] at H
           by_cases c23:x20_2 > 0
           ·rw [if_pos c23] at H
            have c23b0:decide (0 < x20_2)=true:=decide_eq_true c23
            clear c23
            (first|rw [c23b0]|(simp only [i64_w,i32_w];rw [c23b0])|skip)
            obtain ⟨ji24,hji24⟩:∃ j_:Int,(wrap64 (Int.tdiv (wrap64 (x20_2 - 1)) 2))=j_:=⟨_,rfl⟩
            first|rw [hji24] at H|simp only [hji24] at H
            (try rw [hji24] at A17)
            (try rw [hji24] at A19)
            (try rw [hji24] at A21)
            have hji24w:(IntKind.i64.wrap (Int.tdiv (wrap64 (x20_2 - 1)) 2))=ji24:=(i64_w _).trans hji24
            by_cases c25:0≤(ji24)
            case neg =>
             rw [if_neg c25] at H
             exact absurd H (by simp)
            rw [if_pos c25] at H
            have c25b0:decide (0≤(ji24))=true:=decide_eq_true c25
            clear c25
            by_cases c26:(ji24) < (l0_0.length:Int)
            case neg =>
             rw [if_neg c26] at H
             exact absurd H (by simp)
            rw [if_pos c26] at H
            have c26b0:decide ((ji24) < (l0_0.length:Int))=true:=decide_eq_true c26
            clear c26
            replace H:=Option.bind_eq_some_iff.mp H
            obtain ⟨t264,A270,H⟩:=H
            have A27:=Aside0.mk A270
            clear A270
            have H':=Aside0.mk H
            clear H
            try go_wp2
            have n0_:Aside0 ((((w14.setCell ⟨gb259,0,none⟩ (.int .i64 ((rd_T56 l0_0 x20_2).f0))).setCell ⟨gb259,1,none⟩ (.int .i64 ((rd_T56 l0_0 x20_2).f1))).setCell ⟨gb259,2,none⟩ (.int .i64 ((rd_T56 l0_0 x20_2).f2))).heap[gb256]? = some (.cells #[.slice (some ad258) l0_0.length c0_0,.int .i64 a0_1] 28 (0,0))):=⟨bf BK256⟩
            have n1_:Aside0 ((((w14.setCell ⟨gb259,0,none⟩ (.int .i64 ((rd_T56 l0_0 x20_2).f0))).setCell ⟨gb259,1,none⟩ (.int .i64 ((rd_T56 l0_0 x20_2).f1))).setCell ⟨gb259,2,none⟩ (.int .i64 ((rd_T56 l0_0 x20_2).f2))).heap[gb259]? = some (.cells #[.int .i64 ((rd_T56 l0_0 x20_2).f0),.int .i64 ((rd_T56 l0_0 x20_2).f1),.int .i64 ((rd_T56 l0_0 x20_2).f2)] 56 (0,0))):=⟨by (with_reducible repeat (first|refine blk_drewN ?_ _|refine blk_drew ?_|refine blk_alloc ?_ _));refine blk_put (cs:=#[.int .i64 ((rd_T56 l0_0 x20_2).f0),.int .i64 ((rd_T56 l0_0 x20_2).f1),.int .i64 0]) ?_ 2 _ rfl;(with_reducible repeat (first|refine blk_drewN ?_ _|refine blk_drew ?_|refine blk_alloc ?_ _));refine blk_put (cs:=#[.int .i64 ((rd_T56 l0_0 x20_2).f0),.int .i64 0,.int .i64 0]) ?_ 1 _ rfl;(with_reducible repeat (first|refine blk_drewN ?_ _|refine blk_drew ?_|refine blk_alloc ?_ _));refine blk_put (cs:=#[.int .i64 0,.int .i64 0,.int .i64 0]) ?_ 0 _ rfl;(with_reducible repeat (first|refine blk_drewN ?_ _|refine blk_drew ?_|refine blk_alloc ?_ _));exact BK259.out⟩
            have n2_:Aside0 (Below w.heap.size w (((w14.setCell ⟨gb259,0,none⟩ (.int .i64 ((rd_T56 l0_0 x20_2).f0))).setCell ⟨gb259,1,none⟩ (.int .i64 ((rd_T56 l0_0 x20_2).f1))).setCell ⟨gb259,2,none⟩ (.int .i64 ((rd_T56 l0_0 x20_2).f2)))):=⟨bl⟩
            (try clear BK256)
            (try clear BK259)
            (try clear HB)
            generalize (((w14.setCell ⟨gb259,0,none⟩ (.int .i64 ((rd_T56 l0_0 x20_2).f0))).setCell ⟨gb259,1,none⟩ (.int .i64 ((rd_T56 l0_0 x20_2).f1))).setCell ⟨gb259,2,none⟩ (.int .i64 ((rd_T56 l0_0 x20_2).f2)))=w28 at n0_ n1_ n2_ ⊢
            have BK256:=n0_
            have BK259:=n1_
            have HB:=n2_
            clear n0_ n1_ n2_
            replace BK256:=Aside0.mk (blk_drew BK256.out)
            replace BK259:=Aside0.mk (blk_drew BK259.out)
            replace HB:=Aside0.mk (below_drew1 HB.out)
            have p263:0≤((ji24):Int):=od
            have q263:(ji24) < (l0_0.length:Int):=od
            obtain ⟨ad263,e263,hx263_0,hx263_1,hx263_2⟩:=at_T56 HR0_0.out (ji24) p263 q263
            have hw263_2:=hx263_2
            have hw263_1:=hx263_1
            have hw263_0:=hx263_0
            obtain rfl:ad258=ad263:=(by injection e263)
            replace hx263_0:=cl HB hx263_0
            replace hx263_1:=cl HB hx263_1
            replace hx263_2:=cl HB hx263_2
            replace p263:=eq_true p263
            replace q263:=eq_true q263
            refine start_ (n:=33) (S:=fun w'=>w'.cell? ⟨gb259,0,none⟩=some (.int .i64 ((rd_T56 l0_0 x20_2).f0))∧w'.cell? ⟨gb259,1,none⟩=some (.int .i64 ((rd_T56 l0_0 x20_2).f1))∧w'.cell? ⟨gb259,2,none⟩=some (.int .i64 ((rd_T56 l0_0 x20_2).f2))∧w'.cell? ⟨gb256,0,none⟩=some (.slice (some ad258) l0_0.length c0_0)∧w'.cell? ⟨gb256,1,none⟩=some (.int .i64 a0_1)∧w'.cell? (ad258.add (((ji24)).toNat * 3))=some (.int .i64 ((rd_T56 l0_0 (ji24)).f0))∧w'.cell? ⟨(ad258.add (((ji24)).toNat * 3)).block,(ad258.add (((ji24)).toNat * 3)).off + 1,none⟩=some (.int .i64 ((rd_T56 l0_0 (ji24)).f1))∧w'.cell? ⟨(ad258.add (((ji24)).toNat * 3)).block,(ad258.add (((ji24)).toNat * 3)).off + 2,none⟩=some (.int .i64 ((rd_T56 l0_0 (ji24)).f2))) (ds:=[]) (bs 33 0) (by kernel_rfl) rfl rfl ⟨bc BK259 0,bc BK259 1,bc BK259 2,bc BK256 0,bc BK256 1,(cl HB hw263_0),(cl HB hw263_1),(cl HB hw263_2)⟩ (fun hHeld=>?_);refine with_tabW impl_HeapOk.tab6 impl_HeapOk.bits6 (fun HT_ HW_=>?_)
            generalize w28.drew=w29 at BK256 BK259 HB hx263_0 hx263_1 hx263_2 hHeld ⊢
            refine pq 0 25 (bs 33 1) HT_ ?_
            refine tq 1 26 (bs 33 3) HT_ HW_ hHeld ?_
            refine one_ (i:=2) (N:=some 27) (bs 33 7) rfl rfl (one_of HT_.out (by kernel_rfl)) (by decide) (fun K hK=>?_)
            refine goes_ Try.func53 (by kernel_rfl) rfl #[.int .i64 ((rd_T56 l0_0 x20_2).f0)] (by rfl) rfl rfl (by (try simp only [List.map_toArray,List.map_cons,List.map_nil]);first|done|rfl|(simp only [List.length_drop,List.length_take];rfl)) ?_
            with_reducible refine (impl_TickOk.calls ((rd_T56 l0_0 x20_2).f0) true _ A17.out).mono ?_
            rintro e w' ⟨rfl,⟨nd,rfl⟩⟩
            refine ⟨_,rfl,?_⟩
            refine hK.out _ _ ⟨bc BK259 0,bc BK259 1,bc BK259 2,bc BK256 0,bc BK256 1,(cl HB hw263_0),(cl HB hw263_1),(cl HB hw263_2)⟩ (fun hHeld=>?_)
            clear hK K
            refine nrm ?_
            refine pq 3 28 (bs 33 15) HT_ ?_
            refine pq 4 29 (bs 33 31) HT_ ?_
            refine pq 5 30 (bs 33 63) HT_ ?_
            refine pq 7 32 (bs 33 191) HT_ ?_
            refine tq 6 31 (bs 33 255) HT_ HW_ hHeld ?_
            refine tq 8 33 (bs 33 511) HT_ HW_ hHeld ?_
            refine one_ (i:=9) (N:=some 34) (bs 33 1023) rfl rfl (one_of HT_.out (by kernel_rfl)) (by decide) (fun K hK=>?_)
            refine goes_ Try.func58 (by kernel_rfl) rfl #[.int .i64 ((rd_T56 l0_0 x20_2).f1),.int .i64 1,.int .i64 a0_1] (by rfl) rfl rfl (by (try simp only [List.map_toArray,List.map_cons,List.map_nil]);first|done|rfl|(simp only [List.length_drop,List.length_take];rfl)) ?_
            with_reducible refine (impl_in.calls ((rd_T56 l0_0 x20_2).f1) 1 a0_1 true _ A19.out).mono ?_
            rintro e w' ⟨rfl,⟨nd,rfl⟩⟩
            refine ⟨_,rfl,?_⟩
            refine hK.out _ _ ⟨bc BK259 0,bc BK259 1,bc BK259 2,bc BK256 0,bc BK256 1,(cl HB hw263_0),(cl HB hw263_1),(cl HB hw263_2)⟩ (fun hHeld=>?_)
            clear hK K
            refine nrm ?_
            refine pq 10 35 (bs 33 2047) HT_ ?_
            refine pq 11 36 (bs 33 4095) HT_ ?_
            refine pq 12 37 (bs 33 8191) HT_ ?_
            refine pq 13 38 (bs 33 16383) HT_ ?_
            refine tq 14 39 (bs 33 32767) HT_ HW_ hHeld ?_
            refine one_ (i:=15) (N:=some 40) (bs 33 65535) rfl rfl (one_of HT_.out (by kernel_rfl)) (by decide) (fun K hK=>?_)
            refine goes_ Try.func54 (by kernel_rfl) rfl #[.int .i64 ((rd_T56 l0_0 x20_2).f2)] (by rfl) rfl rfl (by (try simp only [List.map_toArray,List.map_cons,List.map_nil]);first|done|rfl|(simp only [List.length_drop,List.length_take];rfl)) ?_
            with_reducible refine (impl_isId.calls ((rd_T56 l0_0 x20_2).f2) true _ A21.out).mono ?_
            rintro e w' ⟨rfl,⟨nd,rfl⟩⟩
            refine ⟨_,rfl,?_⟩
            refine hK.out _ _ ⟨bc BK259 0,bc BK259 1,bc BK259 2,bc BK256 0,bc BK256 1,(cl HB hw263_0),(cl HB hw263_1),(cl HB hw263_2)⟩ (fun hHeld=>?_)
            clear hK K
            refine nrm ?_
            refine pq 16 41 (bs 33 131071) HT_ ?_
            refine pq 17 42 (bs 33 262143) HT_ ?_
            refine pq 18 43 (bs 33 524287) HT_ ?_
            refine pq 19 44 (bs 33 1048575) HT_ ?_
            refine pq 20 45 (bs 33 2097151) HT_ ?_
            refine pq 21 46 (bs 33 4194303) HT_ ?_
            refine pq 23 48 (bs 33 12582911) HT_ ?_
            refine pq 25 50 (bs 33 46137343) HT_ ?_
            refine pq 26 51 (bs 33 113246207) HT_ ?_
            refine pq 27 52 (bs 33 247463935) HT_ ?_
            refine tq 22 47 (bs 33 251658239) HT_ HW_ hHeld ?_
            refine tq 24 49 (bs 33 268435455) HT_ HW_ hHeld ?_
            refine pq 28 53 (bs 33 536870911) HT_ ?_
            refine tq 29 54 (bs 33 1073741823) HT_ HW_ hHeld ?_
            refine one_ (i:=30) (N:=some 55) (bs 33 2147483647) rfl rfl (one_of HT_.out (by kernel_rfl)) (by decide) (fun K hK=>?_)
            refine goes_ Try.func73 (by kernel_rfl) rfl #[.agg #[.int .i64 ((rd_T56 l0_0 x20_2).f0),.int .i64 ((rd_T56 l0_0 x20_2).f1),.int .i64 ((rd_T56 l0_0 x20_2).f2)],.agg #[.int .i64 ((rd_T56 l0_0 (ji24)).f0),.int .i64 ((rd_T56 l0_0 (ji24)).f1),.int .i64 ((rd_T56 l0_0 (ji24)).f2)]] (by rfl) rfl rfl (by (try simp only [List.map_toArray,List.map_cons,List.map_nil]);first|done|(simp only [hji24];rfl)|rfl|(simp only [List.length_drop,List.length_take];rfl)) ?_
            with_reducible refine (impl_Due_before.calls k2 ((rd_T56 l0_0 x20_2).f0) ((rd_T56 l0_0 x20_2).f1) ((rd_T56 l0_0 x20_2).f2) ((rd_T56 l0_0 (ji24)).f0) ((rd_T56 l0_0 (ji24)).f1) ((rd_T56 l0_0 (ji24)).f2) t264 _ A27.out).mono ?_
            rintro e w30 ⟨rfl,hb⟩
            refine ⟨_,rfl,?_⟩
            replace BK256:=Aside0.mk (blk_below (bk BK256) hb)
            replace BK259:=Aside0.mk (blk_below (bk BK259) hb)
            replace HB:=Aside0.mk (below_step bl hb)
            (try clear hb)
            (try clear hb2)
            (try clear hk)
            (try clear hi)
            refine hK.out _ _ ⟨bc BK259 0,bc BK259 1,bc BK259 2,bc BK256 0,bc BK256 1,(cl HB hw263_0),(cl HB hw263_1),(cl HB hw263_2)⟩ (fun hHeld=>?_)
            clear hK K
            refine nrm ?_
            refine pq 31 56 (bs 33 4294967295) HT_ ?_
            refine pq 32 57 (bs 33 8589934591) HT_ ?_
            refine done_ (done_of HT_.out (by kernel_rfl)) ?_
            try go_wp2
            (try subst hji24)
            go_meet
            case rel=>exact ⟨_,(t264),(by first|rfl|(simp;done)|(simp [*];done)),H',⟨by have:=HJ1.out;have:=HK2.out;first|omega|exact Nat.le_refl _⟩,⟨bk BK256⟩,⟨bk BK259⟩,⟨bl⟩⟩
           ·rw [if_neg c23] at H
            have c23b0:decide (0 < x20_2)=false:=decide_eq_false c23
            clear c23
            (first|rw [c23b0]|(simp only [i64_w,i32_w];rw [c23b0])|skip)
            have H':=Aside0.mk H
            clear H
            try go_wp2
            have n0_:Aside0 ((((w14.setCell ⟨gb259,0,none⟩ (.int .i64 ((rd_T56 l0_0 x20_2).f0))).setCell ⟨gb259,1,none⟩ (.int .i64 ((rd_T56 l0_0 x20_2).f1))).setCell ⟨gb259,2,none⟩ (.int .i64 ((rd_T56 l0_0 x20_2).f2))).heap[gb256]? = some (.cells #[.slice (some ad258) l0_0.length c0_0,.int .i64 a0_1] 28 (0,0))):=⟨bf BK256⟩
            have n1_:Aside0 ((((w14.setCell ⟨gb259,0,none⟩ (.int .i64 ((rd_T56 l0_0 x20_2).f0))).setCell ⟨gb259,1,none⟩ (.int .i64 ((rd_T56 l0_0 x20_2).f1))).setCell ⟨gb259,2,none⟩ (.int .i64 ((rd_T56 l0_0 x20_2).f2))).heap[gb259]? = some (.cells #[.int .i64 ((rd_T56 l0_0 x20_2).f0),.int .i64 ((rd_T56 l0_0 x20_2).f1),.int .i64 ((rd_T56 l0_0 x20_2).f2)] 56 (0,0))):=⟨by (with_reducible repeat (first|refine blk_drewN ?_ _|refine blk_drew ?_|refine blk_alloc ?_ _));refine blk_put (cs:=#[.int .i64 ((rd_T56 l0_0 x20_2).f0),.int .i64 ((rd_T56 l0_0 x20_2).f1),.int .i64 0]) ?_ 2 _ rfl;(with_reducible repeat (first|refine blk_drewN ?_ _|refine blk_drew ?_|refine blk_alloc ?_ _));refine blk_put (cs:=#[.int .i64 ((rd_T56 l0_0 x20_2).f0),.int .i64 0,.int .i64 0]) ?_ 1 _ rfl;(with_reducible repeat (first|refine blk_drewN ?_ _|refine blk_drew ?_|refine blk_alloc ?_ _));refine blk_put (cs:=#[.int .i64 0,.int .i64 0,.int .i64 0]) ?_ 0 _ rfl;(with_reducible repeat (first|refine blk_drewN ?_ _|refine blk_drew ?_|refine blk_alloc ?_ _));exact BK259.out⟩
            have n2_:Aside0 (Below w.heap.size w (((w14.setCell ⟨gb259,0,none⟩ (.int .i64 ((rd_T56 l0_0 x20_2).f0))).setCell ⟨gb259,1,none⟩ (.int .i64 ((rd_T56 l0_0 x20_2).f1))).setCell ⟨gb259,2,none⟩ (.int .i64 ((rd_T56 l0_0 x20_2).f2)))):=⟨bl⟩
            (try clear BK256)
            (try clear BK259)
            (try clear HB)
            generalize (((w14.setCell ⟨gb259,0,none⟩ (.int .i64 ((rd_T56 l0_0 x20_2).f0))).setCell ⟨gb259,1,none⟩ (.int .i64 ((rd_T56 l0_0 x20_2).f1))).setCell ⟨gb259,2,none⟩ (.int .i64 ((rd_T56 l0_0 x20_2).f2)))=w31 at n0_ n1_ n2_ ⊢
            have BK256:=n0_
            have BK259:=n1_
            have HB:=n2_
            clear n0_ n1_ n2_
            replace BK256:=Aside0.mk (blk_drew BK256.out)
            replace BK259:=Aside0.mk (blk_drew BK259.out)
            replace HB:=Aside0.mk (below_drew1 HB.out)
            refine start_ (n:=33) (S:=fun w'=>w'.cell? ⟨gb259,0,none⟩=some (.int .i64 ((rd_T56 l0_0 x20_2).f0))∧w'.cell? ⟨gb259,1,none⟩=some (.int .i64 ((rd_T56 l0_0 x20_2).f1))∧w'.cell? ⟨gb259,2,none⟩=some (.int .i64 ((rd_T56 l0_0 x20_2).f2))∧w'.cell? ⟨gb256,0,none⟩=some (.slice (some ad258) l0_0.length c0_0)∧w'.cell? ⟨gb256,1,none⟩=some (.int .i64 a0_1)) (ds:=[]) (bs 33 0) (by kernel_rfl) rfl rfl ⟨bc BK259 0,bc BK259 1,bc BK259 2,bc BK256 0,bc BK256 1⟩ (fun hHeld=>?_);refine with_tabW impl_HeapOk.tab6 impl_HeapOk.bits6 (fun HT_ HW_=>?_)
            generalize w31.drew=w32 at BK256 BK259 HB hHeld ⊢
            refine pq 0 25 (bs 33 1) HT_ ?_
            refine tq 1 26 (bs 33 3) HT_ HW_ hHeld ?_
            refine one_ (i:=2) (N:=some 27) (bs 33 7) rfl rfl (one_of HT_.out (by kernel_rfl)) (by decide) (fun K hK=>?_)
            refine goes_ Try.func53 (by kernel_rfl) rfl #[.int .i64 ((rd_T56 l0_0 x20_2).f0)] (by rfl) rfl rfl (by (try simp only [List.map_toArray,List.map_cons,List.map_nil]);first|done|rfl|(simp only [List.length_drop,List.length_take];rfl)) ?_
            with_reducible refine (impl_TickOk.calls ((rd_T56 l0_0 x20_2).f0) true _ A17.out).mono ?_
            rintro e w' ⟨rfl,⟨nd,rfl⟩⟩
            refine ⟨_,rfl,?_⟩
            refine hK.out _ _ ⟨bc BK259 0,bc BK259 1,bc BK259 2,bc BK256 0,bc BK256 1⟩ (fun hHeld=>?_)
            clear hK K
            refine nrm ?_
            refine pq 3 28 (bs 33 15) HT_ ?_
            refine pq 4 29 (bs 33 31) HT_ ?_
            refine pq 5 30 (bs 33 63) HT_ ?_
            refine pq 7 32 (bs 33 191) HT_ ?_
            refine tq 6 31 (bs 33 255) HT_ HW_ hHeld ?_
            refine tq 8 33 (bs 33 511) HT_ HW_ hHeld ?_
            refine one_ (i:=9) (N:=some 34) (bs 33 1023) rfl rfl (one_of HT_.out (by kernel_rfl)) (by decide) (fun K hK=>?_)
            refine goes_ Try.func58 (by kernel_rfl) rfl #[.int .i64 ((rd_T56 l0_0 x20_2).f1),.int .i64 1,.int .i64 a0_1] (by rfl) rfl rfl (by (try simp only [List.map_toArray,List.map_cons,List.map_nil]);first|done|rfl|(simp only [List.length_drop,List.length_take];rfl)) ?_
            with_reducible refine (impl_in.calls ((rd_T56 l0_0 x20_2).f1) 1 a0_1 true _ A19.out).mono ?_
            rintro e w' ⟨rfl,⟨nd,rfl⟩⟩
            refine ⟨_,rfl,?_⟩
            refine hK.out _ _ ⟨bc BK259 0,bc BK259 1,bc BK259 2,bc BK256 0,bc BK256 1⟩ (fun hHeld=>?_)
            clear hK K
            refine nrm ?_
            refine pq 10 35 (bs 33 2047) HT_ ?_
            refine pq 11 36 (bs 33 4095) HT_ ?_
            refine pq 12 37 (bs 33 8191) HT_ ?_
            refine pq 13 38 (bs 33 16383) HT_ ?_
            refine tq 14 39 (bs 33 32767) HT_ HW_ hHeld ?_
            refine one_ (i:=15) (N:=some 40) (bs 33 65535) rfl rfl (one_of HT_.out (by kernel_rfl)) (by decide) (fun K hK=>?_)
            refine goes_ Try.func54 (by kernel_rfl) rfl #[.int .i64 ((rd_T56 l0_0 x20_2).f2)] (by rfl) rfl rfl (by (try simp only [List.map_toArray,List.map_cons,List.map_nil]);first|done|rfl|(simp only [List.length_drop,List.length_take];rfl)) ?_
            with_reducible refine (impl_isId.calls ((rd_T56 l0_0 x20_2).f2) true _ A21.out).mono ?_
            rintro e w' ⟨rfl,⟨nd,rfl⟩⟩
            refine ⟨_,rfl,?_⟩
            refine hK.out _ _ ⟨bc BK259 0,bc BK259 1,bc BK259 2,bc BK256 0,bc BK256 1⟩ (fun hHeld=>?_)
            clear hK K
            refine nrm ?_
            refine pq 16 41 (bs 33 131071) HT_ ?_
            refine pq 17 42 (bs 33 262143) HT_ ?_
            refine pq 18 43 (bs 33 524287) HT_ ?_
            refine pq 19 44 (bs 33 1048575) HT_ ?_
            refine pq 20 45 (bs 33 2097151) HT_ ?_
            refine pq 21 46 (bs 33 4194303) HT_ ?_
            refine uq 22 47 (bs 33 8388607) HT_ ?_
            refine uq 23 48 (bs 33 16777215) HT_ ?_
            refine uq 24 49 (bs 33 33554431) HT_ ?_
            refine uq 25 50 (bs 33 67108863) HT_ ?_
            refine uq 26 51 (bs 33 134217727) HT_ ?_
            refine uq 27 52 (bs 33 268435455) HT_ ?_
            refine uq 28 53 (bs 33 536870911) HT_ ?_
            refine uq 29 54 (bs 33 1073741823) HT_ ?_
            refine uq 30 55 (bs 33 2147483647) HT_ ?_
            refine pq 31 56 (bs 33 4294967295) HT_ ?_
            refine pq 32 57 (bs 33 8589934591) HT_ ?_
            refine done_ (done_of HT_.out (by kernel_rfl)) ?_
            try go_wp2
            go_meet
            case rel=>exact ⟨_,(false),(by first|rfl|(simp;done)|(simp [*];done)),H',⟨by have:=HJ1.out;have:=HK2.out;first|omega|exact Nat.le_refl _⟩,⟨bk BK256⟩,⟨bk BK259⟩,⟨bl⟩⟩
          ·replace c22:=Bool.eq_false_iff.mpr c22
           subst c22
           rw [if_neg nft] at H
           have H':=Aside0.mk H
           clear H
           try go_wp2
           have n0_:Aside0 ((((w14.setCell ⟨gb259,0,none⟩ (.int .i64 ((rd_T56 l0_0 x20_2).f0))).setCell ⟨gb259,1,none⟩ (.int .i64 ((rd_T56 l0_0 x20_2).f1))).setCell ⟨gb259,2,none⟩ (.int .i64 ((rd_T56 l0_0 x20_2).f2))).heap[gb256]? = some (.cells #[.slice (some ad258) l0_0.length c0_0,.int .i64 a0_1] 28 (0,0))):=⟨bf BK256⟩
           have n1_:Aside0 ((((w14.setCell ⟨gb259,0,none⟩ (.int .i64 ((rd_T56 l0_0 x20_2).f0))).setCell ⟨gb259,1,none⟩ (.int .i64 ((rd_T56 l0_0 x20_2).f1))).setCell ⟨gb259,2,none⟩ (.int .i64 ((rd_T56 l0_0 x20_2).f2))).heap[gb259]? = some (.cells #[.int .i64 ((rd_T56 l0_0 x20_2).f0),.int .i64 ((rd_T56 l0_0 x20_2).f1),.int .i64 ((rd_T56 l0_0 x20_2).f2)] 56 (0,0))):=⟨by (with_reducible repeat (first|refine blk_drewN ?_ _|refine blk_drew ?_|refine blk_alloc ?_ _));refine blk_put (cs:=#[.int .i64 ((rd_T56 l0_0 x20_2).f0),.int .i64 ((rd_T56 l0_0 x20_2).f1),.int .i64 0]) ?_ 2 _ rfl;(with_reducible repeat (first|refine blk_drewN ?_ _|refine blk_drew ?_|refine blk_alloc ?_ _));refine blk_put (cs:=#[.int .i64 ((rd_T56 l0_0 x20_2).f0),.int .i64 0,.int .i64 0]) ?_ 1 _ rfl;(with_reducible repeat (first|refine blk_drewN ?_ _|refine blk_drew ?_|refine blk_alloc ?_ _));refine blk_put (cs:=#[.int .i64 0,.int .i64 0,.int .i64 0]) ?_ 0 _ rfl;(with_reducible repeat (first|refine blk_drewN ?_ _|refine blk_drew ?_|refine blk_alloc ?_ _));exact BK259.out⟩
           have n2_:Aside0 (Below w.heap.size w (((w14.setCell ⟨gb259,0,none⟩ (.int .i64 ((rd_T56 l0_0 x20_2).f0))).setCell ⟨gb259,1,none⟩ (.int .i64 ((rd_T56 l0_0 x20_2).f1))).setCell ⟨gb259,2,none⟩ (.int .i64 ((rd_T56 l0_0 x20_2).f2)))):=⟨bl⟩
           (try clear BK256)
           (try clear BK259)
           (try clear HB)
           generalize (((w14.setCell ⟨gb259,0,none⟩ (.int .i64 ((rd_T56 l0_0 x20_2).f0))).setCell ⟨gb259,1,none⟩ (.int .i64 ((rd_T56 l0_0 x20_2).f1))).setCell ⟨gb259,2,none⟩ (.int .i64 ((rd_T56 l0_0 x20_2).f2)))=w33 at n0_ n1_ n2_ ⊢
           have BK256:=n0_
           have BK259:=n1_
           have HB:=n2_
           clear n0_ n1_ n2_
           replace BK256:=Aside0.mk (blk_drew BK256.out)
           replace BK259:=Aside0.mk (blk_drew BK259.out)
           replace HB:=Aside0.mk (below_drew1 HB.out)
           refine start_ (n:=33) (S:=fun w'=>w'.cell? ⟨gb259,0,none⟩=some (.int .i64 ((rd_T56 l0_0 x20_2).f0))∧w'.cell? ⟨gb259,1,none⟩=some (.int .i64 ((rd_T56 l0_0 x20_2).f1))∧w'.cell? ⟨gb259,2,none⟩=some (.int .i64 ((rd_T56 l0_0 x20_2).f2))∧w'.cell? ⟨gb256,0,none⟩=some (.slice (some ad258) l0_0.length c0_0)∧w'.cell? ⟨gb256,1,none⟩=some (.int .i64 a0_1)) (ds:=[]) (bs 33 0) (by kernel_rfl) rfl rfl ⟨bc BK259 0,bc BK259 1,bc BK259 2,bc BK256 0,bc BK256 1⟩ (fun hHeld=>?_);refine with_tabW impl_HeapOk.tab6 impl_HeapOk.bits6 (fun HT_ HW_=>?_)
           generalize w33.drew=w34 at BK256 BK259 HB hHeld ⊢
           refine pq 0 25 (bs 33 1) HT_ ?_
           refine tq 1 26 (bs 33 3) HT_ HW_ hHeld ?_
           refine one_ (i:=2) (N:=some 27) (bs 33 7) rfl rfl (one_of HT_.out (by kernel_rfl)) (by decide) (fun K hK=>?_)
           refine goes_ Try.func53 (by kernel_rfl) rfl #[.int .i64 ((rd_T56 l0_0 x20_2).f0)] (by rfl) rfl rfl (by (try simp only [List.map_toArray,List.map_cons,List.map_nil]);first|done|rfl|(simp only [List.length_drop,List.length_take];rfl)) ?_
           with_reducible refine (impl_TickOk.calls ((rd_T56 l0_0 x20_2).f0) true _ A17.out).mono ?_
           rintro e w' ⟨rfl,⟨nd,rfl⟩⟩
           refine ⟨_,rfl,?_⟩
           refine hK.out _ _ ⟨bc BK259 0,bc BK259 1,bc BK259 2,bc BK256 0,bc BK256 1⟩ (fun hHeld=>?_)
           clear hK K
           refine nrm ?_
           refine pq 3 28 (bs 33 15) HT_ ?_
           refine pq 4 29 (bs 33 31) HT_ ?_
           refine pq 5 30 (bs 33 63) HT_ ?_
           refine pq 7 32 (bs 33 191) HT_ ?_
           refine tq 6 31 (bs 33 255) HT_ HW_ hHeld ?_
           refine tq 8 33 (bs 33 511) HT_ HW_ hHeld ?_
           refine one_ (i:=9) (N:=some 34) (bs 33 1023) rfl rfl (one_of HT_.out (by kernel_rfl)) (by decide) (fun K hK=>?_)
           refine goes_ Try.func58 (by kernel_rfl) rfl #[.int .i64 ((rd_T56 l0_0 x20_2).f1),.int .i64 1,.int .i64 a0_1] (by rfl) rfl rfl (by (try simp only [List.map_toArray,List.map_cons,List.map_nil]);first|done|rfl|(simp only [List.length_drop,List.length_take];rfl)) ?_
           with_reducible refine (impl_in.calls ((rd_T56 l0_0 x20_2).f1) 1 a0_1 true _ A19.out).mono ?_
           rintro e w' ⟨rfl,⟨nd,rfl⟩⟩
           refine ⟨_,rfl,?_⟩
           refine hK.out _ _ ⟨bc BK259 0,bc BK259 1,bc BK259 2,bc BK256 0,bc BK256 1⟩ (fun hHeld=>?_)
           clear hK K
           refine nrm ?_
           refine pq 10 35 (bs 33 2047) HT_ ?_
           refine pq 11 36 (bs 33 4095) HT_ ?_
           refine pq 12 37 (bs 33 8191) HT_ ?_
           refine pq 13 38 (bs 33 16383) HT_ ?_
           refine tq 14 39 (bs 33 32767) HT_ HW_ hHeld ?_
           refine one_ (i:=15) (N:=some 40) (bs 33 65535) rfl rfl (one_of HT_.out (by kernel_rfl)) (by decide) (fun K hK=>?_)
           refine goes_ Try.func54 (by kernel_rfl) rfl #[.int .i64 ((rd_T56 l0_0 x20_2).f2)] (by rfl) rfl rfl (by (try simp only [List.map_toArray,List.map_cons,List.map_nil]);first|done|rfl|(simp only [List.length_drop,List.length_take];rfl)) ?_
           with_reducible refine (impl_isId.calls ((rd_T56 l0_0 x20_2).f2) false _ A21.out).mono ?_
           rintro e w' ⟨rfl,⟨nd,rfl⟩⟩
           refine ⟨_,rfl,?_⟩
           refine hK.out _ _ ⟨bc BK259 0,bc BK259 1,bc BK259 2,bc BK256 0,bc BK256 1⟩ (fun hHeld=>?_)
           clear hK K
           refine nrm ?_
           refine pq 16 41 (bs 33 131071) HT_ ?_
           refine pq 17 42 (bs 33 262143) HT_ ?_
           refine pq 18 43 (bs 33 524287) HT_ ?_
           refine uq 19 44 (bs 33 1048575) HT_ ?_
           refine uq 20 45 (bs 33 2097151) HT_ ?_
           refine uq 21 46 (bs 33 4194303) HT_ ?_
           refine uq 22 47 (bs 33 8388607) HT_ ?_
           refine uq 23 48 (bs 33 16777215) HT_ ?_
           refine uq 24 49 (bs 33 33554431) HT_ ?_
           refine uq 25 50 (bs 33 67108863) HT_ ?_
           refine uq 26 51 (bs 33 134217727) HT_ ?_
           refine uq 27 52 (bs 33 268435455) HT_ ?_
           refine uq 28 53 (bs 33 536870911) HT_ ?_
           refine uq 29 54 (bs 33 1073741823) HT_ ?_
           refine uq 30 55 (bs 33 2147483647) HT_ ?_
           refine uq 31 56 (bs 33 4294967295) HT_ ?_
           refine pq 32 57 (bs 33 8589934591) HT_ ?_
           refine done_ (done_of HT_.out (by kernel_rfl)) ?_
           try go_wp2
           go_meet
           case rel=>exact ⟨_,(true),(by first|rfl|(simp;done)|(simp [*];done)),H',⟨by have:=HJ1.out;have:=HK2.out;first|omega|exact Nat.le_refl _⟩,⟨bk BK256⟩,⟨bk BK259⟩,⟨bl⟩⟩
         ·replace c20:=Bool.eq_false_iff.mpr c20
          subst c20
          rw [if_neg nft] at H
          have H':=Aside0.mk H
          clear H
          try go_wp2
          have n0_:Aside0 ((((w14.setCell ⟨gb259,0,none⟩ (.int .i64 ((rd_T56 l0_0 x20_2).f0))).setCell ⟨gb259,1,none⟩ (.int .i64 ((rd_T56 l0_0 x20_2).f1))).setCell ⟨gb259,2,none⟩ (.int .i64 ((rd_T56 l0_0 x20_2).f2))).heap[gb256]? = some (.cells #[.slice (some ad258) l0_0.length c0_0,.int .i64 a0_1] 28 (0,0))):=⟨bf BK256⟩
          have n1_:Aside0 ((((w14.setCell ⟨gb259,0,none⟩ (.int .i64 ((rd_T56 l0_0 x20_2).f0))).setCell ⟨gb259,1,none⟩ (.int .i64 ((rd_T56 l0_0 x20_2).f1))).setCell ⟨gb259,2,none⟩ (.int .i64 ((rd_T56 l0_0 x20_2).f2))).heap[gb259]? = some (.cells #[.int .i64 ((rd_T56 l0_0 x20_2).f0),.int .i64 ((rd_T56 l0_0 x20_2).f1),.int .i64 ((rd_T56 l0_0 x20_2).f2)] 56 (0,0))):=⟨by (with_reducible repeat (first|refine blk_drewN ?_ _|refine blk_drew ?_|refine blk_alloc ?_ _));refine blk_put (cs:=#[.int .i64 ((rd_T56 l0_0 x20_2).f0),.int .i64 ((rd_T56 l0_0 x20_2).f1),.int .i64 0]) ?_ 2 _ rfl;(with_reducible repeat (first|refine blk_drewN ?_ _|refine blk_drew ?_|refine blk_alloc ?_ _));refine blk_put (cs:=#[.int .i64 ((rd_T56 l0_0 x20_2).f0),.int .i64 0,.int .i64 0]) ?_ 1 _ rfl;(with_reducible repeat (first|refine blk_drewN ?_ _|refine blk_drew ?_|refine blk_alloc ?_ _));refine blk_put (cs:=#[.int .i64 0,.int .i64 0,.int .i64 0]) ?_ 0 _ rfl;(with_reducible repeat (first|refine blk_drewN ?_ _|refine blk_drew ?_|refine blk_alloc ?_ _));exact BK259.out⟩
          have n2_:Aside0 (Below w.heap.size w (((w14.setCell ⟨gb259,0,none⟩ (.int .i64 ((rd_T56 l0_0 x20_2).f0))).setCell ⟨gb259,1,none⟩ (.int .i64 ((rd_T56 l0_0 x20_2).f1))).setCell ⟨gb259,2,none⟩ (.int .i64 ((rd_T56 l0_0 x20_2).f2)))):=⟨bl⟩
          (try clear BK256)
          (try clear BK259)
          (try clear HB)
          generalize (((w14.setCell ⟨gb259,0,none⟩ (.int .i64 ((rd_T56 l0_0 x20_2).f0))).setCell ⟨gb259,1,none⟩ (.int .i64 ((rd_T56 l0_0 x20_2).f1))).setCell ⟨gb259,2,none⟩ (.int .i64 ((rd_T56 l0_0 x20_2).f2)))=w35 at n0_ n1_ n2_ ⊢
          have BK256:=n0_
          have BK259:=n1_
          have HB:=n2_
          clear n0_ n1_ n2_
          replace BK256:=Aside0.mk (blk_drew BK256.out)
          replace BK259:=Aside0.mk (blk_drew BK259.out)
          replace HB:=Aside0.mk (below_drew1 HB.out)
          refine start_ (n:=33) (S:=fun w'=>w'.cell? ⟨gb259,0,none⟩=some (.int .i64 ((rd_T56 l0_0 x20_2).f0))∧w'.cell? ⟨gb259,1,none⟩=some (.int .i64 ((rd_T56 l0_0 x20_2).f1))∧w'.cell? ⟨gb259,2,none⟩=some (.int .i64 ((rd_T56 l0_0 x20_2).f2))∧w'.cell? ⟨gb256,0,none⟩=some (.slice (some ad258) l0_0.length c0_0)∧w'.cell? ⟨gb256,1,none⟩=some (.int .i64 a0_1)) (ds:=[]) (bs 33 0) (by kernel_rfl) rfl rfl ⟨bc BK259 0,bc BK259 1,bc BK259 2,bc BK256 0,bc BK256 1⟩ (fun hHeld=>?_);refine with_tabW impl_HeapOk.tab6 impl_HeapOk.bits6 (fun HT_ HW_=>?_)
          generalize w35.drew=w36 at BK256 BK259 HB hHeld ⊢
          refine pq 0 25 (bs 33 1) HT_ ?_
          refine tq 1 26 (bs 33 3) HT_ HW_ hHeld ?_
          refine one_ (i:=2) (N:=some 27) (bs 33 7) rfl rfl (one_of HT_.out (by kernel_rfl)) (by decide) (fun K hK=>?_)
          refine goes_ Try.func53 (by kernel_rfl) rfl #[.int .i64 ((rd_T56 l0_0 x20_2).f0)] (by rfl) rfl rfl (by (try simp only [List.map_toArray,List.map_cons,List.map_nil]);first|done|rfl|(simp only [List.length_drop,List.length_take];rfl)) ?_
          with_reducible refine (impl_TickOk.calls ((rd_T56 l0_0 x20_2).f0) true _ A17.out).mono ?_
          rintro e w' ⟨rfl,⟨nd,rfl⟩⟩
          refine ⟨_,rfl,?_⟩
          refine hK.out _ _ ⟨bc BK259 0,bc BK259 1,bc BK259 2,bc BK256 0,bc BK256 1⟩ (fun hHeld=>?_)
          clear hK K
          refine nrm ?_
          refine pq 3 28 (bs 33 15) HT_ ?_
          refine pq 4 29 (bs 33 31) HT_ ?_
          refine pq 5 30 (bs 33 63) HT_ ?_
          refine pq 7 32 (bs 33 191) HT_ ?_
          refine tq 6 31 (bs 33 255) HT_ HW_ hHeld ?_
          refine tq 8 33 (bs 33 511) HT_ HW_ hHeld ?_
          refine one_ (i:=9) (N:=some 34) (bs 33 1023) rfl rfl (one_of HT_.out (by kernel_rfl)) (by decide) (fun K hK=>?_)
          refine goes_ Try.func58 (by kernel_rfl) rfl #[.int .i64 ((rd_T56 l0_0 x20_2).f1),.int .i64 1,.int .i64 a0_1] (by rfl) rfl rfl (by (try simp only [List.map_toArray,List.map_cons,List.map_nil]);first|done|rfl|(simp only [List.length_drop,List.length_take];rfl)) ?_
          with_reducible refine (impl_in.calls ((rd_T56 l0_0 x20_2).f1) 1 a0_1 false _ A19.out).mono ?_
          rintro e w' ⟨rfl,⟨nd,rfl⟩⟩
          refine ⟨_,rfl,?_⟩
          refine hK.out _ _ ⟨bc BK259 0,bc BK259 1,bc BK259 2,bc BK256 0,bc BK256 1⟩ (fun hHeld=>?_)
          clear hK K
          refine nrm ?_
          refine pq 10 35 (bs 33 2047) HT_ ?_
          refine pq 11 36 (bs 33 4095) HT_ ?_
          refine pq 12 37 (bs 33 8191) HT_ ?_
          refine uq 13 38 (bs 33 16383) HT_ ?_
          refine uq 14 39 (bs 33 32767) HT_ ?_
          refine uq 15 40 (bs 33 65535) HT_ ?_
          refine uq 16 41 (bs 33 131071) HT_ ?_
          refine pq 17 42 (bs 33 262143) HT_ ?_
          refine pq 18 43 (bs 33 524287) HT_ ?_
          refine uq 19 44 (bs 33 1048575) HT_ ?_
          refine uq 20 45 (bs 33 2097151) HT_ ?_
          refine uq 21 46 (bs 33 4194303) HT_ ?_
          refine uq 22 47 (bs 33 8388607) HT_ ?_
          refine uq 23 48 (bs 33 16777215) HT_ ?_
          refine uq 24 49 (bs 33 33554431) HT_ ?_
          refine uq 25 50 (bs 33 67108863) HT_ ?_
          refine uq 26 51 (bs 33 134217727) HT_ ?_
          refine uq 27 52 (bs 33 268435455) HT_ ?_
          refine uq 28 53 (bs 33 536870911) HT_ ?_
          refine uq 29 54 (bs 33 1073741823) HT_ ?_
          refine uq 30 55 (bs 33 2147483647) HT_ ?_
          refine uq 31 56 (bs 33 4294967295) HT_ ?_
          refine pq 32 57 (bs 33 8589934591) HT_ ?_
          refine done_ (done_of HT_.out (by kernel_rfl)) ?_
          try go_wp2
          go_meet
          case rel=>exact ⟨_,(true),(by first|rfl|(simp;done)|(simp [*];done)),H',⟨by have:=HJ1.out;have:=HK2.out;first|omega|exact Nat.le_refl _⟩,⟨bk BK256⟩,⟨bk BK259⟩,⟨bl⟩⟩
        ·replace c18:=Bool.eq_false_iff.mpr c18
         subst c18
         rw [if_neg nft] at H
         have H':=Aside0.mk H
         clear H
         try go_wp2
         have n0_:Aside0 ((((w14.setCell ⟨gb259,0,none⟩ (.int .i64 ((rd_T56 l0_0 x20_2).f0))).setCell ⟨gb259,1,none⟩ (.int .i64 ((rd_T56 l0_0 x20_2).f1))).setCell ⟨gb259,2,none⟩ (.int .i64 ((rd_T56 l0_0 x20_2).f2))).heap[gb256]? = some (.cells #[.slice (some ad258) l0_0.length c0_0,.int .i64 a0_1] 28 (0,0))):=⟨bf BK256⟩
         have n1_:Aside0 ((((w14.setCell ⟨gb259,0,none⟩ (.int .i64 ((rd_T56 l0_0 x20_2).f0))).setCell ⟨gb259,1,none⟩ (.int .i64 ((rd_T56 l0_0 x20_2).f1))).setCell ⟨gb259,2,none⟩ (.int .i64 ((rd_T56 l0_0 x20_2).f2))).heap[gb259]? = some (.cells #[.int .i64 ((rd_T56 l0_0 x20_2).f0),.int .i64 ((rd_T56 l0_0 x20_2).f1),.int .i64 ((rd_T56 l0_0 x20_2).f2)] 56 (0,0))):=⟨by (with_reducible repeat (first|refine blk_drewN ?_ _|refine blk_drew ?_|refine blk_alloc ?_ _));refine blk_put (cs:=#[.int .i64 ((rd_T56 l0_0 x20_2).f0),.int .i64 ((rd_T56 l0_0 x20_2).f1),.int .i64 0]) ?_ 2 _ rfl;(with_reducible repeat (first|refine blk_drewN ?_ _|refine blk_drew ?_|refine blk_alloc ?_ _));refine blk_put (cs:=#[.int .i64 ((rd_T56 l0_0 x20_2).f0),.int .i64 0,.int .i64 0]) ?_ 1 _ rfl;(with_reducible repeat (first|refine blk_drewN ?_ _|refine blk_drew ?_|refine blk_alloc ?_ _));refine blk_put (cs:=#[.int .i64 0,.int .i64 0,.int .i64 0]) ?_ 0 _ rfl;(with_reducible repeat (first|refine blk_drewN ?_ _|refine blk_drew ?_|refine blk_alloc ?_ _));exact BK259.out⟩
         have n2_:Aside0 (Below w.heap.size w (((w14.setCell ⟨gb259,0,none⟩ (.int .i64 ((rd_T56 l0_0 x20_2).f0))).setCell ⟨gb259,1,none⟩ (.int .i64 ((rd_T56 l0_0 x20_2).f1))).setCell ⟨gb259,2,none⟩ (.int .i64 ((rd_T56 l0_0 x20_2).f2)))):=⟨bl⟩
         (try clear BK256)
         (try clear BK259)
         (try clear HB)
         generalize (((w14.setCell ⟨gb259,0,none⟩ (.int .i64 ((rd_T56 l0_0 x20_2).f0))).setCell ⟨gb259,1,none⟩ (.int .i64 ((rd_T56 l0_0 x20_2).f1))).setCell ⟨gb259,2,none⟩ (.int .i64 ((rd_T56 l0_0 x20_2).f2)))=w37 at n0_ n1_ n2_ ⊢
         have BK256:=n0_
         have BK259:=n1_
         have HB:=n2_
         clear n0_ n1_ n2_
         replace BK256:=Aside0.mk (blk_drew BK256.out)
         replace BK259:=Aside0.mk (blk_drew BK259.out)
         replace HB:=Aside0.mk (below_drew1 HB.out)
         refine start_ (n:=33) (S:=fun w'=>w'.cell? ⟨gb259,0,none⟩=some (.int .i64 ((rd_T56 l0_0 x20_2).f0))∧w'.cell? ⟨gb259,1,none⟩=some (.int .i64 ((rd_T56 l0_0 x20_2).f1))∧w'.cell? ⟨gb259,2,none⟩=some (.int .i64 ((rd_T56 l0_0 x20_2).f2))) (ds:=[]) (bs 33 0) (by kernel_rfl) rfl rfl ⟨bc BK259 0,bc BK259 1,bc BK259 2⟩ (fun hHeld=>?_);refine with_tabW impl_HeapOk.tab6 impl_HeapOk.bits6 (fun HT_ HW_=>?_)
         generalize w37.drew=w38 at BK256 BK259 HB hHeld ⊢
         refine pq 0 25 (bs 33 1) HT_ ?_
         refine tq 1 26 (bs 33 3) HT_ HW_ hHeld ?_
         refine one_ (i:=2) (N:=some 27) (bs 33 7) rfl rfl (one_of HT_.out (by kernel_rfl)) (by decide) (fun K hK=>?_)
         refine goes_ Try.func53 (by kernel_rfl) rfl #[.int .i64 ((rd_T56 l0_0 x20_2).f0)] (by rfl) rfl rfl (by (try simp only [List.map_toArray,List.map_cons,List.map_nil]);first|done|rfl|(simp only [List.length_drop,List.length_take];rfl)) ?_
         with_reducible refine (impl_TickOk.calls ((rd_T56 l0_0 x20_2).f0) false _ A17.out).mono ?_
         rintro e w' ⟨rfl,⟨nd,rfl⟩⟩
         refine ⟨_,rfl,?_⟩
         refine hK.out _ _ ⟨bc BK259 0,bc BK259 1,bc BK259 2⟩ (fun hHeld=>?_)
         clear hK K
         refine nrm ?_
         refine pq 3 28 (bs 33 15) HT_ ?_
         refine pq 4 29 (bs 33 31) HT_ ?_
         refine uq 5 30 (bs 33 63) HT_ ?_
         refine uq 6 31 (bs 33 127) HT_ ?_
         refine uq 7 32 (bs 33 255) HT_ ?_
         refine uq 8 33 (bs 33 511) HT_ ?_
         refine uq 9 34 (bs 33 1023) HT_ ?_
         refine uq 10 35 (bs 33 2047) HT_ ?_
         refine pq 11 36 (bs 33 4095) HT_ ?_
         refine pq 12 37 (bs 33 8191) HT_ ?_
         refine uq 13 38 (bs 33 16383) HT_ ?_
         refine uq 14 39 (bs 33 32767) HT_ ?_
         refine uq 15 40 (bs 33 65535) HT_ ?_
         refine uq 16 41 (bs 33 131071) HT_ ?_
         refine pq 17 42 (bs 33 262143) HT_ ?_
         refine pq 18 43 (bs 33 524287) HT_ ?_
         refine uq 19 44 (bs 33 1048575) HT_ ?_
         refine uq 20 45 (bs 33 2097151) HT_ ?_
         refine uq 21 46 (bs 33 4194303) HT_ ?_
         refine uq 22 47 (bs 33 8388607) HT_ ?_
         refine uq 23 48 (bs 33 16777215) HT_ ?_
         refine uq 24 49 (bs 33 33554431) HT_ ?_
         refine uq 25 50 (bs 33 67108863) HT_ ?_
         refine uq 26 51 (bs 33 134217727) HT_ ?_
         refine uq 27 52 (bs 33 268435455) HT_ ?_
         refine uq 28 53 (bs 33 536870911) HT_ ?_
         refine uq 29 54 (bs 33 1073741823) HT_ ?_
         refine uq 30 55 (bs 33 2147483647) HT_ ?_
         refine uq 31 56 (bs 33 4294967295) HT_ ?_
         refine pq 32 57 (bs 33 8589934591) HT_ ?_
         refine done_ (done_of HT_.out (by kernel_rfl)) ?_
         try go_wp2
         go_meet
         case rel=>exact ⟨_,(true),(by first|rfl|(simp;done)|(simp [*];done)),H',⟨by have:=HJ1.out;have:=HK2.out;first|omega|exact Nat.le_refl _⟩,⟨bk BK256⟩,⟨bk BK259⟩,⟨bl⟩⟩
       case rest =>
        clear HC13
        try clear c1
        try clear c2
        try clear p2
        try clear c5
        try clear c18
        try clear c20
        obtain ⟨kq,x57_12,rfl,HA,HJ12,BK256,BK259,HB⟩:=hcut
        cases kq with
        | zero=>exact absurd HA.out (by simp [impl_HeapOk.j2])
        | succ kj12 =>
         have H:=HA.out
         clear HA
         simp only [impl_HeapOk.j2] at H
         by_cases c39:x57_12=true
         ·subst c39
          rw [if_pos rfl] at H
          obtain rfl:=Option.some.inj H
          go_wp2
          go_ret
          exact ⟨er,bl⟩
         ·replace c39:=Bool.eq_false_iff.mpr c39
          subst c39
          rw [if_neg nft] at H
          by_cases c40:0≤x20_2
          case neg =>
           rw [if_neg c40] at H
           exact absurd H (by simp)
          rw [if_pos c40] at H
          have c40b0:=eq_true c40
          have c40b1:decide (0≤x20_2)=true:=decide_eq_true c40
          clear c40
          by_cases c41:x20_2≤(l0_0.length:Int)
          case neg =>
           rw [if_neg c41] at H
           exact absurd H (by simp)
          rw [if_pos c41] at H
          have c41b0:=eq_true c41
          have c41b1:decide (x20_2≤(l0_0.length:Int))=true:=decide_eq_true c41
          clear c41
          obtain ⟨y265,hy265⟩:∃ y_:List (S56),y_=(l0_0.take (x20_2:Int).toNat):=⟨_,rfl⟩
          replace H:(impl_HeapOk.l1 kj12 l0_0 (l0_0.length:Int) x20_2 y265 (y265.length:Int) 0 l0_0 a0_1 ((rd_T56 l0_0 x20_2).f0) ((rd_T56 l0_0 x20_2).f1) ((rd_T56 l0_0 x20_2).f2))=some r:=by first|(rw [hy265];with_reducible exact H)|(have H2_:=(Option.bind_some _ _).symm.trans H;rw [hy265];with_reducible exact H2_)|(have H2_:=(Option.bind_some _ _).symm.trans H;with_reducible exact H2_)|with_reducible exact H|(rw [hy265];exact H)|exact H
          have Ny265:=Aside0.mk hy265
          clear hy265
          have H':=Aside0.mk H
          clear H
          have hnb42:=NB256_259.out
          have hnc42:=NB259_256.out
          obtain ⟨hcz43_0,hcz43_1,hfz43_0,hfz43_1⟩:=ck2 BK256.out
          have q44:(x20_2:Int)≤((l0_0.length:Int):Int):=od
          obtain ⟨i044,hi044,_,hsz44,_⟩:=info_parts info56
          have hroom44:l0_0.length≤c0_0:=HC0_0.out
          have hC44:Kd.C k56 _ (some ad258) l0_0.length l0_0:=HR0_0.out
          have hcut44:=cut_to (P:=Try.prog) 26 56 .i64 Try.underlying26 hi044 (some ad258) l0_0.length c0_0 x20_2 od q44 hroom44
          have hr44:=Kd.C_take (m:=(x20_2:Int).toNat) hC44 (by omega)
          have hy44:y265.length=(x20_2:Int).toNat:=(by rw [Ny265.out,List.length_take];omega)
          rw [← Ny265.out] at hr44
          rw [← hy44] at hcut44
          have HR268:=Aside0.mk hr44
          have HC268:=Aside0.mk (show y265.length≤c0_0 from by omega)
          clear hr44 hC44 hroom44 hi044 hsz44
          have KY44:=Aside0.mk hy44
          clear hy44
          replace q44:=eq_true q44
          go_wp2
          go_loopg [63] kj12 (fun kq v63 w'=>∃ (x63_4:Int),v63 = .int .i64 x63_4∧Aside0 (impl_HeapOk.l1 kq l0_0 (l0_0.length:Int) x20_2 y265 (y265.length:Int) x63_4 l0_0 a0_1 ((rd_T56 l0_0 x20_2).f0) ((rd_T56 l0_0 x20_2).f1) ((rd_T56 l0_0 x20_2).f2)=some r)∧Aside0 (kq≤kj12)∧Aside0 (w'.heap[gb256]? = some (.cells #[(.slice (some ad258) l0_0.length c0_0),.int .i64 a0_1] 28 (0,0)))∧Aside0 (w'.heap[gb259]? = some (.cells #[.int .i64 ((rd_T56 l0_0 x20_2).f0),.int .i64 ((rd_T56 l0_0 x20_2).f1),.int .i64 ((rd_T56 l0_0 x20_2).f2)] 56 (0,0)))∧Aside0 (Below w.heap.size w w'))
          case atStart=>exact ⟨(0),(by first|rfl|(simp;done)|(simp [*];done)),H',⟨Nat.le_refl _⟩,⟨bk BK256⟩,⟨bk BK259⟩,⟨bl⟩⟩
          case round =>
           clear H'
           try clear c1
           try clear c2
           try clear p2
           try clear c3
           try clear c4
           try clear q4
           try clear c5
           try clear c18
           try clear c20
           try clear c39
           try clear c40
           try clear c40b0
           try clear c40b1
           try clear c41
           try clear c41b0
           try clear c41b1
           try clear c42
           try clear q44
           try clear hcz43_0
           try clear hcz43_1
           try clear hfz43_0
           try clear hfz43_1
           try clear p2
           try clear q44
           obtain ⟨x63_4,rfl,HA,HK4,BK256,BK259,HB⟩:=hrel
           cases gk with
           | zero=>exact absurd HA.out (by simp [impl_HeapOk.l1])
           | succ k4 =>
            have H:=HA.out
            clear HA
            simp only [impl_HeapOk.l1] at H
            by_cases c45:x63_4 < (y265.length:Int)
            ·rw [if_pos c45] at H
             have c45b0:decide (x63_4 < (y265.length:Int))=true:=decide_eq_true c45
             clear c45
             by_cases c46:0≤x63_4
             case neg =>
              rw [if_neg c46] at H
              exact absurd H (by simp)
             rw [if_pos c46] at H
             have c46b0:decide (0≤x63_4)=true:=decide_eq_true c46
             clear c46
             by_cases c47:x63_4 < (y265.length:Int)
             case neg =>
              rw [if_neg c47] at H
              exact absurd H (by simp)
             rw [if_pos c47] at H
             have c47b0:decide (x63_4 < (y265.length:Int))=true:=decide_eq_true c47
             clear c47
             by_cases c48:((rd_T56 y265 x63_4).f1)=((rd_T56 l0_0 x20_2).f1)
             ·rw [if_pos c48] at H
              have c48b0:(((rd_T56 y265 x63_4).f1) == ((rd_T56 l0_0 x20_2).f1))=true:=beq_iff_eq.mpr c48
              have c48b1:(((rd_T56 y265 x63_4).f1) != ((rd_T56 l0_0 x20_2).f1))=false:=bne_eq_false_iff_eq.mpr c48
              clear c48
              obtain rfl:=Option.some.inj H
              have p269:0≤(x63_4:Int):=od
              have q269:x63_4 < (y265.length:Int):=od
              obtain ⟨ad269,e269,hx269_0,hx269_1,hx269_2⟩:=at_T56 HR268.out x63_4 p269 q269
              obtain rfl:ad258=ad269:=(by injection e269)
              replace hx269_0:=cl HB hx269_0
              replace hx269_1:=cl HB hx269_1
              replace hx269_2:=cl HB hx269_2
              replace p269:=eq_true p269
              replace q269:=eq_true q269
              go_wp2_with (first|((with_reducible refine gate_dst (N:=6) rfl ?_);refine bx 6 #[.int .i64 0,.int .i64 0,.int .i64 0] 56 ?_;intro gb270 hg w49 hbox hb;have BK270:=Aside0.mk (hbox);have GW270:=Aside0.mk (bz hg:w.heap.size≤gb270);have GE270:=GW270;replace HB:=Aside0.mk (below_step bl hb);have NB256_270:=Aside0.mk (nl hg BK256:gb256≠gb270);have NB270_256:=Aside0.mk (nr hg BK256:gb270≠gb256);replace BK256:=Aside0.mk (blk_below (bk BK256) hb);have NB259_270:=Aside0.mk (nl hg BK259:gb259≠gb270);have NB270_259:=Aside0.mk (nr hg BK259:gb270≠gb259);replace BK259:=Aside0.mk (blk_below (bk BK259) hb);clear hb hbox hg;have hnb50:=NB270_256.out;have hnc50:=NB256_270.out;have hnb51:=NB270_259.out;have hnc51:=NB259_270.out;obtain ⟨hcz52_0,hcz52_1,hcz52_2,hfz52_0,hfz52_1,hfz52_2⟩:=ck3 BK270.out;have hnb53:=NB259_256.out;have hnc53:=NB256_259.out;obtain ⟨hcz54_0,hcz54_1,hcz54_2,hfz54_0,hfz54_1,hfz54_2⟩:=ck3 BK259.out))
              go_ret
              exact ⟨er,bl⟩
             ·rw [if_neg c48] at H
              have c48b0:(((rd_T56 y265 x63_4).f1) == ((rd_T56 l0_0 x20_2).f1))=false:=beq_eq_false_iff_ne.mpr c48
              have c48b1:(((rd_T56 y265 x63_4).f1) != ((rd_T56 l0_0 x20_2).f1))=true:=bne_iff_ne.mpr c48
              by_cases c55:((rd_T56 y265 x63_4).f2)=((rd_T56 l0_0 x20_2).f2)
              ·rw [if_pos c55] at H
               have c55b0:(((rd_T56 y265 x63_4).f2) == ((rd_T56 l0_0 x20_2).f2))=true:=beq_iff_eq.mpr c55
               have c55b1:(((rd_T56 y265 x63_4).f2) != ((rd_T56 l0_0 x20_2).f2))=false:=bne_eq_false_iff_eq.mpr c55
               clear c55
               obtain rfl:=Option.some.inj H
               have p269:0≤(x63_4:Int):=od
               have q269:x63_4 < (y265.length:Int):=od
               obtain ⟨ad269,e269,hx269_0,hx269_1,hx269_2⟩:=at_T56 HR268.out x63_4 p269 q269
               obtain rfl:ad258=ad269:=(by injection e269)
               replace hx269_0:=cl HB hx269_0
               replace hx269_1:=cl HB hx269_1
               replace hx269_2:=cl HB hx269_2
               replace p269:=eq_true p269
               replace q269:=eq_true q269
               go_wp2_with (first|((with_reducible refine gate_dst (N:=6) rfl ?_);refine bx 6 #[.int .i64 0,.int .i64 0,.int .i64 0] 56 ?_;intro gb270 hg w56 hbox hb;have BK270:=Aside0.mk (hbox);have GW270:=Aside0.mk (bz hg:w.heap.size≤gb270);have GE270:=GW270;replace HB:=Aside0.mk (below_step bl hb);have NB256_270:=Aside0.mk (nl hg BK256:gb256≠gb270);have NB270_256:=Aside0.mk (nr hg BK256:gb270≠gb256);replace BK256:=Aside0.mk (blk_below (bk BK256) hb);have NB259_270:=Aside0.mk (nl hg BK259:gb259≠gb270);have NB270_259:=Aside0.mk (nr hg BK259:gb270≠gb259);replace BK259:=Aside0.mk (blk_below (bk BK259) hb);clear hb hbox hg;have hnb57:=NB270_256.out;have hnc57:=NB256_270.out;have hnb58:=NB270_259.out;have hnc58:=NB259_270.out;obtain ⟨hcz59_0,hcz59_1,hcz59_2,hfz59_0,hfz59_1,hfz59_2⟩:=ck3 BK270.out;have hnb60:=NB259_256.out;have hnc60:=NB256_259.out;obtain ⟨hcz61_0,hcz61_1,hcz61_2,hfz61_0,hfz61_1,hfz61_2⟩:=ck3 BK259.out))
               go_ret
               exact ⟨er,bl⟩
              ·rw [if_neg c55] at H
               have c55b0:(((rd_T56 y265 x63_4).f2) == ((rd_T56 l0_0 x20_2).f2))=false:=beq_eq_false_iff_ne.mpr c55
               have c55b1:(((rd_T56 y265 x63_4).f2) != ((rd_T56 l0_0 x20_2).f2))=true:=bne_iff_ne.mpr c55
               have H':=Aside0.mk H
               clear H
               have p269:0≤(x63_4:Int):=od
               have q269:x63_4 < (y265.length:Int):=od
               obtain ⟨ad269,e269,hx269_0,hx269_1,hx269_2⟩:=at_T56 HR268.out x63_4 p269 q269
               obtain rfl:ad258=ad269:=(by injection e269)
               replace hx269_0:=cl HB hx269_0
               replace hx269_1:=cl HB hx269_1
               replace hx269_2:=cl HB hx269_2
               replace p269:=eq_true p269
               replace q269:=eq_true q269
               go_wp2_with (first|((with_reducible refine gate_dst (N:=6) rfl ?_);refine bx 6 #[.int .i64 0,.int .i64 0,.int .i64 0] 56 ?_;intro gb270 hg w62 hbox hb;have BK270:=Aside0.mk (hbox);have GW270:=Aside0.mk (bz hg:w.heap.size≤gb270);have GE270:=GW270;replace HB:=Aside0.mk (below_step bl hb);have NB256_270:=Aside0.mk (nl hg BK256:gb256≠gb270);have NB270_256:=Aside0.mk (nr hg BK256:gb270≠gb256);replace BK256:=Aside0.mk (blk_below (bk BK256) hb);have NB259_270:=Aside0.mk (nl hg BK259:gb259≠gb270);have NB270_259:=Aside0.mk (nr hg BK259:gb270≠gb259);replace BK259:=Aside0.mk (blk_below (bk BK259) hb);clear hb hbox hg;have hnb63:=NB270_256.out;have hnc63:=NB256_270.out;have hnb64:=NB270_259.out;have hnc64:=NB259_270.out;obtain ⟨hcz65_0,hcz65_1,hcz65_2,hfz65_0,hfz65_1,hfz65_2⟩:=ck3 BK270.out;have hnb66:=NB259_256.out;have hnc66:=NB256_259.out;obtain ⟨hcz67_0,hcz67_1,hcz67_2,hfz67_0,hfz67_1,hfz67_2⟩:=ck3 BK259.out))
               go_roundg k4
               case measure=>have:=HJ1.out;have:=HK2.out;have:=HJ12.out;have:=HK4.out;omega
               case rel=>exact ⟨(wrap64 (x63_4 + 1)),(by first|rfl|(simp;done)|(simp [*];done)),H',⟨by have:=HJ1.out;have:=HK2.out;have:=HJ12.out;have:=HK4.out;omega⟩,⟨bf BK256⟩,⟨bf BK259⟩,⟨bl⟩⟩
            ·rw [if_neg c45] at H
             have c45b0:decide (x63_4 < (y265.length:Int))=false:=decide_eq_false c45
             clear c45
             have H':=Aside0.mk H
             clear H
             go_wp2
             go_roundg k4
             case measure=>have:=HJ1.out;have:=HK2.out;have:=HJ12.out;have:=HK4.out;omega
             case rel=>exact ⟨(wrap64 (x20_2 + 1)),(by first|rfl|(simp;done)|(simp [*];done)),H',⟨by have:=HJ1.out;have:=HK2.out;have:=HJ12.out;have:=HK4.out;omega⟩,⟨bk BK256⟩,⟨bl⟩⟩
      ·rw [if_neg c10] at H
       have c10b0:decide (x20_2 < (l0_0.length:Int))=false:=decide_eq_false c10
       clear c10
       obtain rfl:=Option.some.inj H
       go_wp2
       go_ret
       exact ⟨er,bl⟩

end Go.Proofs.Ytdffkcbaijbhoaa.PFnExactSchedule
