/- Contracts of functions of the given program: what each call answers. Written by a program of this session, out of the text of the functions. -/
import Derived.Test.YtnkpjpfmjkiidaaPFnExactMoveBackx0
import Derived.Test.YtnkpjpfmjkiidaaPFnExactMoveBackx2
import Derived.Test.YtnkpjpfmjkiidaaZFnExactMoveBack
namespace Go.Proofs.Ytnkpjpfmjkiidaa.PFnExactMoveBack
open Go.RowKit Go.Proofs.YtnkpjpfmjkiidaaW.PrintWords Go.Proofs.YtnkpjpfmjkiidaaW.PrintLast Go.Proofs.YtnkpjpfmjkiidaaW.PrintMore Go.Proofs.Ytnkpjpfmjkiidaa.Giv Go.Proofs.Ytnkpjpfmjkiidaa.Prs
attribute [local go_sem] max2_int min2_int max_two min_two max_three min_three max_four min_four   -- for this text's walks alone
set_option linter.unusedVariables false
set_option linter.unusedSimpArgs false

/-! ### spec_PlaceOf: function 47 -/
def spec_PlaceOf.l0:Nat→Int→Int→List (S97)→Int→Int→Int→Int→Option (Int)
 | 0,_,_,_,_,_,_,_=>none
 | k + 1,x1,x5,x130000,x130001,x130002,x130003,x130004=>if x5=(-1) then (some (-1)) else (if 0≤x5 then (if x5 < (x130000.length:Int) then (if ((rd_T97 x130000 x5).f0)=x1 then (some x5) else (spec_PlaceOf.l0 k x1 ((rd_T97 x130000 x5).f2) x130000 x130001 x130002 x130003 x130004)) else (none)) else (none))
def spec_PlaceOf.f (k:Nat) (l0_0:List (S97)) (a0_1:Int) (a0_2:Int) (a0_3:Int) (a0_4:Int) (a1:Int):Option (Int):=(spec_QueueOk.f k l0_0 a0_1 a0_2 a0_3 a0_4).bind fun t130=>(if t130=true then (spec_PlaceOf.l0 k a1 a0_1 l0_0 a0_1 a0_2 a0_3 a0_4) else (some (-1)))
theorem spec_PlaceOf.mono_l:∀ k,(∀ y0 y1 y2 y3 y4 y5 y6,LeO (spec_PlaceOf.l0 k y0 y1 y2 y3 y4 y5 y6) (spec_PlaceOf.l0 (k + 1) y0 y1 y2 y3 y4 y5 y6))
 | 0=>fun _ _ _ _ _ _ _ r h=>by simp [spec_PlaceOf.l0] at h
 | k + 1=>by
  have ih0:=spec_PlaceOf.mono_l k
  ·intro y0 y1 y2 y3 y4 y5 y6
   unfold spec_PlaceOf.l0
   repeat' first
   | (with_reducible exact ih0 _ _ _ _ _ _ _)
   | (with_reducible exact spec_QueueOk.mono _ _ _ _ _ _)
   | (with_reducible exact LeO.refl _)
   | (with_reducible exact LeO.none _)
   | (with_reducible refine LeO.ite ?_ ?_)
   | (with_reducible refine LeO.bind ?_ (fun _=>?_))
   | exact ih0 _ _ _ _ _ _ _
   | exact spec_QueueOk.mono _ _ _ _ _ _
   | exact LeO.none _
   | refine LeO.ite ?_ ?_
   | refine LeO.bind ?_ (fun _=>?_)
theorem spec_PlaceOf.mono:∀ a0 a1 a2 a3 a4 a5 k,LeO (spec_PlaceOf.f k a0 a1 a2 a3 a4 a5) (spec_PlaceOf.f (k + 1) a0 a1 a2 a3 a4 a5):=by
 intro a0 a1 a2 a3 a4 a5 k
 have ih0:=spec_PlaceOf.mono_l k
 unfold spec_PlaceOf.f
 repeat' first
   | (with_reducible exact ih0 _ _ _ _ _ _ _)
   | (with_reducible exact spec_QueueOk.mono _ _ _ _ _ _)
   | (with_reducible exact LeO.refl _)
   | (with_reducible exact LeO.none _)
   | (with_reducible refine LeO.ite ?_ ?_)
   | (with_reducible refine LeO.bind ?_ (fun _=>?_))
   | exact ih0 _ _ _ _ _ _ _
   | exact spec_QueueOk.mono _ _ _ _ _ _
   | exact LeO.none _
   | refine LeO.ite ?_ ?_
   | refine LeO.bind ?_ (fun _=>?_)
set_option maxHeartbeats 8000000 in
set_option maxRecDepth 100000 in
theorem spec_PlaceOf.calls (k:Nat) (A0_0:Option Addr) (c0_0:Nat) (l0_0:List (S97)) (a0_1:Int) (a0_2:Int) (a0_3:Int) (a0_4:Int) (a1:Int) (r:Int) (w:World) (hr0_0:Kd.C k97 w A0_0 l0_0.length l0_0) (hc0_0:l0_0.length≤c0_0) (h:spec_PlaceOf.f k l0_0 a0_1 a0_2 a0_3 a0_4 a1=some r) :
  Calls Try.prog 47 #[.agg #[.slice A0_0 l0_0.length c0_0,.int .i64 a0_1,.int .i64 a0_2,.int .i64 a0_3,.int .i64 a0_4],.int .i64 a1] w fun e w'=>e = .returned (.int .i64 r)∧Below w.heap.size w w':=by
 have hu28:=Try.underlying28
 have HR0_0:=Aside0.mk hr0_0
 have HC0_0:=Aside0.mk hc0_0
 clear hr0_0 hc0_0
 have HB:=Aside0.mk (Below.refl w.heap.size w)
 have H:((spec_QueueOk.f k l0_0 a0_1 a0_2 a0_3 a0_4).bind fun t130=>(if t130=true then (spec_PlaceOf.l0 k a1 a0_1 l0_0 a0_1 a0_2 a0_3 a0_4) else (some (-1))))=some r:=h
 clear h
 replace H:=Option.bind_eq_some_iff.mp H
 obtain ⟨t130,A30,H⟩:=H
 have A3:=Aside0.mk A30
 clear A30
 by_cases c4:t130=true
 ·subst c4
  rw [if_pos rfl] at H
  have H':=Aside0.mk H
  clear H
  go_enter Try.func47,Try.ntmps47
  go_wp2_with (first|((with_reducible refine gate_dst (N:=2) rfl ?_);refine bx 2 #[.slice A0_0 l0_0.length c0_0,.int .i64 a0_1,.int .i64 a0_2,.int .i64 a0_3,.int .i64 a0_4] 28 ?_;intro gb129 hg w5 hbox hb;have BK129:=Aside0.mk (hbox);have GW129:=Aside0.mk (bz hg:w.heap.size≤gb129);have GE129:=GW129;replace HB:=Aside0.mk (below_step bl hb);clear hb hbox hg;obtain ⟨hcz6_0,hcz6_1,hcz6_2,hcz6_3,hcz6_4,hfz6_0,hfz6_1,hfz6_2,hfz6_3,hfz6_4⟩:=ck5 BK129.out)|((with_reducible refine gate_callee (f:=60) rfl ?_);refine gl Try.func60 #[.agg #[.slice A0_0 l0_0.length c0_0,.int .i64 a0_1,.int .i64 a0_2,.int .i64 a0_3,.int .i64 a0_4]] ?_;(with_reducible refine (spec_QueueOk.calls k _ _ l0_0 a0_1 a0_2 a0_3 a0_4 true _ ?side1 ?side2 A3.out).mono ?_);(case side1=>exact kc HR0_0);(case side2=>exact HC0_0.out);rintro e w7 ⟨rfl,hb⟩;refine ⟨_,rfl,?_⟩;replace BK129:=Aside0.mk (blk_below (bk BK129) hb);replace HB:=Aside0.mk (below_step bl hb);(try clear hb);(try clear hb2);(try clear hk);(try clear hi);obtain ⟨hcz8_0,hcz8_1,hcz8_2,hcz8_3,hcz8_4,hfz8_0,hfz8_1,hfz8_2,hfz8_3,hfz8_4⟩:=ck5 BK129.out))
  go_loopg [5] k (fun kq v5 w'=>∃ (x5_1:Int),v5 = .int .i64 x5_1∧Aside0 (spec_PlaceOf.l0 kq a1 x5_1 l0_0 a0_1 a0_2 a0_3 a0_4=some r)∧Aside0 (kq≤k)∧Aside0 (w'.heap[gb129]? = some (.cells #[(.slice A0_0 l0_0.length c0_0),.int .i64 a0_1,.int .i64 a0_2,.int .i64 a0_3,.int .i64 a0_4] 28 (0,0)))∧Aside0 (Below w.heap.size w w'))
  case atStart=>exact ⟨(a0_1),(by first|rfl|(simp;done)|(simp [*];done)),H',⟨Nat.le_refl _⟩,⟨bk BK129⟩,⟨bl⟩⟩
  case round =>
   clear H'
   try clear p2
   try clear c4
   try clear c6
   try clear hcz6_0
   try clear hcz6_1
   try clear hcz6_2
   try clear hcz6_3
   try clear hcz6_4
   try clear hcz8_0
   try clear hcz8_1
   try clear hcz8_2
   try clear hcz8_3
   try clear hcz8_4
   try clear hfz6_0
   try clear hfz6_1
   try clear hfz6_2
   try clear hfz6_3
   try clear hfz6_4
   try clear hfz8_0
   try clear hfz8_1
   try clear hfz8_2
   try clear hfz8_3
   try clear hfz8_4
   obtain ⟨x5_1,rfl,HA,HK1,BK129,HB⟩:=hrel
   cases gk with
   | zero=>exact absurd HA.out (by simp [spec_PlaceOf.l0])
   | succ k1 =>
    have H:=HA.out
    clear HA
    simp only [spec_PlaceOf.l0] at H
    by_cases c9:x5_1=(-1)
    ·rw [if_pos c9] at H
     have c9b0:(x5_1 == (-1))=true:=beq_iff_eq.mpr c9
     have c9b1:(x5_1 != (-1))=false:=bne_eq_false_iff_eq.mpr c9
     clear c9
     obtain rfl:=Option.some.inj H
     go_wp2
     go_ret
     exact ⟨by first|rfl|(simp [errW_none,errW_some] <;> rfl)|(simp [*,errW_none,errW_some] <;> rfl),bl⟩
    ·rw [if_neg c9] at H
     have c9b0:(x5_1 == (-1))=false:=beq_eq_false_iff_ne.mpr c9
     have c9b1:(x5_1 != (-1))=true:=bne_iff_ne.mpr c9
     by_cases c10:0≤x5_1
     ·rw [if_pos c10] at H
      have c10b0:decide (0≤x5_1)=true:=decide_eq_true c10
      clear c10
      by_cases c11:x5_1 < (l0_0.length:Int)
      ·rw [if_pos c11] at H
       have c11b0:decide (x5_1 < (l0_0.length:Int))=true:=decide_eq_true c11
       clear c11
       by_cases c12:((rd_T97 l0_0 x5_1).f0)=a1
       ·rw [if_pos c12] at H
        have c12b0:(((rd_T97 l0_0 x5_1).f0) == a1)=true:=beq_iff_eq.mpr c12
        have c12b1:(((rd_T97 l0_0 x5_1).f0) != a1)=false:=bne_eq_false_iff_eq.mpr c12
        clear c12
        obtain rfl:=Option.some.inj H
        obtain ⟨hcz13_0,hcz13_1,hcz13_2,hcz13_3,hcz13_4,hfz13_0,hfz13_1,hfz13_2,hfz13_3,hfz13_4⟩:=ck5 BK129.out
        have p131:0≤(x5_1:Int):=of_decide_eq_true (by first|(with_reducible assumption)|assumption)
        have q131:x5_1 < (l0_0.length:Int):=of_decide_eq_true (by first|(with_reducible assumption)|assumption)
        obtain ⟨ad131,e131,hx131_0,hx131_1,hx131_2,hx131_3⟩:=at_T97 HR0_0.out x5_1 p131 q131
        cases e131
        replace hx131_0:=cl HB hx131_0
        replace hx131_1:=cl HB hx131_1
        replace hx131_2:=cl HB hx131_2
        replace hx131_3:=cl HB hx131_3
        replace p131:=eq_true p131
        replace q131:=eq_true q131
        go_wp2
        go_ret
        exact ⟨by first|rfl|(simp [errW_none,errW_some] <;> rfl)|(simp [*,errW_none,errW_some] <;> rfl),bl⟩
       ·rw [if_neg c12] at H
        have c12b0:(((rd_T97 l0_0 x5_1).f0) == a1)=false:=beq_eq_false_iff_ne.mpr c12
        have c12b1:(((rd_T97 l0_0 x5_1).f0) != a1)=true:=bne_iff_ne.mpr c12
        have H':=Aside0.mk H
        clear H
        obtain ⟨hcz14_0,hcz14_1,hcz14_2,hcz14_3,hcz14_4,hfz14_0,hfz14_1,hfz14_2,hfz14_3,hfz14_4⟩:=ck5 BK129.out
        have p131:0≤(x5_1:Int):=of_decide_eq_true (by first|(with_reducible assumption)|assumption)
        have q131:x5_1 < (l0_0.length:Int):=of_decide_eq_true (by first|(with_reducible assumption)|assumption)
        obtain ⟨ad131,e131,hx131_0,hx131_1,hx131_2,hx131_3⟩:=at_T97 HR0_0.out x5_1 p131 q131
        cases e131
        replace hx131_0:=cl HB hx131_0
        replace hx131_1:=cl HB hx131_1
        replace hx131_2:=cl HB hx131_2
        replace hx131_3:=cl HB hx131_3
        replace p131:=eq_true p131
        replace q131:=eq_true q131
        have p132:0≤(x5_1:Int):=of_decide_eq_true (by first|(with_reducible assumption)|assumption)
        have q132:x5_1 < (l0_0.length:Int):=of_decide_eq_true (by first|(with_reducible assumption)|assumption)
        obtain ⟨ad132,e132,hx132_0,hx132_1,hx132_2,hx132_3⟩:=at_T97 HR0_0.out x5_1 p132 q132
        obtain rfl:ad131=ad132:=(by injection e132)
        replace hx132_0:=cl HB hx132_0
        replace hx132_1:=cl HB hx132_1
        replace hx132_2:=cl HB hx132_2
        replace hx132_3:=cl HB hx132_3
        replace p132:=eq_true p132
        replace q132:=eq_true q132
        go_wp2
        go_roundg k1
        case measure=>have:=HK1.out;omega
        case rel=>exact ⟨((rd_T97 l0_0 x5_1).f2),(by first|rfl|(simp;done)|(simp [*];done)),H',⟨by have:=HK1.out;omega⟩,⟨bk BK129⟩,⟨bl⟩⟩
      ·rw [if_neg c11] at H
       exact absurd H (by simp)
     ·rw [if_neg c10] at H
      exact absurd H (by simp)
 ·replace c4:=Bool.eq_false_iff.mpr c4
  subst c4
  rw [if_neg nft] at H
  obtain rfl:=Option.some.inj H
  go_enter Try.func47,Try.ntmps47
  go_wp2_with (first|((with_reducible refine gate_dst (N:=2) rfl ?_);refine bx 2 #[.slice A0_0 l0_0.length c0_0,.int .i64 a0_1,.int .i64 a0_2,.int .i64 a0_3,.int .i64 a0_4] 28 ?_;intro gb129 hg w15 hbox hb;have BK129:=Aside0.mk (hbox);have GW129:=Aside0.mk (bz hg:w.heap.size≤gb129);have GE129:=GW129;replace HB:=Aside0.mk (below_step bl hb);clear hb hbox hg;obtain ⟨hcz16_0,hcz16_1,hcz16_2,hcz16_3,hcz16_4,hfz16_0,hfz16_1,hfz16_2,hfz16_3,hfz16_4⟩:=ck5 BK129.out)|((with_reducible refine gate_callee (f:=60) rfl ?_);refine gl Try.func60 #[.agg #[.slice A0_0 l0_0.length c0_0,.int .i64 a0_1,.int .i64 a0_2,.int .i64 a0_3,.int .i64 a0_4]] ?_;(with_reducible refine (spec_QueueOk.calls k _ _ l0_0 a0_1 a0_2 a0_3 a0_4 false _ ?side1 ?side2 A3.out).mono ?_);(case side1=>exact kc HR0_0);(case side2=>exact HC0_0.out);rintro e w17 ⟨rfl,hb⟩;refine ⟨_,rfl,?_⟩;replace BK129:=Aside0.mk (blk_below (bk BK129) hb);replace HB:=Aside0.mk (below_step bl hb);(try clear hb);(try clear hb2);(try clear hk);(try clear hi)))
  go_ret
  exact ⟨by first|rfl|(simp [errW_none,errW_some] <;> rfl)|(simp [*,errW_none,errW_some] <;> rfl),bl⟩

/-! ### spec_l02Copy: function 48 -/
def spec_l02Copy.l0:Nat→Int→List (S97)→Int→Int→Int→Int→List (S97)→Int→Int→Int→Int→Option ((List (S97)) × Int × Int × Int × Int)
 | 0,_,_,_,_,_,_,_,_,_,_,_=>none
 | k + 1,x4,x134000,x134001,x134002,x134003,x134004,x136000,x136001,x136002,x136003,x136004=>if x4 < (x134000.length:Int) then (if 0≤x4 then (if x136000.length < 4398046511104 then (spec_l02Copy.l0 k (wrap64 (x4 + 1)) x134000 x134001 x134002 x134003 x134004 (x136000 ++ [(⟨(rd_T97 x134000 x4).f0,(rd_T97 x134000 x4).f1,(rd_T97 x134000 x4).f2,(rd_T97 x134000 x4).f3⟩:S97)]) x136001 x136002 x136003 x136004) else (none)) else (none)) else (some (x136000,x136001,x136002,x136003,x136004))
def spec_l02Copy.f (k:Nat) (l0_0:List (S97)) (a0_1:Int) (a0_2:Int) (a0_3:Int) (a0_4:Int):Option ((List (S97)) × Int × Int × Int × Int):=spec_l02Copy.l0 k 0 l0_0 a0_1 a0_2 a0_3 a0_4 ([]:List (S97)) a0_1 a0_2 a0_3 a0_4
theorem spec_l02Copy.mono_l:∀ k,(∀ y0 y1 y2 y3 y4 y5 y6 y7 y8 y9 y10,LeO (spec_l02Copy.l0 k y0 y1 y2 y3 y4 y5 y6 y7 y8 y9 y10) (spec_l02Copy.l0 (k + 1) y0 y1 y2 y3 y4 y5 y6 y7 y8 y9 y10))
 | 0=>fun _ _ _ _ _ _ _ _ _ _ _ r h=>by simp [spec_l02Copy.l0] at h
 | k + 1=>by
  have ih0:=spec_l02Copy.mono_l k
  ·intro y0 y1 y2 y3 y4 y5 y6 y7 y8 y9 y10
   unfold spec_l02Copy.l0
   repeat' first
   | (with_reducible exact ih0 _ _ _ _ _ _ _ _ _ _ _)
   | (with_reducible exact LeO.refl _)
   | (with_reducible exact LeO.none _)
   | (with_reducible refine LeO.ite ?_ ?_)
   | (with_reducible refine LeO.bind ?_ (fun _=>?_))
   | exact ih0 _ _ _ _ _ _ _ _ _ _ _
   | exact LeO.none _
   | refine LeO.ite ?_ ?_
   | refine LeO.bind ?_ (fun _=>?_)
theorem spec_l02Copy.mono:∀ a0 a1 a2 a3 a4 k,LeO (spec_l02Copy.f k a0 a1 a2 a3 a4) (spec_l02Copy.f (k + 1) a0 a1 a2 a3 a4):=by
 intro a0 a1 a2 a3 a4 k
 have ih0:=spec_l02Copy.mono_l k
 unfold spec_l02Copy.f
 repeat' first
   | (with_reducible exact ih0 _ _ _ _ _ _ _ _ _ _ _)
   | (with_reducible exact LeO.refl _)
   | (with_reducible exact LeO.none _)
   | (with_reducible refine LeO.ite ?_ ?_)
   | (with_reducible refine LeO.bind ?_ (fun _=>?_))
   | exact ih0 _ _ _ _ _ _ _ _ _ _ _
   | exact LeO.none _
   | refine LeO.ite ?_ ?_
   | refine LeO.bind ?_ (fun _=>?_)
def spec_l02Copy.T6:Bool × List (List Nat × List Nat):=(true,[([],[]),([0],[0]),([],[]),([2],[2]),([],[]),([3,4],[3,4]),([5],[5]),([6],[6]),([1,7],[1,7]),([0,1,2,3,4,5,6,7,8],[]),([9,8,8,0,1,2,3,4,5,6,7,8],[8,9])])
def spec_l02Copy.B6:List Nat:=[0,1,0,4,0,28,60,124,255,511,1023]
theorem spec_l02Copy.tab6:rtab .any (opsOf Try.f48 6)=spec_l02Copy.T6:=by kernel_rfl
theorem spec_l02Copy.bits6:waitsOk spec_l02Copy.T6.2 spec_l02Copy.B6=true:=by kernel_rfl
set_option maxHeartbeats 8000000 in
set_option maxRecDepth 100000 in
theorem spec_l02Copy.calls (k:Nat) (A0_0:Option Addr) (c0_0:Nat) (l0_0:List (S97)) (a0_1:Int) (a0_2:Int) (a0_3:Int) (a0_4:Int) (r1:List (S97)) (r2:Int) (r3:Int) (r4:Int) (r5:Int) (w:World) (hr0_0:Kd.C k97 w A0_0 l0_0.length l0_0) (hc0_0:l0_0.length≤c0_0) (h:spec_l02Copy.f k l0_0 a0_1 a0_2 a0_3 a0_4=some (r1,r2,r3,r4,r5)) :
  Calls Try.prog 48 #[.agg #[.slice A0_0 l0_0.length c0_0,.int .i64 a0_1,.int .i64 a0_2,.int .i64 a0_3,.int .i64 a0_4]] w fun e w'=>∃ v0_:Value,e = .returned (.agg #[v0_,.int .i64 r2,.int .i64 r3,.int .i64 r4,.int .i64 r5])∧Kd.R k97 97 w' w.heap.size (fun _=>True) v0_ r1∧Below w.heap.size w w':=by
 have hu28:=Try.underlying28
 have hu97:=Try.underlying97
 have HR0_0:=Aside0.mk hr0_0
 have HC0_0:=Aside0.mk hc0_0
 clear hr0_0 hc0_0
 have HB:=Aside0.mk (Below.refl w.heap.size w)
 have H:(spec_l02Copy.l0 k 0 l0_0 a0_1 a0_2 a0_3 a0_4 ([]:List (S97)) a0_1 a0_2 a0_3 a0_4)=some (r1,r2,r3,r4,r5):=h
 clear h
 have H':=Aside0.mk H
 clear H
 go_enter Try.func48,Try.ntmps48
 go_wp2_with (first|((with_reducible refine gate_dst (N:=1) rfl ?_);refine bx 1 #[.slice A0_0 l0_0.length c0_0,.int .i64 a0_1,.int .i64 a0_2,.int .i64 a0_3,.int .i64 a0_4] 28 ?_;intro gb133 hg w2 hbox hb;have BK133:=Aside0.mk (hbox);have GW133:=Aside0.mk (bz hg:w.heap.size≤gb133);have GE133:=GW133;replace HB:=Aside0.mk (below_step bl hb);clear hb hbox hg)|((with_reducible refine gate_dst (N:=2) rfl ?_);refine bx 2 #[.slice none 0 0,.int .i64 0,.int .i64 0,.int .i64 0,.int .i64 0] 28 ?_;intro gb134 hg w3 hbox hb;have BK134:=Aside0.mk (hbox);have GW134:=Aside0.mk (bz hg:w.heap.size≤gb134);have GE134:=GW134;replace HB:=Aside0.mk (below_step bl hb);have NB133_134:=Aside0.mk (nl hg BK133:gb133≠gb134);have NB134_133:=Aside0.mk (nr hg BK133:gb134≠gb133);replace BK133:=Aside0.mk (blk_below (bk BK133) hb);clear hb hbox hg;have hnb4:=NB133_134.out;have hnc4:=NB134_133.out;obtain ⟨hcz5_0,hcz5_1,hcz5_2,hcz5_3,hcz5_4,hfz5_0,hfz5_1,hfz5_2,hfz5_3,hfz5_4⟩:=ck5 BK133.out)|((with_reducible refine gate_dst (N:=3) rfl ?_);refine bx 3 #[.slice none 0 0,.int .i64 0,.int .i64 0,.int .i64 0,.int .i64 0] 28 ?_;intro gb135 hg w6 hbox hb;have BK135:=Aside0.mk (hbox);have GW135:=Aside0.mk (bz hg:w.heap.size≤gb135);have GE135:=GW135;replace HB:=Aside0.mk (below_step bl hb);have NB133_135:=Aside0.mk (nl hg BK133:gb133≠gb135);have NB135_133:=Aside0.mk (nr hg BK133:gb135≠gb133);replace BK133:=Aside0.mk (blk_below (bk BK133) hb);have NB134_135:=Aside0.mk (nl hg BK134:gb134≠gb135);have NB135_134:=Aside0.mk (nr hg BK134:gb135≠gb134);replace BK134:=Aside0.mk (blk_below (bk BK134) hb);clear hb hbox hg;have hnb7:=NB135_133.out;have hnc7:=NB133_135.out;have hnb8:=NB135_134.out;have hnc8:=NB134_135.out;obtain ⟨hcz9_0,hcz9_1,hcz9_2,hcz9_3,hcz9_4,hfz9_0,hfz9_1,hfz9_2,hfz9_3,hfz9_4⟩:=ck5 BK135.out))
 go_loopg [4] k (fun kq v4 w'=>∃ (x4_1:Int) (x136000_1:List (S97)) (u136000:Value),v4 = .int .i64 x4_1∧Aside0 (spec_l02Copy.l0 kq x4_1 l0_0 a0_1 a0_2 a0_3 a0_4 x136000_1 a0_1 a0_2 a0_3 a0_4=some (r1,r2,r3,r4,r5))∧Aside0 (kq≤k)∧Aside0 (Kd.R k97 97 w' w.heap.size (fun _=>True) u136000 x136000_1)∧Aside0 (w'.heap[gb133]? = some (.cells #[(.slice A0_0 l0_0.length c0_0),.int .i64 a0_1,.int .i64 a0_2,.int .i64 a0_3,.int .i64 a0_4] 28 (0,0)))∧Aside0 (w'.heap[gb134]? = some (.cells #[(.slice none 0 0),.int .i64 0,.int .i64 0,.int .i64 0,.int .i64 0] 28 (0,0)))∧Aside0 (w'.heap[gb135]? = some (.cells #[u136000,.int .i64 a0_1,.int .i64 a0_2,.int .i64 a0_3,.int .i64 a0_4] 28 (0,0)))∧Aside0 (Below w.heap.size w w'))
 case atStart=>exact ⟨(0),(([]:List (S97))),(.slice none 0 0),(by first|rfl|(simp;done)|(simp [*];done)),H',⟨Nat.le_refl _⟩,⟨by first|exact Kd.R_nil _ _ _ _ _|exact Kd.N_nil _ _ _ _ _|exact Kd.V_nil _ _ _ _ _|exact Kd.Q_nil _ _ _ _ _|exact Kd.S_nil _ _ _ _ _⟩,⟨bf BK133⟩,⟨bf BK134⟩,⟨by (with_reducible repeat (first|refine blk_drewN ?_ _|refine blk_drew ?_|refine blk_alloc ?_ _));refine blk_put (cs:=#[.slice A0_0 l0_0.length c0_0,.int .i64 a0_1,.int .i64 a0_2,.int .i64 a0_3,.int .i64 a0_4]) ?_ 0 _ rfl;(with_reducible repeat (first|refine blk_drewN ?_ _|refine blk_drew ?_|refine blk_alloc ?_ _));refine blk_put (cs:=#[.slice A0_0 l0_0.length c0_0,.int .i64 a0_1,.int .i64 a0_2,.int .i64 a0_3,.int .i64 0]) ?_ 4 _ rfl;(with_reducible repeat (first|refine blk_drewN ?_ _|refine blk_drew ?_|refine blk_alloc ?_ _));refine blk_put (cs:=#[.slice A0_0 l0_0.length c0_0,.int .i64 a0_1,.int .i64 a0_2,.int .i64 0,.int .i64 0]) ?_ 3 _ rfl;(with_reducible repeat (first|refine blk_drewN ?_ _|refine blk_drew ?_|refine blk_alloc ?_ _));refine blk_put (cs:=#[.slice A0_0 l0_0.length c0_0,.int .i64 a0_1,.int .i64 0,.int .i64 0,.int .i64 0]) ?_ 2 _ rfl;(with_reducible repeat (first|refine blk_drewN ?_ _|refine blk_drew ?_|refine blk_alloc ?_ _));refine blk_put (cs:=#[.slice A0_0 l0_0.length c0_0,.int .i64 0,.int .i64 0,.int .i64 0,.int .i64 0]) ?_ 1 _ rfl;(with_reducible repeat (first|refine blk_drewN ?_ _|refine blk_drew ?_|refine blk_alloc ?_ _));refine blk_put (cs:=#[.slice none 0 0,.int .i64 0,.int .i64 0,.int .i64 0,.int .i64 0]) ?_ 0 _ rfl;(with_reducible repeat (first|refine blk_drewN ?_ _|refine blk_drew ?_|refine blk_alloc ?_ _));exact BK135.out⟩,⟨bl⟩⟩
 case round =>
  clear H'
  try clear p2
  try clear c4
  try clear c7
  try clear c8
  try clear hcz5_0
  try clear hcz5_1
  try clear hcz5_2
  try clear hcz5_3
  try clear hcz5_4
  try clear hcz9_0
  try clear hcz9_1
  try clear hcz9_2
  try clear hcz9_3
  try clear hcz9_4
  try clear hfz5_0
  try clear hfz5_1
  try clear hfz5_2
  try clear hfz5_3
  try clear hfz5_4
  try clear hfz9_0
  try clear hfz9_1
  try clear hfz9_2
  try clear hfz9_3
  try clear hfz9_4
  obtain ⟨x4_1,x136000_1,u136000,rfl,HA,HK1,HO_136000,BK133,BK134,BK135,HB⟩:=hrel
  cases gk with
  | zero=>exact absurd HA.out (by simp [spec_l02Copy.l0])
  | succ k1 =>
   have H:=HA.out
   clear HA
   simp only [spec_l02Copy.l0] at H
   by_cases c10:x4_1 < (l0_0.length:Int)
   ·rw [if_pos c10] at H
    have c10b0:decide (x4_1 < (l0_0.length:Int))=true:=decide_eq_true c10
    clear c10
    by_cases c11:0≤x4_1
    ·rw [if_pos c11] at H
     have c11b0:decide (0≤x4_1)=true:=decide_eq_true c11
     clear c11
     by_cases c12:x136000_1.length < 4398046511104
     ·rw [if_pos c12] at H
      have LMc12:=Aside0.mk c12
      clear c12
      obtain ⟨y137,hy137⟩:∃ y_:List (S97),y_=(x136000_1 ++ [(⟨(rd_T97 l0_0 x4_1).f0,(rd_T97 l0_0 x4_1).f1,(rd_T97 l0_0 x4_1).f2,(rd_T97 l0_0 x4_1).f3⟩:S97)]):=⟨_,rfl⟩
      replace H:(spec_l02Copy.l0 k1 (wrap64 (x4_1 + 1)) l0_0 a0_1 a0_2 a0_3 a0_4 y137 a0_1 a0_2 a0_3 a0_4)=some (r1,r2,r3,r4,r5):=by first|(rw [hy137];with_reducible exact H)|(have H2_:=(Option.bind_some _ _).symm.trans H;rw [hy137];with_reducible exact H2_)|(have H2_:=(Option.bind_some _ _).symm.trans H;with_reducible exact H2_)|with_reducible exact H|(rw [hy137];exact H)|exact H
      have Ny137:=Aside0.mk hy137
      clear hy137
      have H':=Aside0.mk H
      clear H
      have hnb13:=NB133_134.out
      have hnc13:=NB134_133.out
      have hnb14:=NB133_135.out
      have hnc14:=NB135_133.out
      obtain ⟨hcz15_0,hcz15_1,hcz15_2,hcz15_3,hcz15_4,hfz15_0,hfz15_1,hfz15_2,hfz15_3,hfz15_4⟩:=ck5 BK133.out
      try go_wp2
      replace HO_136000:=Aside0.mk (Kd.R_drew HO_136000.out)
      replace BK133:=Aside0.mk (blk_drew BK133.out)
      replace BK134:=Aside0.mk (blk_drew BK134.out)
      replace BK135:=Aside0.mk (blk_drew BK135.out)
      replace HB:=Aside0.mk (below_drew1 HB.out)
      have p136:0≤(x4_1:Int):=of_decide_eq_true (by first|(with_reducible assumption)|assumption)
      have q136:x4_1 < (l0_0.length:Int):=of_decide_eq_true (by first|(with_reducible assumption)|assumption)
      obtain ⟨ad136,e136,hx136_0,hx136_1,hx136_2,hx136_3⟩:=at_T97 HR0_0.out x4_1 p136 q136
      have hw136_3:=hx136_3
      have hw136_2:=hx136_2
      have hw136_1:=hx136_1
      have hw136_0:=hx136_0
      cases e136
      replace hx136_0:=cl HB hx136_0
      replace hx136_1:=cl HB hx136_1
      replace hx136_2:=cl HB hx136_2
      replace hx136_3:=cl HB hx136_3
      replace p136:=eq_true p136
      replace q136:=eq_true q136
      refine start_ (n:=11) (S:=fun w'=>w'.cell? ⟨gb135,0,none⟩=some (u136000)∧w'.cell? ⟨gb135,1,none⟩=some (.int .i64 a0_1)∧w'.cell? ⟨gb135,2,none⟩=some (.int .i64 a0_2)∧w'.cell? ⟨gb135,3,none⟩=some (.int .i64 a0_3)∧w'.cell? ⟨gb135,4,none⟩=some (.int .i64 a0_4)∧w'.cell? ⟨gb133,0,none⟩=some (.slice (some ad136) l0_0.length c0_0)∧w'.cell? ⟨gb133,1,none⟩=some (.int .i64 a0_1)∧w'.cell? ⟨gb133,2,none⟩=some (.int .i64 a0_2)∧w'.cell? ⟨gb133,3,none⟩=some (.int .i64 a0_3)∧w'.cell? ⟨gb133,4,none⟩=some (.int .i64 a0_4)∧w'.cell? (ad136.add ((x4_1).toNat * 4))=some (.int .i64 ((rd_T97 l0_0 x4_1).f0))∧w'.cell? ⟨(ad136.add ((x4_1).toNat * 4)).block,(ad136.add ((x4_1).toNat * 4)).off + 1,none⟩=some (.int .i64 ((rd_T97 l0_0 x4_1).f1))∧w'.cell? ⟨(ad136.add ((x4_1).toNat * 4)).block,(ad136.add ((x4_1).toNat * 4)).off + 2,none⟩=some (.int .i64 ((rd_T97 l0_0 x4_1).f2))∧w'.cell? ⟨(ad136.add ((x4_1).toNat * 4)).block,(ad136.add ((x4_1).toNat * 4)).off + 3,none⟩=some (.bool ((rd_T97 l0_0 x4_1).f3))) (ds:=[10]) (bs 11 0) (by kernel_rfl) rfl rfl ⟨bc BK135 0,bc BK135 1,bc BK135 2,bc BK135 3,bc BK135 4,bc BK133 0,bc BK133 1,bc BK133 2,bc BK133 3,bc BK133 4,(cl HB hw136_0),(cl HB hw136_1),(cl HB hw136_2),(cl HB hw136_3)⟩ (fun hHeld=>?_);refine with_tabW spec_l02Copy.tab6 spec_l02Copy.bits6 (fun HT_ HW_=>?_)
      generalize wr.drew=w16 at HO_136000 BK133 BK134 BK135 HB hx136_0 hx136_1 hx136_2 hx136_3 hHeld ⊢
      refine pq 0 14 (bs 11 1) HT_ ?_
      refine pq 2 16 (bs 11 5) HT_ ?_
      refine pq 4 18 (bs 11 21) HT_ ?_
      refine tq 1 15 (bs 11 23) HT_ HW_ hHeld ?_
      refine tq 3 17 (bs 11 31) HT_ HW_ hHeld ?_
      refine pq 5 19 (bs 11 63) HT_ ?_
      refine tq 6 20 (bs 11 127) HT_ HW_ hHeld ?_
      refine one_ (i:=7) (N:=some 21) (bs 11 255) rfl rfl (one_of HT_.out (by kernel_rfl)) (by decide) (fun K hK=>?_)
      refine value_ (w1:=?_) (v:=?_) (by rfl) rfl ?_ ?_
      rotate_left 2
      ·go_simp
       constructor
       ·rfl
       ·rfl
      refine hK.out _ _ ⟨(blk_cell (blk_alloc BK135.out _) 0).trans rfl,(blk_cell (blk_alloc BK135.out _) 1).trans rfl,(blk_cell (blk_alloc BK135.out _) 2).trans rfl,(blk_cell (blk_alloc BK135.out _) 3).trans rfl,(blk_cell (blk_alloc BK135.out _) 4).trans rfl,(blk_cell (blk_alloc BK133.out _) 0).trans rfl,(blk_cell (blk_alloc BK133.out _) 1).trans rfl,(blk_cell (blk_alloc BK133.out _) 2).trans rfl,(blk_cell (blk_alloc BK133.out _) 3).trans rfl,(blk_cell (blk_alloc BK133.out _) 4).trans rfl,(World.cell?_alloc_lt _ _ _ (World.block_lt_of_cell? _ _ ((cl HB hw136_0)))).trans ((cl HB hw136_0)),(World.cell?_alloc_lt _ _ _ (World.block_lt_of_cell? _ _ ((cl HB hw136_1)))).trans ((cl HB hw136_1)),(World.cell?_alloc_lt _ _ _ (World.block_lt_of_cell? _ _ ((cl HB hw136_2)))).trans ((cl HB hw136_2)),(World.cell?_alloc_lt _ _ _ (World.block_lt_of_cell? _ _ ((cl HB hw136_3)))).trans ((cl HB hw136_3))⟩ (fun hHeld=>?_)
      clear hK K
      refine nrm ?_
      refine one_ (i:=8) (N:=some 22) (bs 11 511) rfl rfl (one_of HT_.out (by kernel_rfl)) (by decide) (fun K hK=>?_)
      refine Kd.R_append_step k97 (w0:=w) w.heap.size (by rfl) (.tmp 15) (.tmp 21) 26 97 (.agg #[(.int .i64 0),(.int .i64 0),(.int .i64 0),(.bool false)]) 32 rfl Try.underlying26 info97 rfl (by decide) (by omega) u136000 x136000_1 (⟨(rd_T97 l0_0 x4_1).f0,(rd_T97 l0_0 x4_1).f1,(rd_T97 l0_0 x4_1).f2,(rd_T97 l0_0 x4_1).f3⟩:S97) [.int .i64 ((rd_T97 l0_0 x4_1).f0),.int .i64 ((rd_T97 l0_0 x4_1).f1),.int .i64 ((rd_T97 l0_0 x4_1).f2),.bool ((rd_T97 l0_0 x4_1).f3)] (fun _=>True) (fun _=>False) rfl rfl ?aP (fun _ hk=>hk.elim) ?aF ?aO ?aB ?aS ?aL ?_
      (case aP=>exact k97_mkM _ _ _ (⟨(rd_T97 l0_0 x4_1).f0,(rd_T97 l0_0 x4_1).f1,(rd_T97 l0_0 x4_1).f2,(rd_T97 l0_0 x4_1).f3⟩:S97))
      (case aB=>exact bl)
      (case aF=>exact (fun _ _=>trivial))
      (case aO=>exact (kr HO_136000))
      (case aS=>exact (below_size bl))
      (case aL=>have:=LMc12.out;omega)
      intro v138 w17 ho hb hg hat
      rw [← Ny137.out] at ho
      replace BK133:=Aside0.mk (blk_grown (bk BK133) hg (Kd.R_ne HO_136000.out BK133.out (by decide)))
      replace BK134:=Aside0.mk (blk_grown (bk BK134) hg (Kd.R_ne HO_136000.out BK134.out (by decide)))
      replace BK135:=Aside0.mk (blk_grown (bk BK135) hg (Kd.R_ne HO_136000.out BK135.out (by decide)))
      replace HB:=Aside0.mk (hb)
      have HO139:=Aside0.mk (ho)
      clear HO_136000
      clear ho hb hg hat
      obtain ⟨Ao18,co18,eo18⟩:=Kd.R_slice HO139.out
      (first|subst eo18|(injection eo18 with f1_ f2_ f3_;have f4_:=f1_.symm;have f5_:=f3_.symm;clear f1_ f2_ f3_;subst f4_;subst f5_))
      refine hK.out _ _ ⟨bc BK135 0,bc BK135 1,bc BK135 2,bc BK135 3,bc BK135 4,bc BK133 0,bc BK133 1,bc BK133 2,bc BK133 3,bc BK133 4,(cl HB hw136_0),(cl HB hw136_1),(cl HB hw136_2),(cl HB hw136_3)⟩ (fun hHeld=>?_)
      clear hK K
      refine nrm ?_
      refine pq 9 23 (bs 11 1023) HT_ ?_
      refine last_ (i:=10) (N:=none) (bs 11 2047) rfl rfl (one_of HT_.out (by kernel_rfl)) (by decide) (fun K hK=>?_)
      have hs19:w17.cell? ⟨gb135,0,none⟩=some (u136000):=(blk_cell BK135.out 0).trans rfl
      have hfs19:=blk_frozen BK135.out 0
      have hns19_0:=NB133_135.out
      have hns19_1:=NB134_135.out
      have hms19_0:=NB135_133.out
      have hms19_1:=NB135_134.out
      refine skip_ (w1:=?_) (by rfl) rfl ?_ ?_
      rotate_left
      ·go_simp
       rfl
      refine hK.out _ _ ?_
      clear hK K
      refine done_ (done_of HT_.out (by kernel_rfl)) ?_
      try go_wp2
      go_roundg k1
      case measure=>have:=HK1.out;omega
      case rel=>exact ⟨(wrap64 (x4_1 + 1)),(y137),(.slice Ao18 y137.length co18),(by first|rfl|(simp;done)|(simp [*];done)),H',⟨by have:=HK1.out;omega⟩,⟨by (with_reducible repeat (first|apply Kd.R_alloc|apply Kd.R_drewN|apply Kd.R_drew));exact Kd.R_mono (Kd.R_far (p:=⟨gb135,0,none⟩) (Kd.R_types HO139.out BK135.out (by decide)) (fun _ hk=>hk.2) (.slice Ao18 y137.length co18)) (fun _ hk=>trivial)⟩,⟨bf BK133⟩,⟨bf BK134⟩,⟨by (with_reducible repeat (first|refine blk_drewN ?_ _|refine blk_drew ?_|refine blk_alloc ?_ _));refine blk_put (cs:=#[u136000,.int .i64 a0_1,.int .i64 a0_2,.int .i64 a0_3,.int .i64 a0_4]) ?_ 0 _ rfl;(with_reducible repeat (first|refine blk_drewN ?_ _|refine blk_drew ?_|refine blk_alloc ?_ _));exact BK135.out⟩,⟨bl⟩⟩
     ·rw [if_neg c12] at H
      exact absurd H (by simp)
    ·rw [if_neg c11] at H
     exact absurd H (by simp)
   ·rw [if_neg c10] at H
    have c10b0:decide (x4_1 < (l0_0.length:Int))=false:=decide_eq_false c10
    clear c10
    simp only [Option.some.injEq,Prod.mk.injEq] at H
    obtain ⟨rfl,rfl,rfl,rfl,rfl⟩:=H
    have hnb20:=NB133_134.out
    have hnc20:=NB134_133.out
    have hnb21:=NB133_135.out
    have hnc21:=NB135_133.out
    obtain ⟨hcz22_0,hcz22_1,hcz22_2,hcz22_3,hcz22_4,hfz22_0,hfz22_1,hfz22_2,hfz22_3,hfz22_4⟩:=ck5 BK133.out
    have hnb23:=NB135_134.out
    have hnc23:=NB134_135.out
    obtain ⟨hcz24_0,hcz24_1,hcz24_2,hcz24_3,hcz24_4,hfz24_0,hfz24_1,hfz24_2,hfz24_3,hfz24_4⟩:=ck5 BK135.out
    obtain ⟨Ao25,co25,eo25⟩:=Kd.R_slice HO_136000.out
    subst eo25
    obtain ⟨hcz26_0,hcz26_1,hcz26_2,hcz26_3,hcz26_4,hfz26_0,hfz26_1,hfz26_2,hfz26_3,hfz26_4⟩:=ck5 BK134.out
    go_wp2
    refine bodyPost_ret (results_cell_row rfl _ _ gb134 28 #[.slice Ao25 x136000_1.length co25,.int .i64 a0_1,.int .i64 a0_2,.int .i64 a0_3,.int .i64 a0_4] (0,0) _ rfl (by (with_reducible repeat (first|refine blk_drewN ?_ _|refine blk_drew ?_|refine blk_alloc ?_ _));refine blk_put (cs:=#[.slice Ao25 x136000_1.length co25,.int .i64 a0_1,.int .i64 a0_2,.int .i64 a0_3,.int .i64 0]) ?_ 4 _ rfl;(with_reducible repeat (first|refine blk_drewN ?_ _|refine blk_drew ?_|refine blk_alloc ?_ _));refine blk_put (cs:=#[.slice Ao25 x136000_1.length co25,.int .i64 a0_1,.int .i64 a0_2,.int .i64 0,.int .i64 0]) ?_ 3 _ rfl;(with_reducible repeat (first|refine blk_drewN ?_ _|refine blk_drew ?_|refine blk_alloc ?_ _));refine blk_put (cs:=#[.slice Ao25 x136000_1.length co25,.int .i64 a0_1,.int .i64 0,.int .i64 0,.int .i64 0]) ?_ 2 _ rfl;(with_reducible repeat (first|refine blk_drewN ?_ _|refine blk_drew ?_|refine blk_alloc ?_ _));refine blk_put (cs:=#[.slice Ao25 x136000_1.length co25,.int .i64 0,.int .i64 0,.int .i64 0,.int .i64 0]) ?_ 1 _ rfl;(with_reducible repeat (first|refine blk_drewN ?_ _|refine blk_drew ?_|refine blk_alloc ?_ _));refine blk_put (cs:=#[.slice none 0 0,.int .i64 0,.int .i64 0,.int .i64 0,.int .i64 0]) ?_ 0 _ rfl;(with_reducible repeat (first|refine blk_drewN ?_ _|refine blk_drew ?_|refine blk_alloc ?_ _));exact BK134.out) Try.underlying28 rfl (by kernel_rfl)) rfl ?_
    exact ⟨_,by first|rfl|(simp [errW_none,errW_some] <;> rfl)|(simp [*,errW_none,errW_some] <;> rfl),by (with_reducible repeat (first|apply Kd.R_alloc|apply Kd.R_drewN|apply Kd.R_drew));exact Kd.R_mono (Kd.R_far (p:=⟨gb134,4,none⟩) (Kd.R_far (p:=⟨gb134,3,none⟩) (Kd.R_far (p:=⟨gb134,2,none⟩) (Kd.R_far (p:=⟨gb134,1,none⟩) (Kd.R_far (p:=⟨gb134,0,none⟩) (Kd.R_types HO_136000.out BK134.out (by decide)) (fun _ hk=>hk.2) (.slice Ao25 x136000_1.length co25)) (fun _ hk=>hk.2) (.int .i64 a0_1)) (fun _ hk=>hk.2) (.int .i64 a0_2)) (fun _ hk=>hk.2) (.int .i64 a0_3)) (fun _ hk=>hk.2) (.int .i64 a0_4)) (fun _ hk=>trivial),bl⟩

end Go.Proofs.Ytnkpjpfmjkiidaa.PFnExactMoveBack
