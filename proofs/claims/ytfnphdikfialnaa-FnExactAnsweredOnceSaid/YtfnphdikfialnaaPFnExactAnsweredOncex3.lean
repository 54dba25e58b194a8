/- Contracts of functions of the given program: what each call answers. Written by a program of this session, out of the text of the functions. -/
import Derived.Test.YtfnphdikfialnaaPFnExactAnsweredOncex0
import Derived.Test.YtfnphdikfialnaaPFnExactAnsweredOncex1
import Derived.Test.YtfnphdikfialnaaPFnExactAnsweredOncex2
import Derived.Test.YtfnphdikfialnaaPrs
namespace Go.Proofs.Ytfnphdikfialnaa.PFnExactAnsweredOnce
open Go.RowKit Go.Proofs.YtfnphdikfialnaaW.PrintWords Go.Proofs.YtfnphdikfialnaaW.PrintLast Go.Proofs.YtfnphdikfialnaaW.PrintMore Go.Proofs.Ytfnphdikfialnaa.Giv Go.Proofs.Ytfnphdikfialnaa.Prs
attribute [local go_sem] max2_int min2_int max_two min_two max_three min_three max_four min_four   -- for this text's walks alone
set_option linter.unusedVariables false
set_option linter.unusedSimpArgs false

/-! ### spec_l11Answer: function 10 -/
def spec_l11Answer.f (a0:Int):Option (Bool):=if a0=3 then (some true) else ((spec_l01In.f a0 7 9).bind fun t113=>(some t113))
set_option maxHeartbeats 8000000 in
set_option maxRecDepth 100000 in
theorem spec_l11Answer.calls (a0:Int) (r:Bool) (w:World) (h:spec_l11Answer.f a0=some r) :
  Calls Try.prog 10 #[.int .i64 a0] w fun e w'=>e = .returned (.bool r)∧Drawn0 w w':=by
 have H:(if a0=3 then (some true) else ((spec_l01In.f a0 7 9).bind fun t113=>(some t113)))=some r:=h
 clear h
 by_cases c2:a0=3
 ·rw [if_pos c2] at H
  have c2b0:(a0 == 3)=true:=beq_iff_eq.mpr c2
  have c2b1:(a0 != 3)=false:=bne_eq_false_iff_eq.mpr c2
  clear c2
  obtain rfl:=Option.some.inj H
  go_enter Try.func10,Try.ntmps10
  go_wp2
  go_ret
  exact ⟨by first|rfl|(simp;done)|(simp [*];done),by repeat (first|exact Drawn0.refl _|apply Drawn0.step)⟩
 ·rw [if_neg c2] at H
  have c2b0:(a0 == 3)=false:=beq_eq_false_iff_ne.mpr c2
  have c2b1:(a0 != 3)=true:=bne_iff_ne.mpr c2
  replace H:=Option.bind_eq_some_iff.mp H
  obtain ⟨t113,A30,H⟩:=H
  have A3:=Aside0.mk A30
  clear A30
  obtain rfl:=Option.some.inj H
  go_enter Try.func10,Try.ntmps10
  go_wp2_with (first|(go_at_call 15;(with_reducible refine (spec_l01In.calls a0 7 9 t113 _ A3.out).mono ?_);rintro e w' ⟨rfl,⟨nd,rfl⟩⟩))
  go_ret
  exact ⟨by first|rfl|(simp;done)|(simp [*];done),by repeat (first|exact Drawn0.refl _|apply Drawn0.step)⟩

/-! ### spec_AnsweredOnce: function 5 -/
mutual
def spec_AnsweredOnce.l0:Nat→List (S31)→Int→Option (Bool)
 | 0,_,_=>none
 | k + 1,x0,x3=>if x3 < (x0.length:Int) then (spec_AnsweredOnce.l1 k x0 x3 0) else (some true)
def spec_AnsweredOnce.l1:Nat→List (S31)→Int→Int→Option (Bool)
 | 0,_,_,_=>none
 | k + 1,x0,x3,x4=>if x4 < x3 then (if 0≤x3 then (if x3 < (x0.length:Int) then ((spec_l11Answer.f ((rd_T31 x0 x3).f0)).bind fun t116=>(if t116=true then (if 0≤x4 then (if x4 < (x0.length:Int) then ((spec_l11Answer.f ((rd_T31 x0 x4).f0)).bind fun t118=>(if t118=true then (if ((rd_T31 x0 x3).f1)=((rd_T31 x0 x4).f1) then (some false) else (spec_AnsweredOnce.l1 k x0 x3 (wrap64 (x4 + 1)))) else (spec_AnsweredOnce.l1 k x0 x3 (wrap64 (x4 + 1))))) else (none)) else (none)) else (spec_AnsweredOnce.l1 k x0 x3 (wrap64 (x4 + 1))))) else (none)) else (none)) else (spec_AnsweredOnce.l0 k x0 (wrap64 (x3 + 1)))
end
def spec_AnsweredOnce.f (k:Nat) (l0:List (S31)):Option (Bool):=(spec_LogOk.f k l0).bind fun t114=>(if t114=true then (spec_AnsweredOnce.l0 k l0 0) else (some false))
theorem spec_AnsweredOnce.mono_l:∀ k,(∀ y0 y1,LeO (spec_AnsweredOnce.l0 k y0 y1) (spec_AnsweredOnce.l0 (k + 1) y0 y1))∧(∀ y0 y1 y2,LeO (spec_AnsweredOnce.l1 k y0 y1 y2) (spec_AnsweredOnce.l1 (k + 1) y0 y1 y2))
 | 0=>⟨fun _ _ r h=>by simp [spec_AnsweredOnce.l0] at h,fun _ _ _ r h=>by simp [spec_AnsweredOnce.l1] at h⟩
 | k + 1=>by
  obtain ⟨ih0,ih1⟩:=spec_AnsweredOnce.mono_l k
  refine ⟨?_,?_⟩
  ·intro y0 y1
   unfold spec_AnsweredOnce.l0
   repeat' first
   | (with_reducible exact ih0 _ _)
   | (with_reducible exact ih1 _ _ _)
   | (with_reducible exact spec_LogOk.mono _ _)
   | (with_reducible exact LeO.refl _)
   | (with_reducible exact LeO.none _)
   | (with_reducible refine LeO.ite ?_ ?_)
   | (with_reducible refine LeO.bind ?_ (fun _=>?_))
   | exact ih0 _ _
   | exact ih1 _ _ _
   | exact spec_LogOk.mono _ _
   | exact LeO.none _
   | refine LeO.ite ?_ ?_
   | refine LeO.bind ?_ (fun _=>?_)
  ·intro y0 y1 y2
   unfold spec_AnsweredOnce.l1
   repeat' first
   | (with_reducible exact ih0 _ _)
   | (with_reducible exact ih1 _ _ _)
   | (with_reducible exact spec_LogOk.mono _ _)
   | (with_reducible exact LeO.refl _)
   | (with_reducible exact LeO.none _)
   | (with_reducible refine LeO.ite ?_ ?_)
   | (with_reducible refine LeO.bind ?_ (fun _=>?_))
   | exact ih0 _ _
   | exact ih1 _ _ _
   | exact spec_LogOk.mono _ _
   | exact LeO.none _
   | refine LeO.ite ?_ ?_
   | refine LeO.bind ?_ (fun _=>?_)
theorem spec_AnsweredOnce.mono:∀ a0 k,LeO (spec_AnsweredOnce.f k a0) (spec_AnsweredOnce.f (k + 1) a0):=by
 intro a0 k
 obtain ⟨ih0,ih1⟩:=spec_AnsweredOnce.mono_l k
 unfold spec_AnsweredOnce.f
 repeat' first
   | (with_reducible exact ih0 _ _)
   | (with_reducible exact ih1 _ _ _)
   | (with_reducible exact spec_LogOk.mono _ _)
   | (with_reducible exact LeO.refl _)
   | (with_reducible exact LeO.none _)
   | (with_reducible refine LeO.ite ?_ ?_)
   | (with_reducible refine LeO.bind ?_ (fun _=>?_))
   | exact ih0 _ _
   | exact ih1 _ _ _
   | exact spec_LogOk.mono _ _
   | exact LeO.none _
   | refine LeO.ite ?_ ?_
   | refine LeO.bind ?_ (fun _=>?_)
set_option maxHeartbeats 8000000 in
set_option maxRecDepth 100000 in
theorem spec_AnsweredOnce.calls (k:Nat) (A0:Option Addr) (c0:Nat) (l0:List (S31)) (r:Bool) (w:World) (hr0:Kd.C k31 w A0 l0.length l0) (hc0:l0.length≤c0) (h:spec_AnsweredOnce.f k l0=some r) :
  Calls Try.prog 5 #[.slice A0 l0.length c0] w fun e w'=>e = .returned (.bool r)∧Below w.heap.size w w':=by
 have HR0:=Aside0.mk hr0
 have HC0:=Aside0.mk hc0
 clear hr0 hc0
 have HB:=Aside0.mk (Below.refl w.heap.size w)
 have H:((spec_LogOk.f k l0).bind fun t114=>(if t114=true then (spec_AnsweredOnce.l0 k l0 0) else (some false)))=some r:=h
 clear h
 replace H:=Option.bind_eq_some_iff.mp H
 obtain ⟨t114,A20,H⟩:=H
 have A2:=Aside0.mk A20
 clear A20
 by_cases c3:t114=true
 ·subst c3
  rw [if_pos rfl] at H
  have H':=Aside0.mk H
  clear H
  go_enter Try.func5,Try.ntmps5
  go_wp2_with (first|(go_at_call 9;(with_reducible refine (spec_LogOk.calls k _ _ l0 true _ ?side1 ?side2 A2.out).mono ?_);(case side1=>repeat (first|exact HR0.out|(with_reducible refine Kd.C_alloc ?_ _)|(with_reducible refine Kd.C_drewN ?_ _)|(with_reducible refine Kd.C_drew ?_)));(case side2=>exact HC0.out);rintro e w4 ⟨rfl,hb⟩;replace HB:=Aside0.mk (below_step bl hb);(try clear hb);(try clear hb2);(try clear hk);(try clear hi)))
  repeat (go_quiet (first|(go_at_call 9;(with_reducible refine (spec_LogOk.calls k _ _ l0 true _ ?side1 ?side2 A2.out).mono ?_);(case side1=>repeat (first|exact HR0.out|(with_reducible refine Kd.C_alloc ?_ _)|(with_reducible refine Kd.C_drewN ?_ _)|(with_reducible refine Kd.C_drew ?_)));(case side2=>exact HC0.out);rintro e w4 ⟨rfl,hb⟩;replace HB:=Aside0.mk (below_step bl hb);(try clear hb);(try clear hb2);(try clear hk);(try clear hi)));try go_wp2_with (first|(go_at_call 9;(with_reducible refine (spec_LogOk.calls k _ _ l0 true _ ?side1 ?side2 A2.out).mono ?_);(case side1=>repeat (first|exact HR0.out|(with_reducible refine Kd.C_alloc ?_ _)|(with_reducible refine Kd.C_drewN ?_ _)|(with_reducible refine Kd.C_drew ?_)));(case side2=>exact HC0.out);rintro e w4 ⟨rfl,hb⟩;replace HB:=Aside0.mk (below_step bl hb);(try clear hb);(try clear hb2);(try clear hk);(try clear hi))))
  go_loopg [3] k (fun kq v3 w'=>∃ (x3_1:Int),v3 = .int .i64 x3_1∧Aside0 (spec_AnsweredOnce.l0 kq l0 x3_1=some r)∧Aside0 (kq≤k)∧Aside0 (Below w.heap.size w w'))
  case atStart=>exact ⟨(0),(by first|rfl|(simp;done)|(simp [*];done)),H',⟨Nat.le_refl _⟩,⟨bl⟩⟩
  case round =>
   clear H'
   try clear p2
   try clear c3
   obtain ⟨x3_1,rfl,HA,HK1,HB⟩:=hrel
   cases gk with
   | zero=>exact absurd HA.out (by simp [spec_AnsweredOnce.l0])
   | succ k1 =>
    have H:=HA.out
    clear HA
    simp only [spec_AnsweredOnce.l0] at H
    by_cases c5:x3_1 < (l0.length:Int)
    ·rw [if_pos c5] at H
     have c5b0:decide (x3_1 < (l0.length:Int))=true:=decide_eq_true c5
     clear c5
     have H':=Aside0.mk H
     clear H
     go_wp2
     repeat (go_quiet (fail);try go_wp2)
     go_loopg [4] k1 (fun kq v4 w'=>∃ (x4_2:Int),v4 = .int .i64 x4_2∧Aside0 (spec_AnsweredOnce.l1 kq l0 x3_1 x4_2=some r)∧Aside0 (kq≤k1)∧Aside0 (Below w.heap.size w w'))
     case atStart=>exact ⟨(0),(by first|rfl|(simp;done)|(simp [*];done)),H',⟨Nat.le_refl _⟩,⟨bl⟩⟩
     case round =>
      clear H'
      try clear p2
      try clear c3
      try clear c5
      try clear c5b0
      try clear p2
      obtain ⟨x4_2,rfl,HA,HK2,HB⟩:=hrel
      cases gk with
      | zero=>exact absurd HA.out (by simp [spec_AnsweredOnce.l1])
      | succ k2 =>
       have H:=HA.out
       clear HA
       simp only [spec_AnsweredOnce.l1] at H
       by_cases c6:x4_2 < x3_1
       ·rw [if_pos c6] at H
        have c6b0:decide (x4_2 < x3_1)=true:=decide_eq_true c6
        clear c6
        by_cases c7:0≤x3_1
        case neg =>
         rw [if_neg c7] at H
         exact absurd H (by simp)
        rw [if_pos c7] at H
        have c7b0:decide (0≤x3_1)=true:=decide_eq_true c7
        clear c7
        by_cases c8:x3_1 < (l0.length:Int)
        case neg =>
         rw [if_neg c8] at H
         exact absurd H (by simp)
        rw [if_pos c8] at H
        have c8b0:decide (x3_1 < (l0.length:Int))=true:=decide_eq_true c8
        clear c8
        replace H:=Option.bind_eq_some_iff.mp H
        obtain ⟨t116,A90,H⟩:=H
        have A9:=Aside0.mk A90
        clear A90
        by_cases c10:t116=true
        ·subst c10
         rw [if_pos rfl] at H
         by_cases c11:0≤x4_2
         case neg =>
          rw [if_neg c11] at H
          exact absurd H (by simp)
         rw [if_pos c11] at H
         have c11b0:decide (0≤x4_2)=true:=decide_eq_true c11
         clear c11
         by_cases c12:x4_2 < (l0.length:Int)
         case neg =>
          rw [if_neg c12] at H
          exact absurd H (by simp)
         rw [if_pos c12] at H
         have c12b0:decide (x4_2 < (l0.length:Int))=true:=decide_eq_true c12
         clear c12
         replace H:=Option.bind_eq_some_iff.mp H
         obtain ⟨t118,A130,H⟩:=H
         have A13:=Aside0.mk A130
         clear A130
         by_cases c14:t118=true
         ·subst c14
          rw [if_pos rfl] at H
          by_cases c15:((rd_T31 l0 x3_1).f1)=((rd_T31 l0 x4_2).f1)
          ·rw [if_pos c15] at H
           have c15b0:(((rd_T31 l0 x3_1).f1) == ((rd_T31 l0 x4_2).f1))=true:=beq_iff_eq.mpr c15
           have c15b1:(((rd_T31 l0 x3_1).f1) != ((rd_T31 l0 x4_2).f1))=false:=bne_eq_false_iff_eq.mpr c15
           clear c15
           obtain rfl:=Option.some.inj H
           have p115:0≤(x3_1:Int):=od
           have q115:x3_1 < (l0.length:Int):=od
           obtain ⟨ad115,e115,hx115_0,hx115_1,hx115_2⟩:=at_T31 HR0.out x3_1 p115 q115
           cases e115
           replace hx115_0:=cl HB hx115_0
           replace hx115_1:=cl HB hx115_1
           replace hx115_2:=cl HB hx115_2
           replace p115:=eq_true p115
           replace q115:=eq_true q115
           go_wp2_with (first|(go_at_call 10;(with_reducible refine (spec_l11Answer.calls ((rd_T31 l0 x3_1).f0) true _ A9.out).mono ?_);rintro e w' ⟨rfl,⟨nd,rfl⟩⟩;(try first|exact ⟨rfl,_,World.drewN_drewN _ _ _⟩|exact ⟨rfl,_,Eq.trans (World.drewN_drewN _ _ _) (congrArg (World.drewN _) (Nat.add_assoc _ _ _))⟩);have p117:0≤(x4_2:Int):=od;have q117:x4_2 < (l0.length:Int):=od;obtain ⟨ad117,e117,hx117_0,hx117_1,hx117_2⟩:=at_T31 HR0.out x4_2 p117 q117;obtain rfl:ad115=ad117:=(by injection e117);replace hx117_0:=cl HB hx117_0;replace hx117_1:=cl HB hx117_1;replace hx117_2:=cl HB hx117_2;replace p117:=eq_true p117;replace q117:=eq_true q117)|(go_at_call 10;(with_reducible refine (spec_l11Answer.calls ((rd_T31 l0 x4_2).f0) true _ A13.out).mono ?_);rintro e w' ⟨rfl,⟨nd,rfl⟩⟩;(try first|exact ⟨rfl,_,World.drewN_drewN _ _ _⟩|exact ⟨rfl,_,Eq.trans (World.drewN_drewN _ _ _) (congrArg (World.drewN _) (Nat.add_assoc _ _ _))⟩);have p119:0≤(x3_1:Int):=od;have q119:x3_1 < (l0.length:Int):=od;obtain ⟨ad119,e119,hx119_0,hx119_1,hx119_2⟩:=at_T31 HR0.out x3_1 p119 q119;obtain rfl:ad115=ad119:=(by injection e119);replace hx119_0:=cl HB hx119_0;replace hx119_1:=cl HB hx119_1;replace hx119_2:=cl HB hx119_2;replace p119:=eq_true p119;replace q119:=eq_true q119;have p120:0≤(x4_2:Int):=od;have q120:x4_2 < (l0.length:Int):=od;obtain ⟨ad120,e120,hx120_0,hx120_1,hx120_2⟩:=at_T31 HR0.out x4_2 p120 q120;obtain rfl:ad115=ad120:=(by injection e120);replace hx120_0:=cl HB hx120_0;replace hx120_1:=cl HB hx120_1;replace hx120_2:=cl HB hx120_2;replace p120:=eq_true p120;replace q120:=eq_true q120))
           repeat (go_quiet (first|(go_at_call 10;(with_reducible refine (spec_l11Answer.calls ((rd_T31 l0 x3_1).f0) true _ A9.out).mono ?_);rintro e w' ⟨rfl,⟨nd,rfl⟩⟩;(try first|exact ⟨rfl,_,World.drewN_drewN _ _ _⟩|exact ⟨rfl,_,Eq.trans (World.drewN_drewN _ _ _) (congrArg (World.drewN _) (Nat.add_assoc _ _ _))⟩);have p117:0≤(x4_2:Int):=od;have q117:x4_2 < (l0.length:Int):=od;obtain ⟨ad117,e117,hx117_0,hx117_1,hx117_2⟩:=at_T31 HR0.out x4_2 p117 q117;obtain rfl:ad115=ad117:=(by injection e117);replace hx117_0:=cl HB hx117_0;replace hx117_1:=cl HB hx117_1;replace hx117_2:=cl HB hx117_2;replace p117:=eq_true p117;replace q117:=eq_true q117)|(go_at_call 10;(with_reducible refine (spec_l11Answer.calls ((rd_T31 l0 x4_2).f0) true _ A13.out).mono ?_);rintro e w' ⟨rfl,⟨nd,rfl⟩⟩;(try first|exact ⟨rfl,_,World.drewN_drewN _ _ _⟩|exact ⟨rfl,_,Eq.trans (World.drewN_drewN _ _ _) (congrArg (World.drewN _) (Nat.add_assoc _ _ _))⟩);have p119:0≤(x3_1:Int):=od;have q119:x3_1 < (l0.length:Int):=od;obtain ⟨ad119,e119,hx119_0,hx119_1,hx119_2⟩:=at_T31 HR0.out x3_1 p119 q119;obtain rfl:ad115=ad119:=(by injection e119);replace hx119_0:=cl HB hx119_0;replace hx119_1:=cl HB hx119_1;replace hx119_2:=cl HB hx119_2;replace p119:=eq_true p119;replace q119:=eq_true q119;have p120:0≤(x4_2:Int):=od;have q120:x4_2 < (l0.length:Int):=od;obtain ⟨ad120,e120,hx120_0,hx120_1,hx120_2⟩:=at_T31 HR0.out x4_2 p120 q120;obtain rfl:ad115=ad120:=(by injection e120);replace hx120_0:=cl HB hx120_0;replace hx120_1:=cl HB hx120_1;replace hx120_2:=cl HB hx120_2;replace p120:=eq_true p120;replace q120:=eq_true q120));try go_wp2_with (first|(go_at_call 10;(with_reducible refine (spec_l11Answer.calls ((rd_T31 l0 x3_1).f0) true _ A9.out).mono ?_);rintro e w' ⟨rfl,⟨nd,rfl⟩⟩;(try first|exact ⟨rfl,_,World.drewN_drewN _ _ _⟩|exact ⟨rfl,_,Eq.trans (World.drewN_drewN _ _ _) (congrArg (World.drewN _) (Nat.add_assoc _ _ _))⟩);have p117:0≤(x4_2:Int):=od;have q117:x4_2 < (l0.length:Int):=od;obtain ⟨ad117,e117,hx117_0,hx117_1,hx117_2⟩:=at_T31 HR0.out x4_2 p117 q117;obtain rfl:ad115=ad117:=(by injection e117);replace hx117_0:=cl HB hx117_0;replace hx117_1:=cl HB hx117_1;replace hx117_2:=cl HB hx117_2;replace p117:=eq_true p117;replace q117:=eq_true q117)|(go_at_call 10;(with_reducible refine (spec_l11Answer.calls ((rd_T31 l0 x4_2).f0) true _ A13.out).mono ?_);rintro e w' ⟨rfl,⟨nd,rfl⟩⟩;(try first|exact ⟨rfl,_,World.drewN_drewN _ _ _⟩|exact ⟨rfl,_,Eq.trans (World.drewN_drewN _ _ _) (congrArg (World.drewN _) (Nat.add_assoc _ _ _))⟩);have p119:0≤(x3_1:Int):=od;have q119:x3_1 < (l0.length:Int):=od;obtain ⟨ad119,e119,hx119_0,hx119_1,hx119_2⟩:=at_T31 HR0.out x3_1 p119 q119;obtain rfl:ad115=ad119:=(by injection e119);replace hx119_0:=cl HB hx119_0;replace hx119_1:=cl HB hx119_1;replace hx119_2:=cl HB hx119_2;replace p119:=eq_true p119;replace q119:=eq_true q119;have p120:0≤(x4_2:Int):=od;have q120:x4_2 < (l0.length:Int):=od;obtain ⟨ad120,e120,hx120_0,hx120_1,hx120_2⟩:=at_T31 HR0.out x4_2 p120 q120;obtain rfl:ad115=ad120:=(by injection e120);replace hx120_0:=cl HB hx120_0;replace hx120_1:=cl HB hx120_1;replace hx120_2:=cl HB hx120_2;replace p120:=eq_true p120;replace q120:=eq_true q120)))
           go_ret
           exact ⟨er,bl⟩
          ·rw [if_neg c15] at H
           have c15b0:(((rd_T31 l0 x3_1).f1) == ((rd_T31 l0 x4_2).f1))=false:=beq_eq_false_iff_ne.mpr c15
           have c15b1:(((rd_T31 l0 x3_1).f1) != ((rd_T31 l0 x4_2).f1))=true:=bne_iff_ne.mpr c15
           have H':=Aside0.mk H
           clear H
           have p115:0≤(x3_1:Int):=od
           have q115:x3_1 < (l0.length:Int):=od
           obtain ⟨ad115,e115,hx115_0,hx115_1,hx115_2⟩:=at_T31 HR0.out x3_1 p115 q115
           cases e115
           replace hx115_0:=cl HB hx115_0
           replace hx115_1:=cl HB hx115_1
           replace hx115_2:=cl HB hx115_2
           replace p115:=eq_true p115
           replace q115:=eq_true q115
           go_wp2_with (first|(go_at_call 10;(with_reducible refine (spec_l11Answer.calls ((rd_T31 l0 x3_1).f0) true _ A9.out).mono ?_);rintro e w' ⟨rfl,⟨nd,rfl⟩⟩;(try first|exact ⟨rfl,_,World.drewN_drewN _ _ _⟩|exact ⟨rfl,_,Eq.trans (World.drewN_drewN _ _ _) (congrArg (World.drewN _) (Nat.add_assoc _ _ _))⟩);have p117:0≤(x4_2:Int):=od;have q117:x4_2 < (l0.length:Int):=od;obtain ⟨ad117,e117,hx117_0,hx117_1,hx117_2⟩:=at_T31 HR0.out x4_2 p117 q117;obtain rfl:ad115=ad117:=(by injection e117);replace hx117_0:=cl HB hx117_0;replace hx117_1:=cl HB hx117_1;replace hx117_2:=cl HB hx117_2;replace p117:=eq_true p117;replace q117:=eq_true q117)|(go_at_call 10;(with_reducible refine (spec_l11Answer.calls ((rd_T31 l0 x4_2).f0) true _ A13.out).mono ?_);rintro e w' ⟨rfl,⟨nd,rfl⟩⟩;(try first|exact ⟨rfl,_,World.drewN_drewN _ _ _⟩|exact ⟨rfl,_,Eq.trans (World.drewN_drewN _ _ _) (congrArg (World.drewN _) (Nat.add_assoc _ _ _))⟩);have p119:0≤(x3_1:Int):=od;have q119:x3_1 < (l0.length:Int):=od;obtain ⟨ad119,e119,hx119_0,hx119_1,hx119_2⟩:=at_T31 HR0.out x3_1 p119 q119;obtain rfl:ad115=ad119:=(by injection e119);replace hx119_0:=cl HB hx119_0;replace hx119_1:=cl HB hx119_1;replace hx119_2:=cl HB hx119_2;replace p119:=eq_true p119;replace q119:=eq_true q119;have p120:0≤(x4_2:Int):=od;have q120:x4_2 < (l0.length:Int):=od;obtain ⟨ad120,e120,hx120_0,hx120_1,hx120_2⟩:=at_T31 HR0.out x4_2 p120 q120;obtain rfl:ad115=ad120:=(by injection e120);replace hx120_0:=cl HB hx120_0;replace hx120_1:=cl HB hx120_1;replace hx120_2:=cl HB hx120_2;replace p120:=eq_true p120;replace q120:=eq_true q120))
           repeat (go_quiet (first|(go_at_call 10;(with_reducible refine (spec_l11Answer.calls ((rd_T31 l0 x3_1).f0) true _ A9.out).mono ?_);rintro e w' ⟨rfl,⟨nd,rfl⟩⟩;(try first|exact ⟨rfl,_,World.drewN_drewN _ _ _⟩|exact ⟨rfl,_,Eq.trans (World.drewN_drewN _ _ _) (congrArg (World.drewN _) (Nat.add_assoc _ _ _))⟩);have p117:0≤(x4_2:Int):=od;have q117:x4_2 < (l0.length:Int):=od;obtain ⟨ad117,e117,hx117_0,hx117_1,hx117_2⟩:=at_T31 HR0.out x4_2 p117 q117;obtain rfl:ad115=ad117:=(by injection e117);replace hx117_0:=cl HB hx117_0;replace hx117_1:=cl HB hx117_1;replace hx117_2:=cl HB hx117_2;replace p117:=eq_true p117;replace q117:=eq_true q117)|(go_at_call 10;(with_reducible refine (spec_l11Answer.calls ((rd_T31 l0 x4_2).f0) true _ A13.out).mono ?_);rintro e w' ⟨rfl,⟨nd,rfl⟩⟩;(try first|exact ⟨rfl,_,World.drewN_drewN _ _ _⟩|exact ⟨rfl,_,Eq.trans (World.drewN_drewN _ _ _) (congrArg (World.drewN _) (Nat.add_assoc _ _ _))⟩);have p119:0≤(x3_1:Int):=od;have q119:x3_1 < (l0.length:Int):=od;obtain ⟨ad119,e119,hx119_0,hx119_1,hx119_2⟩:=at_T31 HR0.out x3_1 p119 q119;obtain rfl:ad115=ad119:=(by injection e119);replace hx119_0:=cl HB hx119_0;replace hx119_1:=cl HB hx119_1;replace hx119_2:=cl HB hx119_2;replace p119:=eq_true p119;replace q119:=eq_true q119;have p120:0≤(x4_2:Int):=od;have q120:x4_2 < (l0.length:Int):=od;obtain ⟨ad120,e120,hx120_0,hx120_1,hx120_2⟩:=at_T31 HR0.out x4_2 p120 q120;obtain rfl:ad115=ad120:=(by injection e120);replace hx120_0:=cl HB hx120_0;replace hx120_1:=cl HB hx120_1;replace hx120_2:=cl HB hx120_2;replace p120:=eq_true p120;replace q120:=eq_true q120));try go_wp2_with (first|(go_at_call 10;(with_reducible refine (spec_l11Answer.calls ((rd_T31 l0 x3_1).f0) true _ A9.out).mono ?_);rintro e w' ⟨rfl,⟨nd,rfl⟩⟩;(try first|exact ⟨rfl,_,World.drewN_drewN _ _ _⟩|exact ⟨rfl,_,Eq.trans (World.drewN_drewN _ _ _) (congrArg (World.drewN _) (Nat.add_assoc _ _ _))⟩);have p117:0≤(x4_2:Int):=od;have q117:x4_2 < (l0.length:Int):=od;obtain ⟨ad117,e117,hx117_0,hx117_1,hx117_2⟩:=at_T31 HR0.out x4_2 p117 q117;obtain rfl:ad115=ad117:=(by injection e117);replace hx117_0:=cl HB hx117_0;replace hx117_1:=cl HB hx117_1;replace hx117_2:=cl HB hx117_2;replace p117:=eq_true p117;replace q117:=eq_true q117)|(go_at_call 10;(with_reducible refine (spec_l11Answer.calls ((rd_T31 l0 x4_2).f0) true _ A13.out).mono ?_);rintro e w' ⟨rfl,⟨nd,rfl⟩⟩;(try first|exact ⟨rfl,_,World.drewN_drewN _ _ _⟩|exact ⟨rfl,_,Eq.trans (World.drewN_drewN _ _ _) (congrArg (World.drewN _) (Nat.add_assoc _ _ _))⟩);have p119:0≤(x3_1:Int):=od;have q119:x3_1 < (l0.length:Int):=od;obtain ⟨ad119,e119,hx119_0,hx119_1,hx119_2⟩:=at_T31 HR0.out x3_1 p119 q119;obtain rfl:ad115=ad119:=(by injection e119);replace hx119_0:=cl HB hx119_0;replace hx119_1:=cl HB hx119_1;replace hx119_2:=cl HB hx119_2;replace p119:=eq_true p119;replace q119:=eq_true q119;have p120:0≤(x4_2:Int):=od;have q120:x4_2 < (l0.length:Int):=od;obtain ⟨ad120,e120,hx120_0,hx120_1,hx120_2⟩:=at_T31 HR0.out x4_2 p120 q120;obtain rfl:ad115=ad120:=(by injection e120);replace hx120_0:=cl HB hx120_0;replace hx120_1:=cl HB hx120_1;replace hx120_2:=cl HB hx120_2;replace p120:=eq_true p120;replace q120:=eq_true q120)))
           go_roundg k2
           case measure=>have:=HK1.out;have:=HK2.out;omega
           case rel=>exact ⟨(wrap64 (x4_2 + 1)),(by first|rfl|(simp;done)|(simp [*];done)),H',⟨by have:=HK1.out;have:=HK2.out;omega⟩,⟨bl⟩⟩
         ·replace c14:=Bool.eq_false_iff.mpr c14
          subst c14
          rw [if_neg nft] at H
          have H':=Aside0.mk H
          clear H
          have p115:0≤(x3_1:Int):=od
          have q115:x3_1 < (l0.length:Int):=od
          obtain ⟨ad115,e115,hx115_0,hx115_1,hx115_2⟩:=at_T31 HR0.out x3_1 p115 q115
          cases e115
          replace hx115_0:=cl HB hx115_0
          replace hx115_1:=cl HB hx115_1
          replace hx115_2:=cl HB hx115_2
          replace p115:=eq_true p115
          replace q115:=eq_true q115
          go_wp2_with (first|(go_at_call 10;(with_reducible refine (spec_l11Answer.calls ((rd_T31 l0 x3_1).f0) true _ A9.out).mono ?_);rintro e w' ⟨rfl,⟨nd,rfl⟩⟩;(try first|exact ⟨rfl,_,World.drewN_drewN _ _ _⟩|exact ⟨rfl,_,Eq.trans (World.drewN_drewN _ _ _) (congrArg (World.drewN _) (Nat.add_assoc _ _ _))⟩);have p117:0≤(x4_2:Int):=od;have q117:x4_2 < (l0.length:Int):=od;obtain ⟨ad117,e117,hx117_0,hx117_1,hx117_2⟩:=at_T31 HR0.out x4_2 p117 q117;obtain rfl:ad115=ad117:=(by injection e117);replace hx117_0:=cl HB hx117_0;replace hx117_1:=cl HB hx117_1;replace hx117_2:=cl HB hx117_2;replace p117:=eq_true p117;replace q117:=eq_true q117)|(go_at_call 10;(with_reducible refine (spec_l11Answer.calls ((rd_T31 l0 x4_2).f0) false _ A13.out).mono ?_);rintro e w' ⟨rfl,⟨nd,rfl⟩⟩;(try first|exact ⟨rfl,_,World.drewN_drewN _ _ _⟩|exact ⟨rfl,_,Eq.trans (World.drewN_drewN _ _ _) (congrArg (World.drewN _) (Nat.add_assoc _ _ _))⟩)))
          have p117:0≤(x4_2:Int):=od
          have q117:x4_2 < (l0.length:Int):=od
          obtain ⟨ad117,e117,hx117_0,hx117_1,hx117_2⟩:=at_T31 HR0.out x4_2 p117 q117
          obtain rfl:=(show _=ad117 by injection e117)
          replace hx117_0:=cl HB hx117_0
          replace hx117_1:=cl HB hx117_1
          replace hx117_2:=cl HB hx117_2
          replace p117:=eq_true p117
          replace q117:=eq_true q117
          repeat (go_quiet (first|(go_at_call 10;(with_reducible refine (spec_l11Answer.calls ((rd_T31 l0 x3_1).f0) true _ A9.out).mono ?_);rintro e w' ⟨rfl,⟨nd,rfl⟩⟩;(try first|exact ⟨rfl,_,World.drewN_drewN _ _ _⟩|exact ⟨rfl,_,Eq.trans (World.drewN_drewN _ _ _) (congrArg (World.drewN _) (Nat.add_assoc _ _ _))⟩))|(go_at_call 10;(with_reducible refine (spec_l11Answer.calls ((rd_T31 l0 x4_2).f0) false _ A13.out).mono ?_);rintro e w' ⟨rfl,⟨nd,rfl⟩⟩;(try first|exact ⟨rfl,_,World.drewN_drewN _ _ _⟩|exact ⟨rfl,_,Eq.trans (World.drewN_drewN _ _ _) (congrArg (World.drewN _) (Nat.add_assoc _ _ _))⟩)));try go_wp2_with (first|(go_at_call 10;(with_reducible refine (spec_l11Answer.calls ((rd_T31 l0 x3_1).f0) true _ A9.out).mono ?_);rintro e w' ⟨rfl,⟨nd,rfl⟩⟩;(try first|exact ⟨rfl,_,World.drewN_drewN _ _ _⟩|exact ⟨rfl,_,Eq.trans (World.drewN_drewN _ _ _) (congrArg (World.drewN _) (Nat.add_assoc _ _ _))⟩))|(go_at_call 10;(with_reducible refine (spec_l11Answer.calls ((rd_T31 l0 x4_2).f0) false _ A13.out).mono ?_);rintro e w' ⟨rfl,⟨nd,rfl⟩⟩;(try first|exact ⟨rfl,_,World.drewN_drewN _ _ _⟩|exact ⟨rfl,_,Eq.trans (World.drewN_drewN _ _ _) (congrArg (World.drewN _) (Nat.add_assoc _ _ _))⟩))))
          go_roundg k2
          case measure=>have:=HK1.out;have:=HK2.out;omega
          case rel=>exact ⟨(wrap64 (x4_2 + 1)),(by first|rfl|(simp;done)|(simp [*];done)),H',⟨by have:=HK1.out;have:=HK2.out;omega⟩,⟨bl⟩⟩
        ·replace c10:=Bool.eq_false_iff.mpr c10
         subst c10
         rw [if_neg nft] at H
         have H':=Aside0.mk H
         clear H
         have p115:0≤(x3_1:Int):=od
         have q115:x3_1 < (l0.length:Int):=od
         obtain ⟨ad115,e115,hx115_0,hx115_1,hx115_2⟩:=at_T31 HR0.out x3_1 p115 q115
         cases e115
         replace hx115_0:=cl HB hx115_0
         replace hx115_1:=cl HB hx115_1
         replace hx115_2:=cl HB hx115_2
         replace p115:=eq_true p115
         replace q115:=eq_true q115
         go_wp2_with (first|(go_at_call 10;(with_reducible refine (spec_l11Answer.calls ((rd_T31 l0 x3_1).f0) false _ A9.out).mono ?_);rintro e w' ⟨rfl,⟨nd,rfl⟩⟩;(try first|exact ⟨rfl,_,World.drewN_drewN _ _ _⟩|exact ⟨rfl,_,Eq.trans (World.drewN_drewN _ _ _) (congrArg (World.drewN _) (Nat.add_assoc _ _ _))⟩)))
         repeat (go_quiet (first|(go_at_call 10;(with_reducible refine (spec_l11Answer.calls ((rd_T31 l0 x3_1).f0) false _ A9.out).mono ?_);rintro e w' ⟨rfl,⟨nd,rfl⟩⟩;(try first|exact ⟨rfl,_,World.drewN_drewN _ _ _⟩|exact ⟨rfl,_,Eq.trans (World.drewN_drewN _ _ _) (congrArg (World.drewN _) (Nat.add_assoc _ _ _))⟩)));try go_wp2_with (first|(go_at_call 10;(with_reducible refine (spec_l11Answer.calls ((rd_T31 l0 x3_1).f0) false _ A9.out).mono ?_);rintro e w' ⟨rfl,⟨nd,rfl⟩⟩;(try first|exact ⟨rfl,_,World.drewN_drewN _ _ _⟩|exact ⟨rfl,_,Eq.trans (World.drewN_drewN _ _ _) (congrArg (World.drewN _) (Nat.add_assoc _ _ _))⟩))))
         go_roundg k2
         case measure=>have:=HK1.out;have:=HK2.out;omega
         case rel=>exact ⟨(wrap64 (x4_2 + 1)),(by first|rfl|(simp;done)|(simp [*];done)),H',⟨by have:=HK1.out;have:=HK2.out;omega⟩,⟨bl⟩⟩
       ·rw [if_neg c6] at H
        have c6b0:decide (x4_2 < x3_1)=false:=decide_eq_false c6
        clear c6
        have H':=Aside0.mk H
        clear H
        go_wp2
        repeat (go_quiet (fail);try go_wp2)
        go_roundg k2
        case measure=>have:=HK1.out;have:=HK2.out;omega
        case rel=>exact ⟨(wrap64 (x3_1 + 1)),(by first|rfl|(simp;done)|(simp [*];done)),H',⟨by have:=HK1.out;have:=HK2.out;omega⟩,⟨bl⟩⟩
    ·rw [if_neg c5] at H
     have c5b0:decide (x3_1 < (l0.length:Int))=false:=decide_eq_false c5
     clear c5
     obtain rfl:=Option.some.inj H
     go_wp2
     repeat (go_quiet (fail);try go_wp2)
     go_ret
     exact ⟨er,bl⟩
 ·replace c3:=Bool.eq_false_iff.mpr c3
  subst c3
  rw [if_neg nft] at H
  obtain rfl:=Option.some.inj H
  go_enter Try.func5,Try.ntmps5
  go_wp2_with (first|(go_at_call 9;(with_reducible refine (spec_LogOk.calls k _ _ l0 false _ ?side1 ?side2 A2.out).mono ?_);(case side1=>repeat (first|exact HR0.out|(with_reducible refine Kd.C_alloc ?_ _)|(with_reducible refine Kd.C_drewN ?_ _)|(with_reducible refine Kd.C_drew ?_)));(case side2=>exact HC0.out);rintro e w16 ⟨rfl,hb⟩;replace HB:=Aside0.mk (below_step bl hb);(try clear hb);(try clear hb2);(try clear hk);(try clear hi)))
  repeat (go_quiet (first|(go_at_call 9;(with_reducible refine (spec_LogOk.calls k _ _ l0 false _ ?side1 ?side2 A2.out).mono ?_);(case side1=>repeat (first|exact HR0.out|(with_reducible refine Kd.C_alloc ?_ _)|(with_reducible refine Kd.C_drewN ?_ _)|(with_reducible refine Kd.C_drew ?_)));(case side2=>exact HC0.out);rintro e w16 ⟨rfl,hb⟩;replace HB:=Aside0.mk (below_step bl hb);(try clear hb);(try clear hb2);(try clear hk);(try clear hi)));try go_wp2_with (first|(go_at_call 9;(with_reducible refine (spec_LogOk.calls k _ _ l0 false _ ?side1 ?side2 A2.out).mono ?_);(case side1=>repeat (first|exact HR0.out|(with_reducible refine Kd.C_alloc ?_ _)|(with_reducible refine Kd.C_drewN ?_ _)|(with_reducible refine Kd.C_drew ?_)));(case side2=>exact HC0.out);rintro e w16 ⟨rfl,hb⟩;replace HB:=Aside0.mk (below_step bl hb);(try clear hb);(try clear hb2);(try clear hk);(try clear hi))))
  go_ret
  exact ⟨er,bl⟩

/-! ### laws_toEvent: function 11 -/
def laws_toEvent.f (a0_0:Int) (a0_1:Int) (a0_2:Int):Option (Int × Int × Int):=some (a0_0,a0_1,a0_2)
set_option maxHeartbeats 8000000 in
set_option maxRecDepth 100000 in
theorem laws_toEvent.calls (a0_0:Int) (a0_1:Int) (a0_2:Int) (r1:Int) (r2:Int) (r3:Int) (w:World) (h:laws_toEvent.f a0_0 a0_1 a0_2=some (r1,r2,r3)) :
  Calls Try.prog 11 #[.agg #[.int .i64 a0_0,.int .i64 a0_1,.int .i64 a0_2]] w fun e w'=>e = .returned (.agg #[.int .i64 r1,.int .i64 r2,.int .i64 r3])∧Below w.heap.size w w':=by
 have hu33:=Try.underlying33
 have hu31:=Try.underlying31
 have HB:=Aside0.mk (Below.refl w.heap.size w)
 have H:(some (a0_0,a0_1,a0_2))=some (r1,r2,r3):=h
 clear h
 simp only [Option.some.injEq,Prod.mk.injEq] at H
 obtain ⟨rfl,rfl,rfl⟩:=H
 go_enter Try.func11,Try.ntmps11
 go_wp2_with (first|((with_reducible refine gate_dst (N:=1) rfl ?_);refine bx 1 #[.int .i64 a0_0,.int .i64 a0_1,.int .i64 a0_2] 33 ?_;intro gb121 hg w2 hbox hb;have BK121:=Aside0.mk (hbox);have GW121:=Aside0.mk (bz hg:w.heap.size≤gb121);have GE121:=GW121;replace HB:=Aside0.mk (below_step bl hb);clear hb hbox hg)|((with_reducible refine gate_dst (N:=2) rfl ?_);refine bx 2 #[.int .i64 0,.int .i64 0,.int .i64 0] 31 ?_;intro gb122 hg w3 hbox hb;have BK122:=Aside0.mk (hbox);have GW122:=Aside0.mk (bz hg:w.heap.size≤gb122);have GE122:=GW122;replace HB:=Aside0.mk (below_step bl hb);have NB121_122:=Aside0.mk (nl hg BK121:gb121≠gb122);have NB122_121:=Aside0.mk (nr hg BK121:gb122≠gb121);replace BK121:=Aside0.mk (blk_below (bk BK121) hb);clear hb hbox hg)|((with_reducible refine gate_dst (N:=3) rfl ?_);refine bx 3 #[.int .i64 0,.int .i64 0,.int .i64 0] 31 ?_;intro gb123 hg w4 hbox hb;have BK123:=Aside0.mk (hbox);have GW123:=Aside0.mk (bz hg:w.heap.size≤gb123);have GE123:=GW123;replace HB:=Aside0.mk (below_step bl hb);have NB121_123:=Aside0.mk (nl hg BK121:gb121≠gb123);have NB123_121:=Aside0.mk (nr hg BK121:gb123≠gb121);replace BK121:=Aside0.mk (blk_below (bk BK121) hb);have NB122_123:=Aside0.mk (nl hg BK122:gb122≠gb123);have NB123_122:=Aside0.mk (nr hg BK122:gb123≠gb122);replace BK122:=Aside0.mk (blk_below (bk BK122) hb);clear hb hbox hg;have hnb5:=NB121_122.out;have hnc5:=NB122_121.out;have hnb6:=NB121_123.out;have hnc6:=NB123_121.out;obtain ⟨hcz7_0,hcz7_1,hcz7_2,hfz7_0,hfz7_1,hfz7_2⟩:=ck3 BK121.out;have hnb8:=NB123_122.out;have hnc8:=NB122_123.out;obtain ⟨hcz9_0,hcz9_1,hcz9_2,hfz9_0,hfz9_1,hfz9_2⟩:=ck3 BK123.out;obtain ⟨hcz10_0,hcz10_1,hcz10_2,hfz10_0,hfz10_1,hfz10_2⟩:=ck3 BK122.out))
 refine bodyPost_ret (results_cell_row rfl _ _ gb122 31 #[.int .i64 a0_0,.int .i64 a0_1,.int .i64 a0_2] (0,0) _ rfl (by (with_reducible repeat (first|refine blk_drewN ?_ _|refine blk_drew ?_|refine blk_alloc ?_ _));refine blk_put (cs:=#[.int .i64 a0_0,.int .i64 a0_1,.int .i64 0]) ?_ 2 _ rfl;(with_reducible repeat (first|refine blk_drewN ?_ _|refine blk_drew ?_|refine blk_alloc ?_ _));refine blk_put (cs:=#[.int .i64 a0_0,.int .i64 0,.int .i64 0]) ?_ 1 _ rfl;(with_reducible repeat (first|refine blk_drewN ?_ _|refine blk_drew ?_|refine blk_alloc ?_ _));refine blk_put (cs:=#[.int .i64 0,.int .i64 0,.int .i64 0]) ?_ 0 _ rfl;(with_reducible repeat (first|refine blk_drewN ?_ _|refine blk_drew ?_|refine blk_alloc ?_ _));refine blk_far ?_ NB122_123.out _;(with_reducible repeat (first|refine blk_drewN ?_ _|refine blk_drew ?_|refine blk_alloc ?_ _));refine blk_far ?_ NB122_123.out _;(with_reducible repeat (first|refine blk_drewN ?_ _|refine blk_drew ?_|refine blk_alloc ?_ _));refine blk_far ?_ NB122_123.out _;(with_reducible repeat (first|refine blk_drewN ?_ _|refine blk_drew ?_|refine blk_alloc ?_ _));exact BK122.out) Try.underlying31 rfl (by kernel_rfl)) rfl ?_
 exact ⟨er,bl⟩

/-! ### laws_toEventS: function 6 -/
def laws_toEventS.l0:Nat→List (S33)→List (S31)→Int→Option ((List (S31)))
 | 0,_,_,_=>none
 | k + 1,x0,x3,x4=>if x4 < (x0.length:Int) then (if 0≤x4 then ((laws_toEvent.f ((rd_T33 x0 x4).f0) ((rd_T33 x0 x4).f1) ((rd_T33 x0 x4).f2)).bind fun bt128=>(if x4 < (x3.length:Int) then (laws_toEventS.l0 k x0 (x3.set (x4:Int).toNat (⟨bt128.1,bt128.2.1,bt128.2.2⟩:S31)) (wrap64 (x4 + 1))) else (none))) else (none)) else (some x3)
def laws_toEventS.f (k:Nat) (l0:List (S33)):Option ((List (S31))):=if 0≤(l0.length:Int) then (if ((l0.length:Int):Int).toNat≤11728124029610 then (laws_toEventS.l0 k l0 (List.replicate ((l0.length:Int):Int).toNat z31) 0) else (none)) else (none)
theorem laws_toEventS.mono_l:∀ k,(∀ y0 y1 y2,LeO (laws_toEventS.l0 k y0 y1 y2) (laws_toEventS.l0 (k + 1) y0 y1 y2))
 | 0=>fun _ _ _ r h=>by simp [laws_toEventS.l0] at h
 | k + 1=>by
  have ih0:=laws_toEventS.mono_l k
  ·intro y0 y1 y2
   unfold laws_toEventS.l0
   repeat' first
   | (with_reducible exact ih0 _ _ _)
   | (with_reducible exact LeO.refl _)
   | (with_reducible exact LeO.none _)
   | (with_reducible refine LeO.ite ?_ ?_)
   | (with_reducible refine LeO.bind ?_ (fun _=>?_))
   | exact ih0 _ _ _
   | exact LeO.none _
   | refine LeO.ite ?_ ?_
   | refine LeO.bind ?_ (fun _=>?_)
theorem laws_toEventS.mono:∀ a0 k,LeO (laws_toEventS.f k a0) (laws_toEventS.f (k + 1) a0):=by
 intro a0 k
 have ih0:=laws_toEventS.mono_l k
 unfold laws_toEventS.f
 repeat' first
   | (with_reducible exact ih0 _ _ _)
   | (with_reducible exact LeO.refl _)
   | (with_reducible exact LeO.none _)
   | (with_reducible refine LeO.ite ?_ ?_)
   | (with_reducible refine LeO.bind ?_ (fun _=>?_))
   | exact ih0 _ _ _
   | exact LeO.none _
   | refine LeO.ite ?_ ?_
   | refine LeO.bind ?_ (fun _=>?_)
set_option maxHeartbeats 8000000 in
set_option maxRecDepth 100000 in
theorem laws_toEventS.calls (k:Nat) (A0:Option Addr) (c0:Nat) (l0:List (S33)) (r:List (S31)) (w:World) (hr0:Kd.C k33 w A0 l0.length l0) (hc0:l0.length≤c0) (h:laws_toEventS.f k l0=some r) :
  Calls Try.prog 6 #[.slice A0 l0.length c0] w fun e w'=>∃ v0_:Value,e = .returned (v0_)∧Kd.R k31 31 w' w.heap.size (fun _=>True) v0_ r∧Below w.heap.size w w':=by
 have hu33:=Try.underlying33
 have hu31:=Try.underlying31
 have HR0:=Aside0.mk hr0
 have HC0:=Aside0.mk hc0
 clear hr0 hc0
 have HB:=Aside0.mk (Below.refl w.heap.size w)
 have H:(if 0≤(l0.length:Int) then (if ((l0.length:Int):Int).toNat≤11728124029610 then (laws_toEventS.l0 k l0 (List.replicate ((l0.length:Int):Int).toNat z31) 0) else (none)) else (none))=some r:=h
 clear h
 by_cases c2:0≤(l0.length:Int)
 ·rw [if_pos c2] at H
  have c2b0:=eq_true c2
  have c2b1:decide (0≤(l0.length:Int))=true:=decide_eq_true c2
  clear c2
  by_cases c3:((l0.length:Int):Int).toNat≤11728124029610
  case neg =>
   rw [if_neg c3] at H
   exact absurd H (by simp)
  rw [if_pos c3] at H
  have c3b0:=eq_true c3
  have c3b1:decide (((l0.length:Int):Int).toNat≤11728124029610)=true:=decide_eq_true c3
  clear c3
  obtain ⟨y124,hy124⟩:∃ y_:List (S31),y_=(List.replicate ((l0.length:Int):Int).toNat z31):=⟨_,rfl⟩
  replace H:(laws_toEventS.l0 k l0 y124 0)=some r:=by first|(rw [hy124];with_reducible exact H)|(have H2_:=(Option.bind_some _ _).symm.trans H;rw [hy124];with_reducible exact H2_)|(have H2_:=(Option.bind_some _ _).symm.trans H;with_reducible exact H2_)|with_reducible exact H|(rw [hy124];exact H)|exact H
  have Ny124:=Aside0.mk hy124
  clear hy124
  have H':=Aside0.mk H
  clear H
  go_enter Try.func6,Try.ntmps6
  go_wp2_with (first|((with_reducible refine gate_dst (N:=7) rfl ?_);refine Kd.R_make k31 _ 31 rfl (N:=7) rfl 25 _ _ rfl (l0.length:Int) rfl rfl Try.underlying25 (.agg #[(.int .i64 0),(.int .i64 0),(.int .i64 0)]) 24 info31 rfl (by decide) (by omega) z31 (ok:=fun _=>True) (okp:=fun _=>True) (k31_mkM _ _ _ z31 ) (fun _ hk=>hk) trivial od (Nat.le_trans (Nat.mul_le_mul_right _ (od:(l0.length:Int).toNat≤11728124029610)) (by omega)) (Below.refl _ _) (Nat.le_refl _) ?_;intro v125 w4 ho5 hb hg_ hnew_;clear hg_ hnew_;(first|rw [← Ny124.out] at ho5|(simp only [Int.reduceToNat] at ho5;rw [← Ny124.out] at ho5));have HO126:=Aside0.mk (Kd.R_lower ho5 (below_size bl));replace HB:=Aside0.mk (below_step bl hb);clear hb ho5))
  go_loopg [4] k (fun kq v4 w'=>∃ (x3_1:List (S31)) (x4_1:Int),v4 = .int .i64 x4_1∧Aside0 (laws_toEventS.l0 kq l0 x3_1 x4_1=some r)∧Aside0 (kq≤k)∧Aside0 (Kd.R k31 31 w' w.heap.size (fun _=>True) v125 x3_1)∧Aside0 (Below w.heap.size w w'))
  case atStart=>exact ⟨(y124),(0),(by first|rfl|(simp;done)|(simp [*];done)),H',⟨Nat.le_refl _⟩,⟨kr HO126⟩,⟨bl⟩⟩
  case round =>
   clear H'
   try clear c2
   try clear c2b0
   try clear c2b1
   try clear p2
   try clear c3
   try clear c3b0
   try clear c3b1
   obtain ⟨x3_1,x4_1,rfl,HA,HK1,HO_3,HB⟩:=hrel
   cases gk with
   | zero=>exact absurd HA.out (by simp [laws_toEventS.l0])
   | succ k1 =>
    have H:=HA.out
    clear HA
    simp only [laws_toEventS.l0] at H
    by_cases c6:x4_1 < (l0.length:Int)
    ·rw [if_pos c6] at H
     have c6b0:decide (x4_1 < (l0.length:Int))=true:=decide_eq_true c6
     clear c6
     by_cases c7:0≤x4_1
     case neg =>
      rw [if_neg c7] at H
      exact absurd H (by simp)
     rw [if_pos c7] at H
     have c7b0:decide (0≤x4_1)=true:=decide_eq_true c7
     clear c7
     replace H:=Option.bind_eq_some_iff.mp H
     obtain ⟨⟨t128,t129,t130⟩,A80,H⟩:=H
     replace H:(if x4_1 < (x3_1.length:Int) then (laws_toEventS.l0 k1 l0 (x3_1.set (x4_1:Int).toNat (⟨t128,t129,t130⟩:S31)) (wrap64 (x4_1 + 1))) else (none))=some r:=H
     have A8:=Aside0.mk A80
     clear A80
     by_cases c9:x4_1 < (x3_1.length:Int)
     case neg =>
      rw [if_neg c9] at H
      exact absurd H (by simp)
     rw [if_pos c9] at H
     have c9b0:decide (x4_1 < (x3_1.length:Int))=true:=decide_eq_true c9
     clear c9
     obtain ⟨y131,hy131⟩:∃ y_:List (S31),y_=(x3_1.set (x4_1:Int).toNat (⟨t128,t129,t130⟩:S31)):=⟨_,rfl⟩
     replace H:(laws_toEventS.l0 k1 l0 y131 (wrap64 (x4_1 + 1)))=some r:=by first|(rw [hy131];with_reducible exact H)|(have H2_:=(Option.bind_some _ _).symm.trans H;rw [hy131];with_reducible exact H2_)|(have H2_:=(Option.bind_some _ _).symm.trans H;with_reducible exact H2_)|with_reducible exact H|(rw [hy131];exact H)|exact H
     have Ny131:=Aside0.mk hy131
     clear hy131
     have H':=Aside0.mk H
     clear H
     have p127:0≤(x4_1:Int):=od
     have q127:x4_1 < (l0.length:Int):=od
     obtain ⟨ad127,e127,hx127_0,hx127_1,hx127_2⟩:=at_T33 HR0.out x4_1 p127 q127
     cases e127
     replace hx127_0:=cl HB hx127_0
     replace hx127_1:=cl HB hx127_1
     replace hx127_2:=cl HB hx127_2
     replace p127:=eq_true p127
     replace q127:=eq_true q127
     go_wp2_with (first|((with_reducible refine gate_callee (f:=11) rfl ?_);refine gl (some 20) Try.func11 #[.agg #[.int .i64 ((rd_T33 l0 x4_1).f0),.int .i64 ((rd_T33 l0 x4_1).f1),.int .i64 ((rd_T33 l0 x4_1).f2)]] ?_;(with_reducible refine (laws_toEvent.calls ((rd_T33 l0 x4_1).f0) ((rd_T33 l0 x4_1).f1) ((rd_T33 l0 x4_1).f2) t128 t129 t130 _ A8.out).mono ?_);rintro e w11 ⟨rfl,hb⟩;refine ⟨_,rfl,?_⟩;replace HO_3:=Aside0.mk (Kd.R_below (kr HO_3) hb);replace HB:=Aside0.mk (below_step bl hb);(try clear hb);(try clear hb2);(try clear hk);(try clear hi);have p10:0≤(x4_1:Int):=od;have q10:(x4_1:Int) < ((x3_1.length:Int):Int):=od;obtain ⟨go10,co10,eo10,gb10,gl10,cl10,HG10⟩:=Kd.R_form HO_3.out (by omega);(first|cases eo10|(injection eo10 with ea_ en_ ec_;(first|subst ea_|(injection ea_ with ea_;subst ea_));subst ec_;clear en_));have GB10:=Aside0.mk gb10;have GG10:=Aside0.mk HG10;clear gb10 gl10 HG10;obtain ⟨ce10,hcl10,hM10,hcc10,hfr10⟩:=Kd.R_elem HO_3.out z31 (x4_1:Int) p10 q10;obtain rfl:=k31_openM hM10;have hx10_0:w11.cell? ⟨go10,(x4_1:Int).toNat * 3,none⟩=some (.int .i64 ((rd_T31 x3_1 x4_1).f0)):=hcc10 0 _ rfl;have hx10_1:w11.cell? ⟨go10,(x4_1:Int).toNat * 3 + 1,none⟩=some (.int .i64 ((rd_T31 x3_1 x4_1).f1)):=hcc10 1 _ rfl;have hx10_2:w11.cell? ⟨go10,(x4_1:Int).toNat * 3 + 2,none⟩=some (.int .i64 ((rd_T31 x3_1 x4_1).f2)):=hcc10 2 _ rfl;have hf10_0:w11.frozen? ⟨go10,(x4_1:Int).toNat * 3,none⟩=false:=hfr10 0;have hf10_1:w11.frozen? ⟨go10,(x4_1:Int).toNat * 3 + 1,none⟩=false:=hfr10 1;have hf10_2:w11.frozen? ⟨go10,(x4_1:Int).toNat * 3 + 2,none⟩=false:=hfr10 2;clear hcl10 hcc10 hfr10 hM10;replace p10:=eq_true p10;replace q10:=eq_true q10;have HX12:=Aside0.mk (show Kd.R k31 31 w11 w.heap.size (fun _=>True) (.slice (some ⟨go10,0,none⟩) x3_1.length co10) x3_1 from (kr HO_3));obtain ⟨ce12,hcl12,hM12,hcc12,hfr12⟩:=Kd.R_elem HX12.out z31 (x4_1:Int) od (by have h_:(x4_1:Int) < ((x3_1.length:Int):Int):=od;first|exact h_|(have e_:=(Kd.R_reads' HO_3.out).1;omega)|simpa using h_);obtain rfl:=k31_openM hM12;have HP12:=Kd.R_seg HX12.out (x4_1:Int) od (by have h_:(x4_1:Int) < ((x3_1.length:Int):Int):=od;first|exact h_|(have e_:=(Kd.R_reads' HO_3.out).1;omega)|simpa using h_) (seg:=[.int .i64 t128,.int .i64 t129,.int .i64 t130]) (j:=0) hcl12 hcc12 (show 3≤3 from by decide) (x':=(⟨t128,t129,t130⟩:S31)) (k31_mkM _ _ _ (⟨t128,t129,t130⟩:S31) ) (fun _ hk=>hk);have hx12_0:=hcc12 0 _ rfl;(try simp only [show (k31).sz=3 from rfl,Nat.mul_one,Nat.add_zero] at hx12_0);have hf12_0:=hfr12 0;(try simp only [show (k31).sz=3 from rfl,Nat.mul_one,Nat.add_zero] at hf12_0);have hx12_1:=hcc12 1 _ rfl;(try simp only [show (k31).sz=3 from rfl,Nat.mul_one,Nat.add_zero] at hx12_1);have hf12_1:=hfr12 1;(try simp only [show (k31).sz=3 from rfl,Nat.mul_one,Nat.add_zero] at hf12_1);have hx12_2:=hcc12 2 _ rfl;(try simp only [show (k31).sz=3 from rfl,Nat.mul_one,Nat.add_zero] at hx12_2);have hf12_2:=hfr12 2;(try simp only [show (k31).sz=3 from rfl,Nat.mul_one,Nat.add_zero] at hf12_2);clear hcl12 hcc12 hfr12 hM12)|((with_reducible refine gate_store (t:=31) (p:=21) rfl ?_);refine sx 31 21 (((w11.setCell ⟨go10,(x4_1:Int).toNat * 3,none⟩ (.int .i64 t128)).setCell ⟨go10,(x4_1:Int).toNat * 3 + 1,none⟩ (.int .i64 t129)).setCell ⟨go10,(x4_1:Int).toNat * 3 + 2,none⟩ (.int .i64 t130)) ?_;intro w13 hw;have hg:w11.grownBy w13 (some go10):=(by rw [hw];exact HP12.2);have hp_:Kd.R k31 31 w13 w.heap.size (fun _=>True) (.slice (some ⟨go10,0,none⟩) x3_1.length co10) y131:=(by rw [hw,Ny131.out];exact HP12.1);clear HP12;replace HO_3:=Aside0.mk (hp_);replace HB:=Aside0.mk ((by rw [hw];exact below_set (below_set (below_set (HB.out) GB10.out) GB10.out) GB10.out:Below w.heap.size w w13));clear hg hw hp_))
     go_roundg k1
     case measure=>have:=HK1.out;omega
     case rel=>exact ⟨(y131),(wrap64 (x4_1 + 1)),(by first|rfl|(simp;done)|(simp [*];done)),H',⟨by have:=HK1.out;omega⟩,⟨kr HO_3⟩,⟨bl⟩⟩
    ·rw [if_neg c6] at H
     have c6b0:decide (x4_1 < (l0.length:Int))=false:=decide_eq_false c6
     clear c6
     obtain rfl:=Option.some.inj H
     go_wp2
     go_ret
     exact ⟨_,er,kr HO_3,bl⟩
 ·rw [if_neg c2] at H
  exact absurd H (by simp)

/-! ### slices_Index_int_int: function 22 -/
def slices_Index_int_int.l0:Nat→List Int→Int→Int→Int→Option (Int)
 | 0,_,_,_,_=>none
 | k + 1,x0,x1,x7,x8=>if x8 < x7 then (if 0≤x8 then (if x8 < (x0.length:Int) then (if x1=(rd x0 x8) then (some x8) else (slices_Index_int_int.l0 k x0 x1 x7 (wrap64 (x8 + 1)))) else (none)) else (none)) else (some (-1))
def slices_Index_int_int.f (k:Nat) (l0:List Int) (a1:Int):Option (Int):=slices_Index_int_int.l0 k l0 a1 (l0.length:Int) 0
theorem slices_Index_int_int.mono_l:∀ k,(∀ y0 y1 y2 y3,LeO (slices_Index_int_int.l0 k y0 y1 y2 y3) (slices_Index_int_int.l0 (k + 1) y0 y1 y2 y3))
 | 0=>fun _ _ _ _ r h=>by simp [slices_Index_int_int.l0] at h
 | k + 1=>by
  have ih0:=slices_Index_int_int.mono_l k
  ·intro y0 y1 y2 y3
   unfold slices_Index_int_int.l0
   repeat' first
   | (with_reducible exact ih0 _ _ _ _)
   | (with_reducible exact LeO.refl _)
   | (with_reducible exact LeO.none _)
   | (with_reducible refine LeO.ite ?_ ?_)
   | (with_reducible refine LeO.bind ?_ (fun _=>?_))
   | exact ih0 _ _ _ _
   | exact LeO.none _
   | refine LeO.ite ?_ ?_
   | refine LeO.bind ?_ (fun _=>?_)
theorem slices_Index_int_int.mono:∀ a0 a1 k,LeO (slices_Index_int_int.f k a0 a1) (slices_Index_int_int.f (k + 1) a0 a1):=by
 intro a0 a1 k
 have ih0:=slices_Index_int_int.mono_l k
 unfold slices_Index_int_int.f
 repeat' first
   | (with_reducible exact ih0 _ _ _ _)
   | (with_reducible exact LeO.refl _)
   | (with_reducible exact LeO.none _)
   | (with_reducible refine LeO.ite ?_ ?_)
   | (with_reducible refine LeO.bind ?_ (fun _=>?_))
   | exact ih0 _ _ _ _
   | exact LeO.none _
   | refine LeO.ite ?_ ?_
   | refine LeO.bind ?_ (fun _=>?_)
set_option maxHeartbeats 8000000 in
set_option maxRecDepth 100000 in
theorem slices_Index_int_int.calls (k:Nat) (A0:Option Addr) (c0:Nat) (l0:List Int) (a1:Int) (r:Int) (w:World) (hr0:Kd.C (Kd.int .i64) w A0 l0.length l0) (hc0:l0.length≤c0) (h:slices_Index_int_int.f k l0 a1=some r) :
  Calls Try.prog 22 #[.slice A0 l0.length c0,.int .i64 a1] w fun e w'=>e = .returned (.int .i64 r)∧Drawn0 w w':=by
 have HR0:=Aside0.mk hr0
 have HC0:=Aside0.mk hc0
 clear hr0 hc0
 have H:(slices_Index_int_int.l0 k l0 a1 (l0.length:Int) 0)=some r:=h
 clear h
 have H':=Aside0.mk H
 clear H
 go_enter Try.func22,Try.ntmps22
 go_wp2
 go_loopg [8] k (fun kq v8 w'=>∃ (x8_1:Int),v8 = .int .i64 x8_1∧Aside0 (slices_Index_int_int.l0 kq l0 a1 (l0.length:Int) x8_1=some r)∧Aside0 (kq≤k)∧Drawn0 w w')
 case atStart=>exact ⟨(0),(by first|rfl|(simp;done)|(simp [*];done)),H',⟨Nat.le_refl _⟩,by repeat (first|exact Drawn0.refl _|apply Drawn0.step)⟩
 case round =>
  clear H'
  try clear c2
  try clear p2
  obtain ⟨x8_1,rfl,HA,HK1,⟨m1,rfl⟩⟩:=hrel
  cases gk with
  | zero=>exact absurd HA.out (by simp [slices_Index_int_int.l0])
  | succ k1 =>
   have H:=HA.out
   clear HA
   simp only [slices_Index_int_int.l0] at H
   by_cases c3:x8_1 < (l0.length:Int)
   ·rw [if_pos c3] at H
    have c3b0:decide (x8_1 < (l0.length:Int))=true:=decide_eq_true c3
    clear c3
    by_cases c4:0≤x8_1
    case neg =>
     rw [if_neg c4] at H
     exact absurd H (by simp)
    rw [if_pos c4] at H
    have c4b0:decide (0≤x8_1)=true:=decide_eq_true c4
    clear c4
    by_cases c5:x8_1 < (l0.length:Int)
    case neg =>
     rw [if_neg c5] at H
     exact absurd H (by simp)
    rw [if_pos c5] at H
    have c5b0:decide (x8_1 < (l0.length:Int))=true:=decide_eq_true c5
    clear c5
    by_cases c6:a1=(rd l0 x8_1)
    ·rw [if_pos c6] at H
     have c6b0:(a1 == (rd l0 x8_1))=true:=beq_iff_eq.mpr c6
     have c6b1:(a1 != (rd l0 x8_1))=false:=bne_eq_false_iff_eq.mpr c6
     clear c6
     obtain rfl:=Option.some.inj H
     have p132:0≤(x8_1:Int):=od
     have q132:x8_1 < (l0.length:Int):=od
     obtain ⟨ad132,e132,hx132_0⟩:=Kd.at_int HR0.out x8_1 p132 q132
     cases e132
     replace p132:=eq_true p132
     replace q132:=eq_true q132
     go_wp2
     go_ret
     exact ⟨by first|rfl|(simp;done)|(simp [*];done),by repeat (first|exact Drawn0.refl _|apply Drawn0.step)⟩
    ·rw [if_neg c6] at H
     have c6b0:(a1 == (rd l0 x8_1))=false:=beq_eq_false_iff_ne.mpr c6
     have c6b1:(a1 != (rd l0 x8_1))=true:=bne_iff_ne.mpr c6
     have H':=Aside0.mk H
     clear H
     have p132:0≤(x8_1:Int):=od
     have q132:x8_1 < (l0.length:Int):=od
     obtain ⟨ad132,e132,hx132_0⟩:=Kd.at_int HR0.out x8_1 p132 q132
     cases e132
     replace p132:=eq_true p132
     replace q132:=eq_true q132
     go_wp2
     go_roundg k1
     case measure=>have:=HK1.out;omega
     case rel=>exact ⟨(wrap64 (x8_1 + 1)),(by first|rfl|(simp;done)|(simp [*];done)),H',⟨by have:=HK1.out;omega⟩,by repeat (first|exact Drawn0.refl _|apply Drawn0.step)⟩
   ·rw [if_neg c3] at H
    have c3b0:decide (x8_1 < (l0.length:Int))=false:=decide_eq_false c3
    clear c3
    obtain rfl:=Option.some.inj H
    go_wp2
    go_ret
    exact ⟨by first|rfl|(simp;done)|(simp [*];done),by repeat (first|exact Drawn0.refl _|apply Drawn0.step)⟩

/-! ### slices_Contains_int_int: function 21 -/
def slices_Contains_int_int.f (k:Nat) (l0:List Int) (a1:Int):Option (Bool):=(slices_Index_int_int.f k l0 a1).bind fun t133=>(some (decide (t133 ≥ 0)))
theorem slices_Contains_int_int.mono:∀ a0 a1 k,LeO (slices_Contains_int_int.f k a0 a1) (slices_Contains_int_int.f (k + 1) a0 a1):=by
 intro a0 a1 k
 unfold slices_Contains_int_int.f
 repeat' first
   | (with_reducible exact slices_Index_int_int.mono _ _ _)
   | (with_reducible exact LeO.refl _)
   | (with_reducible exact LeO.none _)
   | (with_reducible refine LeO.ite ?_ ?_)
   | (with_reducible refine LeO.bind ?_ (fun _=>?_))
   | exact slices_Index_int_int.mono _ _ _
   | exact LeO.none _
   | refine LeO.ite ?_ ?_
   | refine LeO.bind ?_ (fun _=>?_)
set_option maxHeartbeats 8000000 in
set_option maxRecDepth 100000 in
theorem slices_Contains_int_int.calls (k:Nat) (A0:Option Addr) (c0:Nat) (l0:List Int) (a1:Int) (r:Bool) (w:World) (hr0:Kd.C (Kd.int .i64) w A0 l0.length l0) (hc0:l0.length≤c0) (h:slices_Contains_int_int.f k l0 a1=some r) :
  Calls Try.prog 21 #[.slice A0 l0.length c0,.int .i64 a1] w fun e w'=>e = .returned (.bool r)∧Drawn0 w w':=by
 have HR0:=Aside0.mk hr0
 have HC0:=Aside0.mk hc0
 clear hr0 hc0
 have H:((slices_Index_int_int.f k l0 a1).bind fun t133=>(some (decide (t133 ≥ 0))))=some r:=h
 clear h
 replace H:=Option.bind_eq_some_iff.mp H
 obtain ⟨t133,A30,H⟩:=H
 have A3:=Aside0.mk A30
 clear A30
 obtain rfl:=Option.some.inj H
 go_enter Try.func21,Try.ntmps21
 go_wp2_with (first|((with_reducible refine gate_callee (f:=22) rfl ?_);refine gl (some 7) Try.func22 #[.slice A0 l0.length c0,.int .i64 a1] ?_;(with_reducible refine (slices_Index_int_int.calls k _ _ l0 a1 t133 _ ?side1 ?side2 A3.out).mono ?_);(case side1=>repeat (first|exact HR0.out|(with_reducible refine Kd.C_alloc ?_ _)|(with_reducible refine Kd.C_drewN ?_ _)|(with_reducible refine Kd.C_drew ?_)));(case side2=>exact HC0.out);rintro e w' ⟨rfl,⟨nd,rfl⟩⟩;refine ⟨_,rfl,?_⟩))
 go_ret
 exact ⟨by first|rfl|(simp;done)|(simp [*];done),by repeat (first|exact Drawn0.refl _|apply Drawn0.step)⟩

/-! ### impl_hasTicket: function 18 -/
def impl_hasTicket.f (k:Nat) (a0:Int):Option (Bool):=(slices_Contains_int_int.f k (([3,4,7,8,9,10]:List Int)) a0).bind fun t137=>(some t137)
theorem impl_hasTicket.mono:∀ a0 k,LeO (impl_hasTicket.f k a0) (impl_hasTicket.f (k + 1) a0):=by
 intro a0 k
 unfold impl_hasTicket.f
 repeat' first
   | (with_reducible exact slices_Contains_int_int.mono _ _ _)
   | (with_reducible exact LeO.refl _)
   | (with_reducible exact LeO.none _)
   | (with_reducible refine LeO.ite ?_ ?_)
   | (with_reducible refine LeO.bind ?_ (fun _=>?_))
   | exact slices_Contains_int_int.mono _ _ _
   | exact LeO.none _
   | refine LeO.ite ?_ ?_
   | refine LeO.bind ?_ (fun _=>?_)
set_option maxHeartbeats 8000000 in
set_option maxRecDepth 100000 in
theorem impl_hasTicket.calls (k:Nat) (a0:Int) (r:Bool) (w:World) (h:impl_hasTicket.f k a0=some r) :
  Calls Try.prog 18 #[.int .i64 a0] w fun e w'=>e = .returned (.bool r)∧Below w.heap.size w w':=by
 have HB:=Aside0.mk (Below.refl w.heap.size w)
 have H:((slices_Contains_int_int.f k (([3,4,7,8,9,10]:List Int)) a0).bind fun t137=>(some t137))=some r:=h
 clear h
 obtain ⟨y134,hy134⟩:∃ y_:List Int,y_=(([3,4,7,8,9,10]:List Int)):=⟨_,rfl⟩
 replace H:((slices_Contains_int_int.f k y134 a0).bind fun t137=>(some t137))=some r:=by first|(rw [hy134];with_reducible exact H)|(have H2_:=(Option.bind_some _ _).symm.trans H;rw [hy134];with_reducible exact H2_)|(have H2_:=(Option.bind_some _ _).symm.trans H;with_reducible exact H2_)|with_reducible exact H|(rw [hy134];exact H)|exact H
 have Ny134:=Aside0.mk hy134
 clear hy134
 replace H:=Option.bind_eq_some_iff.mp H
 obtain ⟨t137,A20,H⟩:=H
 have A2:=Aside0.mk A20
 clear A20
 obtain rfl:=Option.some.inj H
 go_enter Try.func18,Try.ntmps18
 go_wp2_with (first|((with_reducible refine gate_dst (N:=3) rfl ?_);refine Kd.R_lit (Kd.int .i64) _ 3 ?hg (N:=3) ?hd (xs:=([3,4,7,8,9,10]:List Int)) (inner:=[.int .i64 3,.int .i64 4,.int .i64 7,.int .i64 8,.int .i64 9,.int .i64 10]) (ok:=fun _=>True) (okp:=fun _=>True) ?hr ?hp (fun _ hk=>hk) trivial (Below.refl _ _) (Nat.le_refl _) (by simp) ?_;(case hd=>rfl);(case hg=>rfl);(case hr=>first|(go_simp;done)|(go_simp;rfl));(case hp=>exact (Reps.one (show Kd.M (Kd.int .i64) _ _ _ 3 [.int .i64 3] from rfl) (Reps.one (show Kd.M (Kd.int .i64) _ _ _ 4 [.int .i64 4] from rfl) (Reps.one (show Kd.M (Kd.int .i64) _ _ _ 7 [.int .i64 7] from rfl) (Reps.one (show Kd.M (Kd.int .i64) _ _ _ 8 [.int .i64 8] from rfl) (Reps.one (show Kd.M (Kd.int .i64) _ _ _ 9 [.int .i64 9] from rfl) (Reps.one (show Kd.M (Kd.int .i64) _ _ _ 10 [.int .i64 10] from rfl) (Reps.none _ _))))))));intro v135 w3 ho4 hb hg_ hnew_;clear hg_ hnew_;(first|rw [← Ny134.out] at ho4|(simp only [Int.reduceToNat] at ho4;rw [← Ny134.out] at ho4));have HO136:=Aside0.mk (Kd.R_lower ho4 (below_size bl));replace HB:=Aside0.mk (below_step bl hb);clear hb ho4;obtain ⟨Ao5,co5,eo5⟩:=Kd.R_slice HO136.out;subst eo5)|((with_reducible refine gate_callee (f:=21) rfl ?_);refine gl (some 5) Try.func21 #[.slice Ao5 y134.length co5,.int .i64 a0] ?_;(with_reducible refine (slices_Contains_int_int.calls k _ _ y134 a0 t137 _ ?side1 ?side2 A2.out).mono ?_);(case side1=>repeat (first|exact (Kd.R_reads' HO136.out).2.2|(with_reducible refine Kd.C_alloc ?_ _)|(with_reducible refine Kd.C_drewN ?_ _)|(with_reducible refine Kd.C_drew ?_)));(case side2=>exact (Kd.R_reads' HO136.out).2.1);rintro e w' ⟨rfl,⟨nd,rfl⟩⟩;refine ⟨_,rfl,?_⟩))
 go_ret
 exact ⟨er,bl⟩

/-! ### impl_in: function 20 -/
def impl_in.f (a0:Int) (a1:Int) (a2:Int):Option (Bool):=if a0 ≥ a1 then (some (decide (a0≤a2))) else (some false)
set_option maxHeartbeats 8000000 in
set_option maxRecDepth 100000 in
theorem impl_in.calls (a0:Int) (a1:Int) (a2:Int) (r:Bool) (w:World) (h:impl_in.f a0 a1 a2=some r) :
  Calls Try.prog 20 #[.int .i64 a0,.int .i64 a1,.int .i64 a2] w fun e w'=>e = .returned (.bool r)∧Drawn0 w w':=by
 have H:(if a0 ≥ a1 then (some (decide (a0≤a2))) else (some false))=some r:=h
 clear h
 by_cases c4:a0 ≥ a1
 ·rw [if_pos c4] at H
  have c4b0:decide (a1≤a0)=true:=decide_eq_true c4
  clear c4
  obtain rfl:=Option.some.inj H
  go_enter Try.func20,Try.ntmps20
  go_wp2
  go_ret
  exact ⟨by first|rfl|(simp;done)|(simp [*];done),by repeat (first|exact Drawn0.refl _|apply Drawn0.step)⟩
 ·rw [if_neg c4] at H
  have c4b0:decide (a1≤a0)=false:=decide_eq_false c4
  clear c4
  obtain rfl:=Option.some.inj H
  go_enter Try.func20,Try.ntmps20
  go_wp2
  go_ret
  exact ⟨by first|rfl|(simp;done)|(simp [*];done),by repeat (first|exact Drawn0.refl _|apply Drawn0.step)⟩

/-! ### impl_hasConn: function 19 -/
def impl_hasConn.f (a0:Int):Option (Bool):=(impl_in.f a0 0 6).bind fun t138=>(if t138=true then (some true) else (some (a0 == 10)))
set_option maxHeartbeats 8000000 in
set_option maxRecDepth 100000 in
theorem impl_hasConn.calls (a0:Int) (r:Bool) (w:World) (h:impl_hasConn.f a0=some r) :
  Calls Try.prog 19 #[.int .i64 a0] w fun e w'=>e = .returned (.bool r)∧Drawn0 w w':=by
 have H:((impl_in.f a0 0 6).bind fun t138=>(if t138=true then (some true) else (some (a0 == 10))))=some r:=h
 clear h
 replace H:=Option.bind_eq_some_iff.mp H
 obtain ⟨t138,A20,H⟩:=H
 have A2:=Aside0.mk A20
 clear A20
 by_cases c3:t138=true
 ·subst c3
  rw [if_pos rfl] at H
  obtain rfl:=Option.some.inj H
  go_enter Try.func19,Try.ntmps19
  go_wp2_with (first|((with_reducible refine gate_callee (f:=20) rfl ?_);refine gl (some 4) Try.func20 #[.int .i64 a0,.int .i64 0,.int .i64 6] ?_;(with_reducible refine (impl_in.calls a0 0 6 true _ A2.out).mono ?_);rintro e w' ⟨rfl,⟨nd,rfl⟩⟩;refine ⟨_,rfl,?_⟩))
  go_ret
  exact ⟨by first|rfl|(simp;done)|(simp [*];done),by repeat (first|exact Drawn0.refl _|apply Drawn0.step)⟩
 ·replace c3:=Bool.eq_false_iff.mpr c3
  subst c3
  rw [if_neg nft] at H
  obtain rfl:=Option.some.inj H
  go_enter Try.func19,Try.ntmps19
  go_wp2_with (first|((with_reducible refine gate_callee (f:=20) rfl ?_);refine gl (some 4) Try.func20 #[.int .i64 a0,.int .i64 0,.int .i64 6] ?_;(with_reducible refine (impl_in.calls a0 0 6 false _ A2.out).mono ?_);rintro e w' ⟨rfl,⟨nd,rfl⟩⟩;refine ⟨_,rfl,?_⟩))
  go_ret
  exact ⟨by first|rfl|(simp;done)|(simp [*];done),by repeat (first|exact Drawn0.refl _|apply Drawn0.step)⟩

end Go.Proofs.Ytfnphdikfialnaa.PFnExactAnsweredOnce
