/- Contracts of functions of the given program: what each call answers. Written by a program of this session, out of the text of the functions. -/
import Derived.Test.YtciehpgbhfngiaaPFnExactOneHolderx0
import Derived.Test.YtciehpgbhfngiaaPFnExactOneHolderx1
import Derived.Test.YtciehpgbhfngiaaPFnExactOneHolderx2
import Derived.Test.YtciehpgbhfngiaaPrs
namespace Go.Proofs.Ytciehpgbhfngiaa.PFnExactOneHolder
open Go.RowKit Go.Proofs.YtciehpgbhfngiaaW.PrintWords Go.Proofs.YtciehpgbhfngiaaW.PrintLast Go.Proofs.YtciehpgbhfngiaaW.PrintMore Go.Proofs.Ytciehpgbhfngiaa.Giv Go.Proofs.Ytciehpgbhfngiaa.Prs
attribute [local go_sem] max2_int min2_int max_two min_two max_three min_three max_four min_four   -- for this text's walks alone
set_option linter.unusedVariables false
set_option linter.unusedSimpArgs false

/-! ### spec_l11Holder: function 14 -/
def spec_l11Holder.l0:Nat→List (S30)→Int→Int→Int→Int→Option (Int)
 | 0,_,_,_,_,_=>none
 | k + 1,x0,x1,x2,x7,x8=>if x8 < x1 then (if 0≤x8 then (if x8 < (x0.length:Int) then (if ((rd_T30 x0 x8).f2)=x2 then (if ((rd_T30 x0 x8).f0)=3 then (spec_l11Holder.l0 k x0 x1 x2 ((rd_T30 x0 x8).f1) (wrap64 (x8 + 1))) else (if ((rd_T30 x0 x8).f0)=4 then (spec_l11Holder.l0 k x0 x1 x2 0 (wrap64 (x8 + 1))) else (if ((rd_T30 x0 x8).f0)=5 then (spec_l11Holder.l0 k x0 x1 x2 0 (wrap64 (x8 + 1))) else (spec_l11Holder.l0 k x0 x1 x2 x7 (wrap64 (x8 + 1)))))) else (spec_l11Holder.l0 k x0 x1 x2 x7 (wrap64 (x8 + 1)))) else (none)) else (none)) else (some x7)
def spec_l11Holder.f (k:Nat) (l0:List (S30)) (a1:Int) (a2:Int):Option (Int):=spec_l11Holder.l0 k l0 a1 a2 0 0
theorem spec_l11Holder.mono_l:∀ k,(∀ y0 y1 y2 y3 y4,LeO (spec_l11Holder.l0 k y0 y1 y2 y3 y4) (spec_l11Holder.l0 (k + 1) y0 y1 y2 y3 y4))
 | 0=>fun _ _ _ _ _ r h=>by simp [spec_l11Holder.l0] at h
 | k + 1=>by
  have ih0:=spec_l11Holder.mono_l k
  ·intro y0 y1 y2 y3 y4
   unfold spec_l11Holder.l0
   repeat' first
   | (with_reducible exact ih0 _ _ _ _ _)
   | (with_reducible exact LeO.refl _)
   | (with_reducible exact LeO.none _)
   | (with_reducible refine LeO.ite ?_ ?_)
   | (with_reducible refine LeO.bind ?_ (fun _=>?_))
   | exact ih0 _ _ _ _ _
   | exact LeO.none _
   | refine LeO.ite ?_ ?_
   | refine LeO.bind ?_ (fun _=>?_)
theorem spec_l11Holder.mono:∀ a0 a1 a2 k,LeO (spec_l11Holder.f k a0 a1 a2) (spec_l11Holder.f (k + 1) a0 a1 a2):=by
 intro a0 a1 a2 k
 have ih0:=spec_l11Holder.mono_l k
 unfold spec_l11Holder.f
 repeat' first
   | (with_reducible exact ih0 _ _ _ _ _)
   | (with_reducible exact LeO.refl _)
   | (with_reducible exact LeO.none _)
   | (with_reducible refine LeO.ite ?_ ?_)
   | (with_reducible refine LeO.bind ?_ (fun _=>?_))
   | exact ih0 _ _ _ _ _
   | exact LeO.none _
   | refine LeO.ite ?_ ?_
   | refine LeO.bind ?_ (fun _=>?_)
set_option maxHeartbeats 8000000 in
set_option maxRecDepth 100000 in
theorem spec_l11Holder.calls (k:Nat) (A0:Option Addr) (c0:Nat) (l0:List (S30)) (a1:Int) (a2:Int) (r:Int) (w:World) (hr0:Kd.C k30 w A0 l0.length l0) (hc0:l0.length≤c0) (h:spec_l11Holder.f k l0 a1 a2=some r) :
  Calls Try.prog 14 #[.slice A0 l0.length c0,.int .i64 a1,.int .i64 a2] w fun e w'=>e = .returned (.int .i64 r)∧Drawn0 w w':=by
 have HR0:=Aside0.mk hr0
 have HC0:=Aside0.mk hc0
 clear hr0 hc0
 have H:(spec_l11Holder.l0 k l0 a1 a2 0 0)=some r:=h
 clear h
 have H':=Aside0.mk H
 clear H
 go_enter Try.func14,Try.ntmps14
 go_wp2
 go_loopg [7,8] k (fun kq v7 v8 w'=>∃ (x7_1:Int) (x8_1:Int),v7 = .int .i64 x7_1∧v8 = .int .i64 x8_1∧Aside0 (spec_l11Holder.l0 kq l0 a1 a2 x7_1 x8_1=some r)∧Aside0 (kq≤k)∧Drawn0 w w')
 case atStart=>exact ⟨(0),(0),(by first|rfl|(simp;done)|(simp [*];done)),(by first|rfl|(simp;done)|(simp [*];done)),H',⟨Nat.le_refl _⟩,by repeat (first|exact Drawn0.refl _|apply Drawn0.step)⟩
 case round =>
  clear H'
  try clear c1
  try clear p2
  obtain ⟨x7_1,x8_1,rfl,rfl,HA,HK1,⟨m1,rfl⟩⟩:=hrel
  cases gk with
  | zero=>exact absurd HA.out (by simp [spec_l11Holder.l0])
  | succ k1 =>
   have H:=HA.out
   clear HA
   simp only [spec_l11Holder.l0] at H
   by_cases c4:x8_1 < a1
   ·rw [if_pos c4] at H
    have c4b0:decide (x8_1 < a1)=true:=decide_eq_true c4
    clear c4
    by_cases c5:0≤x8_1
    case neg =>
     rw [if_neg c5] at H
     exact absurd H (by simp)
    rw [if_pos c5] at H
    have c5b0:decide (0≤x8_1)=true:=decide_eq_true c5
    clear c5
    by_cases c6:x8_1 < (l0.length:Int)
    case neg =>
     rw [if_neg c6] at H
     exact absurd H (by simp)
    rw [if_pos c6] at H
    have c6b0:decide (x8_1 < (l0.length:Int))=true:=decide_eq_true c6
    clear c6
    by_cases c7:((rd_T30 l0 x8_1).f2)=a2
    ·rw [if_pos c7] at H
     have c7b0:(((rd_T30 l0 x8_1).f2) == a2)=true:=beq_iff_eq.mpr c7
     have c7b1:(((rd_T30 l0 x8_1).f2) != a2)=false:=bne_eq_false_iff_eq.mpr c7
     clear c7
     by_cases c8:((rd_T30 l0 x8_1).f0)=3
     ·rw [if_pos c8] at H
      have c8b0:(((rd_T30 l0 x8_1).f0) == 3)=true:=beq_iff_eq.mpr c8
      have c8b1:(((rd_T30 l0 x8_1).f0) != 3)=false:=bne_eq_false_iff_eq.mpr c8
      clear c8
      have H':=Aside0.mk H
      clear H
      have p113:0≤(x8_1:Int):=od
      have q113:x8_1 < (l0.length:Int):=od
      obtain ⟨ad113,e113,hx113_0,hx113_1,hx113_2⟩:=at_T30 HR0.out x8_1 p113 q113
      cases e113
      replace p113:=eq_true p113
      replace q113:=eq_true q113
      have p114:0≤(x8_1:Int):=od
      have q114:x8_1 < (l0.length:Int):=od
      obtain ⟨ad114,e114,hx114_0,hx114_1,hx114_2⟩:=at_T30 HR0.out x8_1 p114 q114
      obtain rfl:ad113=ad114:=(by injection e114)
      replace p114:=eq_true p114
      replace q114:=eq_true q114
      have p115:0≤(x8_1:Int):=od
      have q115:x8_1 < (l0.length:Int):=od
      obtain ⟨ad115,e115,hx115_0,hx115_1,hx115_2⟩:=at_T30 HR0.out x8_1 p115 q115
      obtain rfl:ad113=ad115:=(by injection e115)
      replace p115:=eq_true p115
      replace q115:=eq_true q115
      go_wp2
      go_roundg k1
      case measure=>have:=HK1.out;omega
      case rel=>exact ⟨((rd_T30 l0 x8_1).f1),(wrap64 (x8_1 + 1)),(by first|rfl|(simp;done)|(simp [*];done)),(by first|rfl|(simp;done)|(simp [*];done)),H',⟨by have:=HK1.out;omega⟩,by repeat (first|exact Drawn0.refl _|apply Drawn0.step)⟩
     ·rw [if_neg c8] at H
      have c8b0:(((rd_T30 l0 x8_1).f0) == 3)=false:=beq_eq_false_iff_ne.mpr c8
      have c8b1:(((rd_T30 l0 x8_1).f0) != 3)=true:=bne_iff_ne.mpr c8
      by_cases c9:((rd_T30 l0 x8_1).f0)=4
      ·rw [if_pos c9] at H
       have c9b0:(((rd_T30 l0 x8_1).f0) == 4)=true:=beq_iff_eq.mpr c9
       have c9b1:(((rd_T30 l0 x8_1).f0) != 4)=false:=bne_eq_false_iff_eq.mpr c9
       clear c9
       have H':=Aside0.mk H
       clear H
       have p113:0≤(x8_1:Int):=od
       have q113:x8_1 < (l0.length:Int):=od
       obtain ⟨ad113,e113,hx113_0,hx113_1,hx113_2⟩:=at_T30 HR0.out x8_1 p113 q113
       cases e113
       replace p113:=eq_true p113
       replace q113:=eq_true q113
       have p114:0≤(x8_1:Int):=od
       have q114:x8_1 < (l0.length:Int):=od
       obtain ⟨ad114,e114,hx114_0,hx114_1,hx114_2⟩:=at_T30 HR0.out x8_1 p114 q114
       obtain rfl:ad113=ad114:=(by injection e114)
       replace p114:=eq_true p114
       replace q114:=eq_true q114
       go_wp2
       go_roundg k1
       case measure=>have:=HK1.out;omega
       case rel=>exact ⟨(0),(wrap64 (x8_1 + 1)),(by first|rfl|(simp;done)|(simp [*];done)),(by first|rfl|(simp;done)|(simp [*];done)),H',⟨by have:=HK1.out;omega⟩,by repeat (first|exact Drawn0.refl _|apply Drawn0.step)⟩
      ·rw [if_neg c9] at H
       have c9b0:(((rd_T30 l0 x8_1).f0) == 4)=false:=beq_eq_false_iff_ne.mpr c9
       have c9b1:(((rd_T30 l0 x8_1).f0) != 4)=true:=bne_iff_ne.mpr c9
       by_cases c10:((rd_T30 l0 x8_1).f0)=5
       ·rw [if_pos c10] at H
        have c10b0:(((rd_T30 l0 x8_1).f0) == 5)=true:=beq_iff_eq.mpr c10
        have c10b1:(((rd_T30 l0 x8_1).f0) != 5)=false:=bne_eq_false_iff_eq.mpr c10
        clear c10
        have H':=Aside0.mk H
        clear H
        have p113:0≤(x8_1:Int):=od
        have q113:x8_1 < (l0.length:Int):=od
        obtain ⟨ad113,e113,hx113_0,hx113_1,hx113_2⟩:=at_T30 HR0.out x8_1 p113 q113
        cases e113
        replace p113:=eq_true p113
        replace q113:=eq_true q113
        have p114:0≤(x8_1:Int):=od
        have q114:x8_1 < (l0.length:Int):=od
        obtain ⟨ad114,e114,hx114_0,hx114_1,hx114_2⟩:=at_T30 HR0.out x8_1 p114 q114
        obtain rfl:ad113=ad114:=(by injection e114)
        replace p114:=eq_true p114
        replace q114:=eq_true q114
        go_wp2
        go_roundg k1
        case measure=>have:=HK1.out;omega
        case rel=>exact ⟨(0),(wrap64 (x8_1 + 1)),(by first|rfl|(simp;done)|(simp [*];done)),(by first|rfl|(simp;done)|(simp [*];done)),H',⟨by have:=HK1.out;omega⟩,by repeat (first|exact Drawn0.refl _|apply Drawn0.step)⟩
       ·rw [if_neg c10] at H
        have c10b0:(((rd_T30 l0 x8_1).f0) == 5)=false:=beq_eq_false_iff_ne.mpr c10
        have c10b1:(((rd_T30 l0 x8_1).f0) != 5)=true:=bne_iff_ne.mpr c10
        have H':=Aside0.mk H
        clear H
        have p113:0≤(x8_1:Int):=od
        have q113:x8_1 < (l0.length:Int):=od
        obtain ⟨ad113,e113,hx113_0,hx113_1,hx113_2⟩:=at_T30 HR0.out x8_1 p113 q113
        cases e113
        replace p113:=eq_true p113
        replace q113:=eq_true q113
        have p114:0≤(x8_1:Int):=od
        have q114:x8_1 < (l0.length:Int):=od
        obtain ⟨ad114,e114,hx114_0,hx114_1,hx114_2⟩:=at_T30 HR0.out x8_1 p114 q114
        obtain rfl:ad113=ad114:=(by injection e114)
        replace p114:=eq_true p114
        replace q114:=eq_true q114
        go_wp2
        go_roundg k1
        case measure=>have:=HK1.out;omega
        case rel=>exact ⟨(x7_1),(wrap64 (x8_1 + 1)),(by first|rfl|(simp;done)|(simp [*];done)),(by first|rfl|(simp;done)|(simp [*];done)),H',⟨by have:=HK1.out;omega⟩,by repeat (first|exact Drawn0.refl _|apply Drawn0.step)⟩
    ·rw [if_neg c7] at H
     have c7b0:(((rd_T30 l0 x8_1).f2) == a2)=false:=beq_eq_false_iff_ne.mpr c7
     have c7b1:(((rd_T30 l0 x8_1).f2) != a2)=true:=bne_iff_ne.mpr c7
     have H':=Aside0.mk H
     clear H
     have p113:0≤(x8_1:Int):=od
     have q113:x8_1 < (l0.length:Int):=od
     obtain ⟨ad113,e113,hx113_0,hx113_1,hx113_2⟩:=at_T30 HR0.out x8_1 p113 q113
     cases e113
     replace p113:=eq_true p113
     replace q113:=eq_true q113
     go_wp2
     go_roundg k1
     case measure=>have:=HK1.out;omega
     case rel=>exact ⟨(x7_1),(wrap64 (x8_1 + 1)),(by first|rfl|(simp;done)|(simp [*];done)),(by first|rfl|(simp;done)|(simp [*];done)),H',⟨by have:=HK1.out;omega⟩,by repeat (first|exact Drawn0.refl _|apply Drawn0.step)⟩
   ·rw [if_neg c4] at H
    have c4b0:decide (x8_1 < a1)=false:=decide_eq_false c4
    clear c4
    obtain rfl:=Option.some.inj H
    go_wp2
    go_ret
    exact ⟨by first|rfl|(simp;done)|(simp [*];done),by repeat (first|exact Drawn0.refl _|apply Drawn0.step)⟩

/-! ### spec_OneHolder: function 6 -/
def spec_OneHolder.l0:Nat→List (S30)→Int→Option (Bool)
 | 0,_,_=>none
 | k + 1,x0,x3=>if x3 < (x0.length:Int) then (if 0≤x3 then ((spec_l01Has.f k (([3,4,5,10]:List Int)) ((rd_T30 x0 x3).f0)).bind fun t122=>(if t122=true then ((spec_l11Holder.f k x0 x3 ((rd_T30 x0 x3).f2)).bind fun t123=>(if ((rd_T30 x0 x3).f0)=3 then (if t123=0 then (spec_OneHolder.l0 k x0 (wrap64 (x3 + 1))) else (some false)) else (if t123=((rd_T30 x0 x3).f1) then (spec_OneHolder.l0 k x0 (wrap64 (x3 + 1))) else (some false)))) else (spec_OneHolder.l0 k x0 (wrap64 (x3 + 1))))) else (none)) else (some true)
def spec_OneHolder.f (k:Nat) (l0:List (S30)):Option (Bool):=(spec_LogOk.f k l0).bind fun t116=>(if t116=true then (spec_OneHolder.l0 k l0 0) else (some false))
theorem spec_OneHolder.mono_l:∀ k,(∀ y0 y1,LeO (spec_OneHolder.l0 k y0 y1) (spec_OneHolder.l0 (k + 1) y0 y1))
 | 0=>fun _ _ r h=>by simp [spec_OneHolder.l0] at h
 | k + 1=>by
  have ih0:=spec_OneHolder.mono_l k
  ·intro y0 y1
   unfold spec_OneHolder.l0
   repeat' first
   | (with_reducible exact ih0 _ _)
   | (with_reducible exact spec_LogOk.mono _ _)
   | (with_reducible exact spec_l01Has.mono _ _ _)
   | (with_reducible exact spec_l11Holder.mono _ _ _ _)
   | (with_reducible exact LeO.refl _)
   | (with_reducible exact LeO.none _)
   | (with_reducible refine LeO.ite ?_ ?_)
   | (with_reducible refine LeO.bind ?_ (fun _=>?_))
   | exact ih0 _ _
   | exact spec_LogOk.mono _ _
   | exact spec_l01Has.mono _ _ _
   | exact spec_l11Holder.mono _ _ _ _
   | exact LeO.none _
   | refine LeO.ite ?_ ?_
   | refine LeO.bind ?_ (fun _=>?_)
theorem spec_OneHolder.mono:∀ a0 k,LeO (spec_OneHolder.f k a0) (spec_OneHolder.f (k + 1) a0):=by
 intro a0 k
 have ih0:=spec_OneHolder.mono_l k
 unfold spec_OneHolder.f
 repeat' first
   | (with_reducible exact ih0 _ _)
   | (with_reducible exact spec_LogOk.mono _ _)
   | (with_reducible exact spec_l01Has.mono _ _ _)
   | (with_reducible exact spec_l11Holder.mono _ _ _ _)
   | (with_reducible exact LeO.refl _)
   | (with_reducible exact LeO.none _)
   | (with_reducible refine LeO.ite ?_ ?_)
   | (with_reducible refine LeO.bind ?_ (fun _=>?_))
   | exact ih0 _ _
   | exact spec_LogOk.mono _ _
   | exact spec_l01Has.mono _ _ _
   | exact spec_l11Holder.mono _ _ _ _
   | exact LeO.none _
   | refine LeO.ite ?_ ?_
   | refine LeO.bind ?_ (fun _=>?_)
set_option maxHeartbeats 8000000 in
set_option maxRecDepth 100000 in
theorem spec_OneHolder.calls (k:Nat) (A0:Option Addr) (c0:Nat) (l0:List (S30)) (r:Bool) (w:World) (hr0:Kd.C k30 w A0 l0.length l0) (hc0:l0.length≤c0) (h:spec_OneHolder.f k l0=some r) :
  Calls Try.prog 6 #[.slice A0 l0.length c0] w fun e w'=>e = .returned (.bool r)∧Below w.heap.size w w':=by
 have hu30:=Try.underlying30
 have HR0:=Aside0.mk hr0
 have HC0:=Aside0.mk hc0
 clear hr0 hc0
 have HB:=Aside0.mk (Below.refl w.heap.size w)
 have H:((spec_LogOk.f k l0).bind fun t116=>(if t116=true then (spec_OneHolder.l0 k l0 0) else (some false)))=some r:=h
 clear h
 replace H:=Option.bind_eq_some_iff.mp H
 obtain ⟨t116,A20,H⟩:=H
 have A2:=Aside0.mk A20
 clear A20
 by_cases c3:t116=true
 ·subst c3
  rw [if_pos rfl] at H
  have H':=Aside0.mk H
  clear H
  go_enter Try.func6,Try.ntmps6
  go_wp2_with (first|((with_reducible refine gate_callee (f:=12) rfl ?_);refine gl (some 7) Try.func12 #[.slice A0 l0.length c0] ?_;(with_reducible refine (spec_LogOk.calls k _ _ l0 true _ ?side1 ?side2 A2.out).mono ?_);(case side1=>repeat (first|exact HR0.out|(with_reducible refine Kd.C_alloc ?_ _)|(with_reducible refine Kd.C_drewN ?_ _)|(with_reducible refine Kd.C_drew ?_)));(case side2=>exact HC0.out);rintro e w4 ⟨rfl,hb⟩;refine ⟨_,rfl,?_⟩;replace HB:=Aside0.mk (below_step bl hb);(try clear hb);(try clear hb2);(try clear hk);(try clear hi)))
  go_loopg [3] k (fun kq v3 w'=>∃ (x3_1:Int),v3 = .int .i64 x3_1∧Aside0 (spec_OneHolder.l0 kq l0 x3_1=some r)∧Aside0 (kq≤k)∧Aside0 (Below w.heap.size w w'))
  case atStart=>exact ⟨(0),(by first|rfl|(simp;done)|(simp [*];done)),H',⟨Nat.le_refl _⟩,⟨bl⟩⟩
  case round =>
   clear H'
   try clear c1
   try clear p2
   try clear c3
   obtain ⟨x3_1,rfl,HA,HK1,HB⟩:=hrel
   cases gk with
   | zero=>exact absurd HA.out (by simp [spec_OneHolder.l0])
   | succ k1 =>
    have H:=HA.out
    clear HA
    simp only [spec_OneHolder.l0] at H
    by_cases c5:x3_1 < (l0.length:Int)
    ·rw [if_pos c5] at H
     have c5b0:decide (x3_1 < (l0.length:Int))=true:=decide_eq_true c5
     clear c5
     by_cases c6:0≤x3_1
     case neg =>
      rw [if_neg c6] at H
      exact absurd H (by simp)
     rw [if_pos c6] at H
     have c6b0:decide (0≤x3_1)=true:=decide_eq_true c6
     clear c6
     obtain ⟨y119,hy119⟩:∃ y_:List Int,y_=(([3,4,5,10]:List Int)):=⟨_,rfl⟩
     replace H:((spec_l01Has.f k1 y119 ((rd_T30 l0 x3_1).f0)).bind fun t122=>(if t122=true then ((spec_l11Holder.f k1 l0 x3_1 ((rd_T30 l0 x3_1).f2)).bind fun t123=>(if ((rd_T30 l0 x3_1).f0)=3 then (if t123=0 then (spec_OneHolder.l0 k1 l0 (wrap64 (x3_1 + 1))) else (some false)) else (if t123=((rd_T30 l0 x3_1).f1) then (spec_OneHolder.l0 k1 l0 (wrap64 (x3_1 + 1))) else (some false)))) else (spec_OneHolder.l0 k1 l0 (wrap64 (x3_1 + 1)))))=some r:=by first|(rw [hy119];with_reducible exact H)|(have H2_:=(Option.bind_some _ _).symm.trans H;rw [hy119];with_reducible exact H2_)|(have H2_:=(Option.bind_some _ _).symm.trans H;with_reducible exact H2_)|with_reducible exact H|(rw [hy119];exact H)|exact H
     have Ny119:=Aside0.mk hy119
     clear hy119
     replace H:=Option.bind_eq_some_iff.mp H
     obtain ⟨t122,A70,H⟩:=H
     have A7:=Aside0.mk A70
     clear A70
     by_cases c8:t122=true
     ·subst c8
      rw [if_pos rfl] at H
      replace H:=Option.bind_eq_some_iff.mp H
      obtain ⟨t123,A90,H⟩:=H
      have A9:=Aside0.mk A90
      clear A90
      by_cases c10:((rd_T30 l0 x3_1).f0)=3
      ·rw [if_pos c10] at H
       have c10b0:(((rd_T30 l0 x3_1).f0) == 3)=true:=beq_iff_eq.mpr c10
       have c10b1:(((rd_T30 l0 x3_1).f0) != 3)=false:=bne_eq_false_iff_eq.mpr c10
       clear c10
       by_cases c11:t123=0
       ·rw [if_pos c11] at H
        have c11b0:(t123 == 0)=true:=beq_iff_eq.mpr c11
        have c11b1:(t123 != 0)=false:=bne_eq_false_iff_eq.mpr c11
        clear c11
        have H':=Aside0.mk H
        clear H
        have p117:0≤(x3_1:Int):=od
        have q117:x3_1 < (l0.length:Int):=od
        obtain ⟨ad117,e117,hx117_0,hx117_1,hx117_2⟩:=at_T30 HR0.out x3_1 p117 q117
        cases e117
        replace hx117_0:=cl HB hx117_0
        replace hx117_1:=cl HB hx117_1
        replace hx117_2:=cl HB hx117_2
        replace p117:=eq_true p117
        replace q117:=eq_true q117
        go_wp2_with (first|((with_reducible refine gate_dst (N:=4) rfl ?_);refine bx 4 #[.int .i64 0,.int .i64 0,.int .i64 0] 30 ?_;intro gb118 hg w12 hbox hb;have BK118:=Aside0.mk (hbox);have GW118:=Aside0.mk (bz hg:w.heap.size≤gb118);have GE118:=GW118;replace HB:=Aside0.mk (below_step bl hb);clear hb hbox hg;obtain ⟨hcz13_0,hcz13_1,hcz13_2,hfz13_0,hfz13_1,hfz13_2⟩:=ck3 BK118.out)|((with_reducible refine gate_dst (N:=19) rfl ?_);refine Kd.R_lit (Kd.int .i64) _ 3 ?hg (N:=19) ?hd (xs:=([3,4,5,10]:List Int)) (inner:=[.int .i64 3,.int .i64 4,.int .i64 5,.int .i64 10]) (ok:=fun _=>True) (okp:=fun _=>True) ?hr ?hp (fun _ hk=>hk) trivial (Below.refl _ _) (Nat.le_refl _) (by simp) ?_;(case hd=>rfl);(case hg=>rfl);(case hr=>first|(go_simp;done)|(go_simp;rfl));(case hp=>exact (Reps.one (show Kd.M (Kd.int .i64) _ _ _ 3 [.int .i64 3] from rfl) (Reps.one (show Kd.M (Kd.int .i64) _ _ _ 4 [.int .i64 4] from rfl) (Reps.one (show Kd.M (Kd.int .i64) _ _ _ 5 [.int .i64 5] from rfl) (Reps.one (show Kd.M (Kd.int .i64) _ _ _ 10 [.int .i64 10] from rfl) (Reps.none _ _))))));intro v120 w14 ho15 hb hg_ hnew_;clear hg_ hnew_;(first|rw [← Ny119.out] at ho15|(simp only [Int.reduceToNat] at ho15;rw [← Ny119.out] at ho15));have HO121:=Aside0.mk (Kd.R_lower ho15 (below_size bl));replace BK118:=Aside0.mk (blk_below (g:=gb118) (o:=.cells #[.int .i64 ((rd_T30 l0 x3_1).f0),.int .i64 ((rd_T30 l0 x3_1).f1),.int .i64 ((rd_T30 l0 x3_1).f2)] 30 (0,0)) (by (with_reducible repeat (first|refine blk_drewN ?_ _|refine blk_drew ?_|refine blk_alloc ?_ _));refine blk_put (cs:=#[.int .i64 ((rd_T30 l0 x3_1).f0),.int .i64 ((rd_T30 l0 x3_1).f1),.int .i64 0]) ?_ 2 _ rfl;(with_reducible repeat (first|refine blk_drewN ?_ _|refine blk_drew ?_|refine blk_alloc ?_ _));refine blk_put (cs:=#[.int .i64 ((rd_T30 l0 x3_1).f0),.int .i64 0,.int .i64 0]) ?_ 1 _ rfl;(with_reducible repeat (first|refine blk_drewN ?_ _|refine blk_drew ?_|refine blk_alloc ?_ _));refine blk_put (cs:=#[.int .i64 0,.int .i64 0,.int .i64 0]) ?_ 0 _ rfl;(with_reducible repeat (first|refine blk_drewN ?_ _|refine blk_drew ?_|refine blk_alloc ?_ _));exact BK118.out) hb);replace HB:=Aside0.mk (below_step bl hb);clear hb ho15;obtain ⟨hcz16_0,hcz16_1,hcz16_2,hfz16_0,hfz16_1,hfz16_2⟩:=ck3 BK118.out;obtain ⟨Ao17,co17,eo17⟩:=Kd.R_slice HO121.out;subst eo17)|((with_reducible refine gate_callee (f:=13) rfl ?_);refine gl (some 22) Try.func13 #[.slice Ao17 y119.length co17,.int .i64 ((rd_T30 l0 x3_1).f0)] ?_;(with_reducible refine (spec_l01Has.calls k1 _ _ y119 ((rd_T30 l0 x3_1).f0) true _ ?side1 ?side2 A7.out).mono ?_);(case side1=>repeat (first|exact (Kd.R_reads' HO121.out).2.2|(with_reducible refine Kd.C_alloc ?_ _)|(with_reducible refine Kd.C_drewN ?_ _)|(with_reducible refine Kd.C_drew ?_)));(case side2=>exact (Kd.R_reads' HO121.out).2.1);rintro e w' ⟨rfl,⟨nd,rfl⟩⟩;refine ⟨_,rfl,?_⟩)|((with_reducible refine gate_callee (f:=14) rfl ?_);refine gl (some 28) Try.func14 #[.slice (some ad117) l0.length c0,.int .i64 x3_1,.int .i64 ((rd_T30 l0 x3_1).f2)] ?_;(with_reducible refine (spec_l11Holder.calls k1 _ _ l0 x3_1 ((rd_T30 l0 x3_1).f2) t123 _ ?side1 ?side2 A9.out).mono ?_);(case side1=>repeat (first|exact (Kd.C_below HR0.out bl)|(with_reducible refine Kd.C_alloc ?_ _)|(with_reducible refine Kd.C_drewN ?_ _)|(with_reducible refine Kd.C_drew ?_)));(case side2=>exact HC0.out);rintro e w' ⟨rfl,⟨nd,rfl⟩⟩;refine ⟨_,rfl,?_⟩))
        go_roundg k1
        case measure=>have:=HK1.out;omega
        case rel=>exact ⟨(wrap64 (x3_1 + 1)),(by first|rfl|(simp;done)|(simp [*];done)),H',⟨by have:=HK1.out;omega⟩,⟨bl⟩⟩
       ·rw [if_neg c11] at H
        have c11b0:(t123 == 0)=false:=beq_eq_false_iff_ne.mpr c11
        have c11b1:(t123 != 0)=true:=bne_iff_ne.mpr c11
        obtain rfl:=Option.some.inj H
        have p117:0≤(x3_1:Int):=od
        have q117:x3_1 < (l0.length:Int):=od
        obtain ⟨ad117,e117,hx117_0,hx117_1,hx117_2⟩:=at_T30 HR0.out x3_1 p117 q117
        cases e117
        replace hx117_0:=cl HB hx117_0
        replace hx117_1:=cl HB hx117_1
        replace hx117_2:=cl HB hx117_2
        replace p117:=eq_true p117
        replace q117:=eq_true q117
        go_wp2_with (first|((with_reducible refine gate_dst (N:=4) rfl ?_);refine bx 4 #[.int .i64 0,.int .i64 0,.int .i64 0] 30 ?_;intro gb118 hg w18 hbox hb;have BK118:=Aside0.mk (hbox);have GW118:=Aside0.mk (bz hg:w.heap.size≤gb118);have GE118:=GW118;replace HB:=Aside0.mk (below_step bl hb);clear hb hbox hg;obtain ⟨hcz19_0,hcz19_1,hcz19_2,hfz19_0,hfz19_1,hfz19_2⟩:=ck3 BK118.out)|((with_reducible refine gate_dst (N:=19) rfl ?_);refine Kd.R_lit (Kd.int .i64) _ 3 ?hg (N:=19) ?hd (xs:=([3,4,5,10]:List Int)) (inner:=[.int .i64 3,.int .i64 4,.int .i64 5,.int .i64 10]) (ok:=fun _=>True) (okp:=fun _=>True) ?hr ?hp (fun _ hk=>hk) trivial (Below.refl _ _) (Nat.le_refl _) (by simp) ?_;(case hd=>rfl);(case hg=>rfl);(case hr=>first|(go_simp;done)|(go_simp;rfl));(case hp=>exact (Reps.one (show Kd.M (Kd.int .i64) _ _ _ 3 [.int .i64 3] from rfl) (Reps.one (show Kd.M (Kd.int .i64) _ _ _ 4 [.int .i64 4] from rfl) (Reps.one (show Kd.M (Kd.int .i64) _ _ _ 5 [.int .i64 5] from rfl) (Reps.one (show Kd.M (Kd.int .i64) _ _ _ 10 [.int .i64 10] from rfl) (Reps.none _ _))))));intro v120 w20 ho21 hb hg_ hnew_;clear hg_ hnew_;(first|rw [← Ny119.out] at ho21|(simp only [Int.reduceToNat] at ho21;rw [← Ny119.out] at ho21));have HO121:=Aside0.mk (Kd.R_lower ho21 (below_size bl));replace BK118:=Aside0.mk (blk_below (g:=gb118) (o:=.cells #[.int .i64 ((rd_T30 l0 x3_1).f0),.int .i64 ((rd_T30 l0 x3_1).f1),.int .i64 ((rd_T30 l0 x3_1).f2)] 30 (0,0)) (by (with_reducible repeat (first|refine blk_drewN ?_ _|refine blk_drew ?_|refine blk_alloc ?_ _));refine blk_put (cs:=#[.int .i64 ((rd_T30 l0 x3_1).f0),.int .i64 ((rd_T30 l0 x3_1).f1),.int .i64 0]) ?_ 2 _ rfl;(with_reducible repeat (first|refine blk_drewN ?_ _|refine blk_drew ?_|refine blk_alloc ?_ _));refine blk_put (cs:=#[.int .i64 ((rd_T30 l0 x3_1).f0),.int .i64 0,.int .i64 0]) ?_ 1 _ rfl;(with_reducible repeat (first|refine blk_drewN ?_ _|refine blk_drew ?_|refine blk_alloc ?_ _));refine blk_put (cs:=#[.int .i64 0,.int .i64 0,.int .i64 0]) ?_ 0 _ rfl;(with_reducible repeat (first|refine blk_drewN ?_ _|refine blk_drew ?_|refine blk_alloc ?_ _));exact BK118.out) hb);replace HB:=Aside0.mk (below_step bl hb);clear hb ho21;obtain ⟨hcz22_0,hcz22_1,hcz22_2,hfz22_0,hfz22_1,hfz22_2⟩:=ck3 BK118.out;obtain ⟨Ao23,co23,eo23⟩:=Kd.R_slice HO121.out;subst eo23)|((with_reducible refine gate_callee (f:=13) rfl ?_);refine gl (some 22) Try.func13 #[.slice Ao23 y119.length co23,.int .i64 ((rd_T30 l0 x3_1).f0)] ?_;(with_reducible refine (spec_l01Has.calls k1 _ _ y119 ((rd_T30 l0 x3_1).f0) true _ ?side1 ?side2 A7.out).mono ?_);(case side1=>repeat (first|exact (Kd.R_reads' HO121.out).2.2|(with_reducible refine Kd.C_alloc ?_ _)|(with_reducible refine Kd.C_drewN ?_ _)|(with_reducible refine Kd.C_drew ?_)));(case side2=>exact (Kd.R_reads' HO121.out).2.1);rintro e w' ⟨rfl,⟨nd,rfl⟩⟩;refine ⟨_,rfl,?_⟩)|((with_reducible refine gate_callee (f:=14) rfl ?_);refine gl (some 28) Try.func14 #[.slice (some ad117) l0.length c0,.int .i64 x3_1,.int .i64 ((rd_T30 l0 x3_1).f2)] ?_;(with_reducible refine (spec_l11Holder.calls k1 _ _ l0 x3_1 ((rd_T30 l0 x3_1).f2) t123 _ ?side1 ?side2 A9.out).mono ?_);(case side1=>repeat (first|exact (Kd.C_below HR0.out bl)|(with_reducible refine Kd.C_alloc ?_ _)|(with_reducible refine Kd.C_drewN ?_ _)|(with_reducible refine Kd.C_drew ?_)));(case side2=>exact HC0.out);rintro e w' ⟨rfl,⟨nd,rfl⟩⟩;refine ⟨_,rfl,?_⟩))
        go_ret
        exact ⟨er,bl⟩
      ·rw [if_neg c10] at H
       have c10b0:(((rd_T30 l0 x3_1).f0) == 3)=false:=beq_eq_false_iff_ne.mpr c10
       have c10b1:(((rd_T30 l0 x3_1).f0) != 3)=true:=bne_iff_ne.mpr c10
       by_cases c24:t123=((rd_T30 l0 x3_1).f1)
       ·rw [if_pos c24] at H
        have c24b0:(t123 == ((rd_T30 l0 x3_1).f1))=true:=beq_iff_eq.mpr c24
        have c24b1:(t123 != ((rd_T30 l0 x3_1).f1))=false:=bne_eq_false_iff_eq.mpr c24
        clear c24
        have H':=Aside0.mk H
        clear H
        have p117:0≤(x3_1:Int):=od
        have q117:x3_1 < (l0.length:Int):=od
        obtain ⟨ad117,e117,hx117_0,hx117_1,hx117_2⟩:=at_T30 HR0.out x3_1 p117 q117
        cases e117
        replace hx117_0:=cl HB hx117_0
        replace hx117_1:=cl HB hx117_1
        replace hx117_2:=cl HB hx117_2
        replace p117:=eq_true p117
        replace q117:=eq_true q117
        go_wp2_with (first|((with_reducible refine gate_dst (N:=4) rfl ?_);refine bx 4 #[.int .i64 0,.int .i64 0,.int .i64 0] 30 ?_;intro gb118 hg w25 hbox hb;have BK118:=Aside0.mk (hbox);have GW118:=Aside0.mk (bz hg:w.heap.size≤gb118);have GE118:=GW118;replace HB:=Aside0.mk (below_step bl hb);clear hb hbox hg;obtain ⟨hcz26_0,hcz26_1,hcz26_2,hfz26_0,hfz26_1,hfz26_2⟩:=ck3 BK118.out)|((with_reducible refine gate_dst (N:=19) rfl ?_);refine Kd.R_lit (Kd.int .i64) _ 3 ?hg (N:=19) ?hd (xs:=([3,4,5,10]:List Int)) (inner:=[.int .i64 3,.int .i64 4,.int .i64 5,.int .i64 10]) (ok:=fun _=>True) (okp:=fun _=>True) ?hr ?hp (fun _ hk=>hk) trivial (Below.refl _ _) (Nat.le_refl _) (by simp) ?_;(case hd=>rfl);(case hg=>rfl);(case hr=>first|(go_simp;done)|(go_simp;rfl));(case hp=>exact (Reps.one (show Kd.M (Kd.int .i64) _ _ _ 3 [.int .i64 3] from rfl) (Reps.one (show Kd.M (Kd.int .i64) _ _ _ 4 [.int .i64 4] from rfl) (Reps.one (show Kd.M (Kd.int .i64) _ _ _ 5 [.int .i64 5] from rfl) (Reps.one (show Kd.M (Kd.int .i64) _ _ _ 10 [.int .i64 10] from rfl) (Reps.none _ _))))));intro v120 w27 ho28 hb hg_ hnew_;clear hg_ hnew_;(first|rw [← Ny119.out] at ho28|(simp only [Int.reduceToNat] at ho28;rw [← Ny119.out] at ho28));have HO121:=Aside0.mk (Kd.R_lower ho28 (below_size bl));replace BK118:=Aside0.mk (blk_below (g:=gb118) (o:=.cells #[.int .i64 ((rd_T30 l0 x3_1).f0),.int .i64 ((rd_T30 l0 x3_1).f1),.int .i64 ((rd_T30 l0 x3_1).f2)] 30 (0,0)) (by (with_reducible repeat (first|refine blk_drewN ?_ _|refine blk_drew ?_|refine blk_alloc ?_ _));refine blk_put (cs:=#[.int .i64 ((rd_T30 l0 x3_1).f0),.int .i64 ((rd_T30 l0 x3_1).f1),.int .i64 0]) ?_ 2 _ rfl;(with_reducible repeat (first|refine blk_drewN ?_ _|refine blk_drew ?_|refine blk_alloc ?_ _));refine blk_put (cs:=#[.int .i64 ((rd_T30 l0 x3_1).f0),.int .i64 0,.int .i64 0]) ?_ 1 _ rfl;(with_reducible repeat (first|refine blk_drewN ?_ _|refine blk_drew ?_|refine blk_alloc ?_ _));refine blk_put (cs:=#[.int .i64 0,.int .i64 0,.int .i64 0]) ?_ 0 _ rfl;(with_reducible repeat (first|refine blk_drewN ?_ _|refine blk_drew ?_|refine blk_alloc ?_ _));exact BK118.out) hb);replace HB:=Aside0.mk (below_step bl hb);clear hb ho28;obtain ⟨hcz29_0,hcz29_1,hcz29_2,hfz29_0,hfz29_1,hfz29_2⟩:=ck3 BK118.out;obtain ⟨Ao30,co30,eo30⟩:=Kd.R_slice HO121.out;subst eo30)|((with_reducible refine gate_callee (f:=13) rfl ?_);refine gl (some 22) Try.func13 #[.slice Ao30 y119.length co30,.int .i64 ((rd_T30 l0 x3_1).f0)] ?_;(with_reducible refine (spec_l01Has.calls k1 _ _ y119 ((rd_T30 l0 x3_1).f0) true _ ?side1 ?side2 A7.out).mono ?_);(case side1=>repeat (first|exact (Kd.R_reads' HO121.out).2.2|(with_reducible refine Kd.C_alloc ?_ _)|(with_reducible refine Kd.C_drewN ?_ _)|(with_reducible refine Kd.C_drew ?_)));(case side2=>exact (Kd.R_reads' HO121.out).2.1);rintro e w' ⟨rfl,⟨nd,rfl⟩⟩;refine ⟨_,rfl,?_⟩)|((with_reducible refine gate_callee (f:=14) rfl ?_);refine gl (some 28) Try.func14 #[.slice (some ad117) l0.length c0,.int .i64 x3_1,.int .i64 ((rd_T30 l0 x3_1).f2)] ?_;(with_reducible refine (spec_l11Holder.calls k1 _ _ l0 x3_1 ((rd_T30 l0 x3_1).f2) t123 _ ?side1 ?side2 A9.out).mono ?_);(case side1=>repeat (first|exact (Kd.C_below HR0.out bl)|(with_reducible refine Kd.C_alloc ?_ _)|(with_reducible refine Kd.C_drewN ?_ _)|(with_reducible refine Kd.C_drew ?_)));(case side2=>exact HC0.out);rintro e w' ⟨rfl,⟨nd,rfl⟩⟩;refine ⟨_,rfl,?_⟩))
        go_roundg k1
        case measure=>have:=HK1.out;omega
        case rel=>exact ⟨(wrap64 (x3_1 + 1)),(by first|rfl|(simp;done)|(simp [*];done)),H',⟨by have:=HK1.out;omega⟩,⟨bl⟩⟩
       ·rw [if_neg c24] at H
        have c24b0:(t123 == ((rd_T30 l0 x3_1).f1))=false:=beq_eq_false_iff_ne.mpr c24
        have c24b1:(t123 != ((rd_T30 l0 x3_1).f1))=true:=bne_iff_ne.mpr c24
        obtain rfl:=Option.some.inj H
        have p117:0≤(x3_1:Int):=od
        have q117:x3_1 < (l0.length:Int):=od
        obtain ⟨ad117,e117,hx117_0,hx117_1,hx117_2⟩:=at_T30 HR0.out x3_1 p117 q117
        cases e117
        replace hx117_0:=cl HB hx117_0
        replace hx117_1:=cl HB hx117_1
        replace hx117_2:=cl HB hx117_2
        replace p117:=eq_true p117
        replace q117:=eq_true q117
        go_wp2_with (first|((with_reducible refine gate_dst (N:=4) rfl ?_);refine bx 4 #[.int .i64 0,.int .i64 0,.int .i64 0] 30 ?_;intro gb118 hg w31 hbox hb;have BK118:=Aside0.mk (hbox);have GW118:=Aside0.mk (bz hg:w.heap.size≤gb118);have GE118:=GW118;replace HB:=Aside0.mk (below_step bl hb);clear hb hbox hg;obtain ⟨hcz32_0,hcz32_1,hcz32_2,hfz32_0,hfz32_1,hfz32_2⟩:=ck3 BK118.out)|((with_reducible refine gate_dst (N:=19) rfl ?_);refine Kd.R_lit (Kd.int .i64) _ 3 ?hg (N:=19) ?hd (xs:=([3,4,5,10]:List Int)) (inner:=[.int .i64 3,.int .i64 4,.int .i64 5,.int .i64 10]) (ok:=fun _=>True) (okp:=fun _=>True) ?hr ?hp (fun _ hk=>hk) trivial (Below.refl _ _) (Nat.le_refl _) (by simp) ?_;(case hd=>rfl);(case hg=>rfl);(case hr=>first|(go_simp;done)|(go_simp;rfl));(case hp=>exact (Reps.one (show Kd.M (Kd.int .i64) _ _ _ 3 [.int .i64 3] from rfl) (Reps.one (show Kd.M (Kd.int .i64) _ _ _ 4 [.int .i64 4] from rfl) (Reps.one (show Kd.M (Kd.int .i64) _ _ _ 5 [.int .i64 5] from rfl) (Reps.one (show Kd.M (Kd.int .i64) _ _ _ 10 [.int .i64 10] from rfl) (Reps.none _ _))))));intro v120 w33 ho34 hb hg_ hnew_;clear hg_ hnew_;(first|rw [← Ny119.out] at ho34|(simp only [Int.reduceToNat] at ho34;rw [← Ny119.out] at ho34));have HO121:=Aside0.mk (Kd.R_lower ho34 (below_size bl));replace BK118:=Aside0.mk (blk_below (g:=gb118) (o:=.cells #[.int .i64 ((rd_T30 l0 x3_1).f0),.int .i64 ((rd_T30 l0 x3_1).f1),.int .i64 ((rd_T30 l0 x3_1).f2)] 30 (0,0)) (by (with_reducible repeat (first|refine blk_drewN ?_ _|refine blk_drew ?_|refine blk_alloc ?_ _));refine blk_put (cs:=#[.int .i64 ((rd_T30 l0 x3_1).f0),.int .i64 ((rd_T30 l0 x3_1).f1),.int .i64 0]) ?_ 2 _ rfl;(with_reducible repeat (first|refine blk_drewN ?_ _|refine blk_drew ?_|refine blk_alloc ?_ _));refine blk_put (cs:=#[.int .i64 ((rd_T30 l0 x3_1).f0),.int .i64 0,.int .i64 0]) ?_ 1 _ rfl;(with_reducible repeat (first|refine blk_drewN ?_ _|refine blk_drew ?_|refine blk_alloc ?_ _));refine blk_put (cs:=#[.int .i64 0,.int .i64 0,.int .i64 0]) ?_ 0 _ rfl;(with_reducible repeat (first|refine blk_drewN ?_ _|refine blk_drew ?_|refine blk_alloc ?_ _));exact BK118.out) hb);replace HB:=Aside0.mk (below_step bl hb);clear hb ho34;obtain ⟨hcz35_0,hcz35_1,hcz35_2,hfz35_0,hfz35_1,hfz35_2⟩:=ck3 BK118.out;obtain ⟨Ao36,co36,eo36⟩:=Kd.R_slice HO121.out;subst eo36)|((with_reducible refine gate_callee (f:=13) rfl ?_);refine gl (some 22) Try.func13 #[.slice Ao36 y119.length co36,.int .i64 ((rd_T30 l0 x3_1).f0)] ?_;(with_reducible refine (spec_l01Has.calls k1 _ _ y119 ((rd_T30 l0 x3_1).f0) true _ ?side1 ?side2 A7.out).mono ?_);(case side1=>repeat (first|exact (Kd.R_reads' HO121.out).2.2|(with_reducible refine Kd.C_alloc ?_ _)|(with_reducible refine Kd.C_drewN ?_ _)|(with_reducible refine Kd.C_drew ?_)));(case side2=>exact (Kd.R_reads' HO121.out).2.1);rintro e w' ⟨rfl,⟨nd,rfl⟩⟩;refine ⟨_,rfl,?_⟩)|((with_reducible refine gate_callee (f:=14) rfl ?_);refine gl (some 28) Try.func14 #[.slice (some ad117) l0.length c0,.int .i64 x3_1,.int .i64 ((rd_T30 l0 x3_1).f2)] ?_;(with_reducible refine (spec_l11Holder.calls k1 _ _ l0 x3_1 ((rd_T30 l0 x3_1).f2) t123 _ ?side1 ?side2 A9.out).mono ?_);(case side1=>repeat (first|exact (Kd.C_below HR0.out bl)|(with_reducible refine Kd.C_alloc ?_ _)|(with_reducible refine Kd.C_drewN ?_ _)|(with_reducible refine Kd.C_drew ?_)));(case side2=>exact HC0.out);rintro e w' ⟨rfl,⟨nd,rfl⟩⟩;refine ⟨_,rfl,?_⟩))
        go_ret
        exact ⟨er,bl⟩
     ·replace c8:=Bool.eq_false_iff.mpr c8
      subst c8
      rw [if_neg nft] at H
      have H':=Aside0.mk H
      clear H
      have p117:0≤(x3_1:Int):=od
      have q117:x3_1 < (l0.length:Int):=od
      obtain ⟨ad117,e117,hx117_0,hx117_1,hx117_2⟩:=at_T30 HR0.out x3_1 p117 q117
      cases e117
      replace hx117_0:=cl HB hx117_0
      replace hx117_1:=cl HB hx117_1
      replace hx117_2:=cl HB hx117_2
      replace p117:=eq_true p117
      replace q117:=eq_true q117
      go_wp2_with (first|((with_reducible refine gate_dst (N:=4) rfl ?_);refine bx 4 #[.int .i64 0,.int .i64 0,.int .i64 0] 30 ?_;intro gb118 hg w37 hbox hb;have BK118:=Aside0.mk (hbox);have GW118:=Aside0.mk (bz hg:w.heap.size≤gb118);have GE118:=GW118;replace HB:=Aside0.mk (below_step bl hb);clear hb hbox hg;obtain ⟨hcz38_0,hcz38_1,hcz38_2,hfz38_0,hfz38_1,hfz38_2⟩:=ck3 BK118.out)|((with_reducible refine gate_dst (N:=19) rfl ?_);refine Kd.R_lit (Kd.int .i64) _ 3 ?hg (N:=19) ?hd (xs:=([3,4,5,10]:List Int)) (inner:=[.int .i64 3,.int .i64 4,.int .i64 5,.int .i64 10]) (ok:=fun _=>True) (okp:=fun _=>True) ?hr ?hp (fun _ hk=>hk) trivial (Below.refl _ _) (Nat.le_refl _) (by simp) ?_;(case hd=>rfl);(case hg=>rfl);(case hr=>first|(go_simp;done)|(go_simp;rfl));(case hp=>exact (Reps.one (show Kd.M (Kd.int .i64) _ _ _ 3 [.int .i64 3] from rfl) (Reps.one (show Kd.M (Kd.int .i64) _ _ _ 4 [.int .i64 4] from rfl) (Reps.one (show Kd.M (Kd.int .i64) _ _ _ 5 [.int .i64 5] from rfl) (Reps.one (show Kd.M (Kd.int .i64) _ _ _ 10 [.int .i64 10] from rfl) (Reps.none _ _))))));intro v120 w39 ho40 hb hg_ hnew_;clear hg_ hnew_;(first|rw [← Ny119.out] at ho40|(simp only [Int.reduceToNat] at ho40;rw [← Ny119.out] at ho40));have HO121:=Aside0.mk (Kd.R_lower ho40 (below_size bl));replace BK118:=Aside0.mk (blk_below (g:=gb118) (o:=.cells #[.int .i64 ((rd_T30 l0 x3_1).f0),.int .i64 ((rd_T30 l0 x3_1).f1),.int .i64 ((rd_T30 l0 x3_1).f2)] 30 (0,0)) (by (with_reducible repeat (first|refine blk_drewN ?_ _|refine blk_drew ?_|refine blk_alloc ?_ _));refine blk_put (cs:=#[.int .i64 ((rd_T30 l0 x3_1).f0),.int .i64 ((rd_T30 l0 x3_1).f1),.int .i64 0]) ?_ 2 _ rfl;(with_reducible repeat (first|refine blk_drewN ?_ _|refine blk_drew ?_|refine blk_alloc ?_ _));refine blk_put (cs:=#[.int .i64 ((rd_T30 l0 x3_1).f0),.int .i64 0,.int .i64 0]) ?_ 1 _ rfl;(with_reducible repeat (first|refine blk_drewN ?_ _|refine blk_drew ?_|refine blk_alloc ?_ _));refine blk_put (cs:=#[.int .i64 0,.int .i64 0,.int .i64 0]) ?_ 0 _ rfl;(with_reducible repeat (first|refine blk_drewN ?_ _|refine blk_drew ?_|refine blk_alloc ?_ _));exact BK118.out) hb);replace HB:=Aside0.mk (below_step bl hb);clear hb ho40;obtain ⟨hcz41_0,hcz41_1,hcz41_2,hfz41_0,hfz41_1,hfz41_2⟩:=ck3 BK118.out;obtain ⟨Ao42,co42,eo42⟩:=Kd.R_slice HO121.out;subst eo42)|((with_reducible refine gate_callee (f:=13) rfl ?_);refine gl (some 22) Try.func13 #[.slice Ao42 y119.length co42,.int .i64 ((rd_T30 l0 x3_1).f0)] ?_;(with_reducible refine (spec_l01Has.calls k1 _ _ y119 ((rd_T30 l0 x3_1).f0) false _ ?side1 ?side2 A7.out).mono ?_);(case side1=>repeat (first|exact (Kd.R_reads' HO121.out).2.2|(with_reducible refine Kd.C_alloc ?_ _)|(with_reducible refine Kd.C_drewN ?_ _)|(with_reducible refine Kd.C_drew ?_)));(case side2=>exact (Kd.R_reads' HO121.out).2.1);rintro e w' ⟨rfl,⟨nd,rfl⟩⟩;refine ⟨_,rfl,?_⟩))
      go_roundg k1
      case measure=>have:=HK1.out;omega
      case rel=>exact ⟨(wrap64 (x3_1 + 1)),(by first|rfl|(simp;done)|(simp [*];done)),H',⟨by have:=HK1.out;omega⟩,⟨bl⟩⟩
    ·rw [if_neg c5] at H
     have c5b0:decide (x3_1 < (l0.length:Int))=false:=decide_eq_false c5
     clear c5
     obtain rfl:=Option.some.inj H
     go_wp2
     go_ret
     exact ⟨er,bl⟩
 ·replace c3:=Bool.eq_false_iff.mpr c3
  subst c3
  rw [if_neg nft] at H
  obtain rfl:=Option.some.inj H
  go_enter Try.func6,Try.ntmps6
  go_wp2_with (first|((with_reducible refine gate_callee (f:=12) rfl ?_);refine gl (some 7) Try.func12 #[.slice A0 l0.length c0] ?_;(with_reducible refine (spec_LogOk.calls k _ _ l0 false _ ?side1 ?side2 A2.out).mono ?_);(case side1=>repeat (first|exact HR0.out|(with_reducible refine Kd.C_alloc ?_ _)|(with_reducible refine Kd.C_drewN ?_ _)|(with_reducible refine Kd.C_drew ?_)));(case side2=>exact HC0.out);rintro e w43 ⟨rfl,hb⟩;refine ⟨_,rfl,?_⟩;replace HB:=Aside0.mk (below_step bl hb);(try clear hb);(try clear hb2);(try clear hk);(try clear hi)))
  go_ret
  exact ⟨er,bl⟩

/-! ### laws_toEvent: function 15 -/
def laws_toEvent.f (a0_0:Int) (a0_1:Int) (a0_2:Int):Option (Int × Int × Int):=some (a0_0,a0_1,a0_2)
set_option maxHeartbeats 8000000 in
set_option maxRecDepth 100000 in
theorem laws_toEvent.calls (a0_0:Int) (a0_1:Int) (a0_2:Int) (r1:Int) (r2:Int) (r3:Int) (w:World) (h:laws_toEvent.f a0_0 a0_1 a0_2=some (r1,r2,r3)) :
  Calls Try.prog 15 #[.agg #[.int .i64 a0_0,.int .i64 a0_1,.int .i64 a0_2]] w fun e w'=>e = .returned (.agg #[.int .i64 r1,.int .i64 r2,.int .i64 r3])∧Below w.heap.size w w':=by
 have hu35:=Try.underlying35
 have hu30:=Try.underlying30
 have HB:=Aside0.mk (Below.refl w.heap.size w)
 have H:(some (a0_0,a0_1,a0_2))=some (r1,r2,r3):=h
 clear h
 simp only [Option.some.injEq,Prod.mk.injEq] at H
 obtain ⟨rfl,rfl,rfl⟩:=H
 go_enter Try.func15,Try.ntmps15
 go_wp2_with (first|((with_reducible refine gate_dst (N:=1) rfl ?_);refine bx 1 #[.int .i64 a0_0,.int .i64 a0_1,.int .i64 a0_2] 35 ?_;intro gb124 hg w2 hbox hb;have BK124:=Aside0.mk (hbox);have GW124:=Aside0.mk (bz hg:w.heap.size≤gb124);have GE124:=GW124;replace HB:=Aside0.mk (below_step bl hb);clear hb hbox hg)|((with_reducible refine gate_dst (N:=2) rfl ?_);refine bx 2 #[.int .i64 0,.int .i64 0,.int .i64 0] 30 ?_;intro gb125 hg w3 hbox hb;have BK125:=Aside0.mk (hbox);have GW125:=Aside0.mk (bz hg:w.heap.size≤gb125);have GE125:=GW125;replace HB:=Aside0.mk (below_step bl hb);have NB124_125:=Aside0.mk (nl hg BK124:gb124≠gb125);have NB125_124:=Aside0.mk (nr hg BK124:gb125≠gb124);replace BK124:=Aside0.mk (blk_below (bk BK124) hb);clear hb hbox hg)|((with_reducible refine gate_dst (N:=3) rfl ?_);refine bx 3 #[.int .i64 0,.int .i64 0,.int .i64 0] 30 ?_;intro gb126 hg w4 hbox hb;have BK126:=Aside0.mk (hbox);have GW126:=Aside0.mk (bz hg:w.heap.size≤gb126);have GE126:=GW126;replace HB:=Aside0.mk (below_step bl hb);have NB124_126:=Aside0.mk (nl hg BK124:gb124≠gb126);have NB126_124:=Aside0.mk (nr hg BK124:gb126≠gb124);replace BK124:=Aside0.mk (blk_below (bk BK124) hb);have NB125_126:=Aside0.mk (nl hg BK125:gb125≠gb126);have NB126_125:=Aside0.mk (nr hg BK125:gb126≠gb125);replace BK125:=Aside0.mk (blk_below (bk BK125) hb);clear hb hbox hg;have hnb5:=NB124_125.out;have hnc5:=NB125_124.out;have hnb6:=NB124_126.out;have hnc6:=NB126_124.out;obtain ⟨hcz7_0,hcz7_1,hcz7_2,hfz7_0,hfz7_1,hfz7_2⟩:=ck3 BK124.out;have hnb8:=NB126_125.out;have hnc8:=NB125_126.out;obtain ⟨hcz9_0,hcz9_1,hcz9_2,hfz9_0,hfz9_1,hfz9_2⟩:=ck3 BK126.out;obtain ⟨hcz10_0,hcz10_1,hcz10_2,hfz10_0,hfz10_1,hfz10_2⟩:=ck3 BK125.out))
 refine bodyPost_ret (results_cell_row rfl _ _ gb125 30 #[.int .i64 a0_0,.int .i64 a0_1,.int .i64 a0_2] (0,0) _ rfl (by (with_reducible repeat (first|refine blk_drewN ?_ _|refine blk_drew ?_|refine blk_alloc ?_ _));refine blk_put (cs:=#[.int .i64 a0_0,.int .i64 a0_1,.int .i64 0]) ?_ 2 _ rfl;(with_reducible repeat (first|refine blk_drewN ?_ _|refine blk_drew ?_|refine blk_alloc ?_ _));refine blk_put (cs:=#[.int .i64 a0_0,.int .i64 0,.int .i64 0]) ?_ 1 _ rfl;(with_reducible repeat (first|refine blk_drewN ?_ _|refine blk_drew ?_|refine blk_alloc ?_ _));refine blk_put (cs:=#[.int .i64 0,.int .i64 0,.int .i64 0]) ?_ 0 _ rfl;(with_reducible repeat (first|refine blk_drewN ?_ _|refine blk_drew ?_|refine blk_alloc ?_ _));refine blk_far ?_ NB125_126.out _;(with_reducible repeat (first|refine blk_drewN ?_ _|refine blk_drew ?_|refine blk_alloc ?_ _));refine blk_far ?_ NB125_126.out _;(with_reducible repeat (first|refine blk_drewN ?_ _|refine blk_drew ?_|refine blk_alloc ?_ _));refine blk_far ?_ NB125_126.out _;(with_reducible repeat (first|refine blk_drewN ?_ _|refine blk_drew ?_|refine blk_alloc ?_ _));exact BK125.out) Try.underlying30 rfl (by kernel_rfl)) rfl ?_
 exact ⟨er,bl⟩

/-! ### laws_toEventS: function 7 -/
def laws_toEventS.l0:Nat→List (S35)→List (S30)→Int→Option ((List (S30)))
 | 0,_,_,_=>none
 | k + 1,x0,x3,x4=>if x4 < (x0.length:Int) then (if 0≤x4 then ((laws_toEvent.f ((rd_T35 x0 x4).f0) ((rd_T35 x0 x4).f1) ((rd_T35 x0 x4).f2)).bind fun bt131=>(if x4 < (x3.length:Int) then (laws_toEventS.l0 k x0 (x3.set (x4:Int).toNat (⟨bt131.1,bt131.2.1,bt131.2.2⟩:S30)) (wrap64 (x4 + 1))) else (none))) else (none)) else (some x3)
def laws_toEventS.f (k:Nat) (l0:List (S35)):Option ((List (S30))):=if 0≤(l0.length:Int) then (if ((l0.length:Int):Int).toNat≤11728124029610 then (laws_toEventS.l0 k l0 (List.replicate ((l0.length:Int):Int).toNat z30) 0) else (none)) else (none)
theorem laws_toEventS.mono_l:∀ k,(∀ y0 y1 y2,LeO (laws_toEventS.l0 k y0 y1 y2) (laws_toEventS.l0 (k + 1) y0 y1 y2))
 | 0=>fun _ _ _ r h=>by simp [laws_toEventS.l0] at h
 | k + 1=>by
  have ih0:=laws_toEventS.mono_l k
  ·intro y0 y1 y2
   unfold laws_toEventS.l0
   repeat' first
   | (with_reducible exact ih0 _ _ _)
   | (with_reducible exact LeO.refl _)
   | (with_reducible exact LeO.none _)
   | (with_reducible refine LeO.ite ?_ ?_)
   | (with_reducible refine LeO.bind ?_ (fun _=>?_))
   | exact ih0 _ _ _
   | exact LeO.none _
   | refine LeO.ite ?_ ?_
   | refine LeO.bind ?_ (fun _=>?_)
theorem laws_toEventS.mono:∀ a0 k,LeO (laws_toEventS.f k a0) (laws_toEventS.f (k + 1) a0):=by
 intro a0 k
 have ih0:=laws_toEventS.mono_l k
 unfold laws_toEventS.f
 repeat' first
   | (with_reducible exact ih0 _ _ _)
   | (with_reducible exact LeO.refl _)
   | (with_reducible exact LeO.none _)
   | (with_reducible refine LeO.ite ?_ ?_)
   | (with_reducible refine LeO.bind ?_ (fun _=>?_))
   | exact ih0 _ _ _
   | exact LeO.none _
   | refine LeO.ite ?_ ?_
   | refine LeO.bind ?_ (fun _=>?_)
set_option maxHeartbeats 8000000 in
set_option maxRecDepth 100000 in
theorem laws_toEventS.calls (k:Nat) (A0:Option Addr) (c0:Nat) (l0:List (S35)) (r:List (S30)) (w:World) (hr0:Kd.C k35 w A0 l0.length l0) (hc0:l0.length≤c0) (h:laws_toEventS.f k l0=some r) :
  Calls Try.prog 7 #[.slice A0 l0.length c0] w fun e w'=>∃ v0_:Value,e = .returned (v0_)∧Kd.R k30 30 w' w.heap.size (fun _=>True) v0_ r∧Below w.heap.size w w':=by
 have hu35:=Try.underlying35
 have hu30:=Try.underlying30
 have HR0:=Aside0.mk hr0
 have HC0:=Aside0.mk hc0
 clear hr0 hc0
 have HB:=Aside0.mk (Below.refl w.heap.size w)
 have H:(if 0≤(l0.length:Int) then (if ((l0.length:Int):Int).toNat≤11728124029610 then (laws_toEventS.l0 k l0 (List.replicate ((l0.length:Int):Int).toNat z30) 0) else (none)) else (none))=some r:=h
 clear h
 by_cases c2:0≤(l0.length:Int)
 ·rw [if_pos c2] at H
  have c2b0:=eq_true c2
  have c2b1:decide (0≤(l0.length:Int))=true:=decide_eq_true c2
  clear c2
  by_cases c3:((l0.length:Int):Int).toNat≤11728124029610
  case neg =>
   rw [if_neg c3] at H
   exact absurd H (by simp)
  rw [if_pos c3] at H
  have c3b0:=eq_true c3
  have c3b1:decide (((l0.length:Int):Int).toNat≤11728124029610)=true:=decide_eq_true c3
  clear c3
  obtain ⟨y127,hy127⟩:∃ y_:List (S30),y_=(List.replicate ((l0.length:Int):Int).toNat z30):=⟨_,rfl⟩
  replace H:(laws_toEventS.l0 k l0 y127 0)=some r:=by first|(rw [hy127];with_reducible exact H)|(have H2_:=(Option.bind_some _ _).symm.trans H;rw [hy127];with_reducible exact H2_)|(have H2_:=(Option.bind_some _ _).symm.trans H;with_reducible exact H2_)|with_reducible exact H|(rw [hy127];exact H)|exact H
  have Ny127:=Aside0.mk hy127
  clear hy127
  have H':=Aside0.mk H
  clear H
  go_enter Try.func7,Try.ntmps7
  go_wp2_with (first|((with_reducible refine gate_dst (N:=7) rfl ?_);refine Kd.R_make k30 _ 30 rfl (N:=7) rfl 25 _ _ rfl (l0.length:Int) rfl rfl Try.underlying25 (.agg #[(.int .i64 0),(.int .i64 0),(.int .i64 0)]) 24 info30 rfl (by decide) (by omega) z30 (ok:=fun _=>True) (okp:=fun _=>True) (k30_mkM _ _ _ z30 ) (fun _ hk=>hk) trivial od (Nat.le_trans (Nat.mul_le_mul_right _ (od:(l0.length:Int).toNat≤11728124029610)) (by omega)) (Below.refl _ _) (Nat.le_refl _) ?_;intro v128 w4 ho5 hb hg_ hnew_;clear hg_ hnew_;(first|rw [← Ny127.out] at ho5|(simp only [Int.reduceToNat] at ho5;rw [← Ny127.out] at ho5));have HO129:=Aside0.mk (Kd.R_lower ho5 (below_size bl));replace HB:=Aside0.mk (below_step bl hb);clear hb ho5))
  go_loopg [4] k (fun kq v4 w'=>∃ (x3_1:List (S30)) (x4_1:Int),v4 = .int .i64 x4_1∧Aside0 (laws_toEventS.l0 kq l0 x3_1 x4_1=some r)∧Aside0 (kq≤k)∧Aside0 (Kd.R k30 30 w' w.heap.size (fun _=>True) v128 x3_1)∧Aside0 (Below w.heap.size w w'))
  case atStart=>exact ⟨(y127),(0),(by first|rfl|(simp;done)|(simp [*];done)),H',⟨Nat.le_refl _⟩,⟨kr HO129⟩,⟨bl⟩⟩
  case round =>
   clear H'
   try clear c2
   try clear c2b0
   try clear c2b1
   try clear p2
   try clear c3
   try clear c3b0
   try clear c3b1
   obtain ⟨x3_1,x4_1,rfl,HA,HK1,HO_3,HB⟩:=hrel
   cases gk with
   | zero=>exact absurd HA.out (by simp [laws_toEventS.l0])
   | succ k1 =>
    have H:=HA.out
    clear HA
    simp only [laws_toEventS.l0] at H
    by_cases c6:x4_1 < (l0.length:Int)
    ·rw [if_pos c6] at H
     have c6b0:decide (x4_1 < (l0.length:Int))=true:=decide_eq_true c6
     clear c6
     by_cases c7:0≤x4_1
     case neg =>
      rw [if_neg c7] at H
      exact absurd H (by simp)
     rw [if_pos c7] at H
     have c7b0:decide (0≤x4_1)=true:=decide_eq_true c7
     clear c7
     replace H:=Option.bind_eq_some_iff.mp H
     obtain ⟨⟨t131,t132,t133⟩,A80,H⟩:=H
     replace H:(if x4_1 < (x3_1.length:Int) then (laws_toEventS.l0 k1 l0 (x3_1.set (x4_1:Int).toNat (⟨t131,t132,t133⟩:S30)) (wrap64 (x4_1 + 1))) else (none))=some r:=H
     have A8:=Aside0.mk A80
     clear A80
     by_cases c9:x4_1 < (x3_1.length:Int)
     case neg =>
      rw [if_neg c9] at H
      exact absurd H (by simp)
     rw [if_pos c9] at H
     have c9b0:decide (x4_1 < (x3_1.length:Int))=true:=decide_eq_true c9
     clear c9
     obtain ⟨y134,hy134⟩:∃ y_:List (S30),y_=(x3_1.set (x4_1:Int).toNat (⟨t131,t132,t133⟩:S30)):=⟨_,rfl⟩
     replace H:(laws_toEventS.l0 k1 l0 y134 (wrap64 (x4_1 + 1)))=some r:=by first|(rw [hy134];with_reducible exact H)|(have H2_:=(Option.bind_some _ _).symm.trans H;rw [hy134];with_reducible exact H2_)|(have H2_:=(Option.bind_some _ _).symm.trans H;with_reducible exact H2_)|with_reducible exact H|(rw [hy134];exact H)|exact H
     have Ny134:=Aside0.mk hy134
     clear hy134
     have H':=Aside0.mk H
     clear H
     have p130:0≤(x4_1:Int):=od
     have q130:x4_1 < (l0.length:Int):=od
     obtain ⟨ad130,e130,hx130_0,hx130_1,hx130_2⟩:=at_T35 HR0.out x4_1 p130 q130
     cases e130
     replace hx130_0:=cl HB hx130_0
     replace hx130_1:=cl HB hx130_1
     replace hx130_2:=cl HB hx130_2
     replace p130:=eq_true p130
     replace q130:=eq_true q130
     go_wp2_with (first|((with_reducible refine gate_callee (f:=15) rfl ?_);refine gl (some 20) Try.func15 #[.agg #[.int .i64 ((rd_T35 l0 x4_1).f0),.int .i64 ((rd_T35 l0 x4_1).f1),.int .i64 ((rd_T35 l0 x4_1).f2)]] ?_;(with_reducible refine (laws_toEvent.calls ((rd_T35 l0 x4_1).f0) ((rd_T35 l0 x4_1).f1) ((rd_T35 l0 x4_1).f2) t131 t132 t133 _ A8.out).mono ?_);rintro e w11 ⟨rfl,hb⟩;refine ⟨_,rfl,?_⟩;replace HO_3:=Aside0.mk (Kd.R_below (kr HO_3) hb);replace HB:=Aside0.mk (below_step bl hb);(try clear hb);(try clear hb2);(try clear hk);(try clear hi);have p10:0≤(x4_1:Int):=od;have q10:(x4_1:Int) < ((x3_1.length:Int):Int):=od;obtain ⟨go10,co10,eo10,gb10,gl10,cl10,HG10⟩:=Kd.R_form HO_3.out (by omega);(first|cases eo10|(injection eo10 with ea_ en_ ec_;(first|subst ea_|(injection ea_ with ea_;subst ea_));subst ec_;clear en_));have GB10:=Aside0.mk gb10;have GG10:=Aside0.mk HG10;clear gb10 gl10 HG10;obtain ⟨ce10,hcl10,hM10,hcc10,hfr10⟩:=Kd.R_elem HO_3.out z30 (x4_1:Int) p10 q10;obtain rfl:=k30_openM hM10;have hx10_0:w11.cell? ⟨go10,(x4_1:Int).toNat * 3,none⟩=some (.int .i64 ((rd_T30 x3_1 x4_1).f0)):=hcc10 0 _ rfl;have hx10_1:w11.cell? ⟨go10,(x4_1:Int).toNat * 3 + 1,none⟩=some (.int .i64 ((rd_T30 x3_1 x4_1).f1)):=hcc10 1 _ rfl;have hx10_2:w11.cell? ⟨go10,(x4_1:Int).toNat * 3 + 2,none⟩=some (.int .i64 ((rd_T30 x3_1 x4_1).f2)):=hcc10 2 _ rfl;have hf10_0:w11.frozen? ⟨go10,(x4_1:Int).toNat * 3,none⟩=false:=hfr10 0;have hf10_1:w11.frozen? ⟨go10,(x4_1:Int).toNat * 3 + 1,none⟩=false:=hfr10 1;have hf10_2:w11.frozen? ⟨go10,(x4_1:Int).toNat * 3 + 2,none⟩=false:=hfr10 2;clear hcl10 hcc10 hfr10 hM10;replace p10:=eq_true p10;replace q10:=eq_true q10;have HX12:=Aside0.mk (show Kd.R k30 30 w11 w.heap.size (fun _=>True) (.slice (some ⟨go10,0,none⟩) x3_1.length co10) x3_1 from (kr HO_3));obtain ⟨ce12,hcl12,hM12,hcc12,hfr12⟩:=Kd.R_elem HX12.out z30 (x4_1:Int) od (by have h_:(x4_1:Int) < ((x3_1.length:Int):Int):=od;first|exact h_|(have e_:=(Kd.R_reads' HO_3.out).1;omega)|simpa using h_);obtain rfl:=k30_openM hM12;have HP12:=Kd.R_seg HX12.out (x4_1:Int) od (by have h_:(x4_1:Int) < ((x3_1.length:Int):Int):=od;first|exact h_|(have e_:=(Kd.R_reads' HO_3.out).1;omega)|simpa using h_) (seg:=[.int .i64 t131,.int .i64 t132,.int .i64 t133]) (j:=0) hcl12 hcc12 (show 3≤3 from by decide) (x':=(⟨t131,t132,t133⟩:S30)) (k30_mkM _ _ _ (⟨t131,t132,t133⟩:S30) ) (fun _ hk=>hk);have hx12_0:=hcc12 0 _ rfl;(try simp only [show (k30).sz=3 from rfl,Nat.mul_one,Nat.add_zero] at hx12_0);have hf12_0:=hfr12 0;(try simp only [show (k30).sz=3 from rfl,Nat.mul_one,Nat.add_zero] at hf12_0);have hx12_1:=hcc12 1 _ rfl;(try simp only [show (k30).sz=3 from rfl,Nat.mul_one,Nat.add_zero] at hx12_1);have hf12_1:=hfr12 1;(try simp only [show (k30).sz=3 from rfl,Nat.mul_one,Nat.add_zero] at hf12_1);have hx12_2:=hcc12 2 _ rfl;(try simp only [show (k30).sz=3 from rfl,Nat.mul_one,Nat.add_zero] at hx12_2);have hf12_2:=hfr12 2;(try simp only [show (k30).sz=3 from rfl,Nat.mul_one,Nat.add_zero] at hf12_2);clear hcl12 hcc12 hfr12 hM12)|((with_reducible refine gate_store (t:=30) (p:=21) rfl ?_);refine sx 30 21 (((w11.setCell ⟨go10,(x4_1:Int).toNat * 3,none⟩ (.int .i64 t131)).setCell ⟨go10,(x4_1:Int).toNat * 3 + 1,none⟩ (.int .i64 t132)).setCell ⟨go10,(x4_1:Int).toNat * 3 + 2,none⟩ (.int .i64 t133)) ?_;intro w13 hw;have hg:w11.grownBy w13 (some go10):=(by rw [hw];exact HP12.2);have hp_:Kd.R k30 30 w13 w.heap.size (fun _=>True) (.slice (some ⟨go10,0,none⟩) x3_1.length co10) y134:=(by rw [hw,Ny134.out];exact HP12.1);clear HP12;replace HO_3:=Aside0.mk (hp_);replace HB:=Aside0.mk ((by rw [hw];exact below_set (below_set (below_set (HB.out) GB10.out) GB10.out) GB10.out:Below w.heap.size w w13));clear hg hw hp_))
     go_roundg k1
     case measure=>have:=HK1.out;omega
     case rel=>exact ⟨(y134),(wrap64 (x4_1 + 1)),(by first|rfl|(simp;done)|(simp [*];done)),H',⟨by have:=HK1.out;omega⟩,⟨kr HO_3⟩,⟨bl⟩⟩
    ·rw [if_neg c6] at H
     have c6b0:decide (x4_1 < (l0.length:Int))=false:=decide_eq_false c6
     clear c6
     obtain rfl:=Option.some.inj H
     go_wp2
     go_ret
     exact ⟨_,er,kr HO_3,bl⟩
 ·rw [if_neg c2] at H
  exact absurd H (by simp)

/-! ### impl_in: function 22 -/
def impl_in.f (a0:Int) (a1:Int) (a2:Int):Option (Bool):=if a0 ≥ a1 then (some (decide (a0≤a2))) else (some false)
set_option maxHeartbeats 8000000 in
set_option maxRecDepth 100000 in
theorem impl_in.calls (a0:Int) (a1:Int) (a2:Int) (r:Bool) (w:World) (h:impl_in.f a0 a1 a2=some r) :
  Calls Try.prog 22 #[.int .i64 a0,.int .i64 a1,.int .i64 a2] w fun e w'=>e = .returned (.bool r)∧Drawn0 w w':=by
 have H:(if a0 ≥ a1 then (some (decide (a0≤a2))) else (some false))=some r:=h
 clear h
 by_cases c4:a0 ≥ a1
 ·rw [if_pos c4] at H
  have c4b0:decide (a1≤a0)=true:=decide_eq_true c4
  clear c4
  obtain rfl:=Option.some.inj H
  go_enter Try.func22,Try.ntmps22
  go_wp2
  go_ret
  exact ⟨by first|rfl|(simp;done)|(simp [*];done),by repeat (first|exact Drawn0.refl _|apply Drawn0.step)⟩
 ·rw [if_neg c4] at H
  have c4b0:decide (a1≤a0)=false:=decide_eq_false c4
  clear c4
  obtain rfl:=Option.some.inj H
  go_enter Try.func22,Try.ntmps22
  go_wp2
  go_ret
  exact ⟨by first|rfl|(simp;done)|(simp [*];done),by repeat (first|exact Drawn0.refl _|apply Drawn0.step)⟩

/-! ### impl_hasConn: function 17 -/
def impl_hasConn.f (a0:Int):Option (Bool):=(impl_in.f a0 0 6).bind fun t135=>(if t135=true then (some true) else (some (a0 == 10)))
set_option maxHeartbeats 8000000 in
set_option maxRecDepth 100000 in
theorem impl_hasConn.calls (a0:Int) (r:Bool) (w:World) (h:impl_hasConn.f a0=some r) :
  Calls Try.prog 17 #[.int .i64 a0] w fun e w'=>e = .returned (.bool r)∧Drawn0 w w':=by
 have H:((impl_in.f a0 0 6).bind fun t135=>(if t135=true then (some true) else (some (a0 == 10))))=some r:=h
 clear h
 replace H:=Option.bind_eq_some_iff.mp H
 obtain ⟨t135,A20,H⟩:=H
 have A2:=Aside0.mk A20
 clear A20
 by_cases c3:t135=true
 ·subst c3
  rw [if_pos rfl] at H
  obtain rfl:=Option.some.inj H
  go_enter Try.func17,Try.ntmps17
  go_wp2_with (first|((with_reducible refine gate_callee (f:=22) rfl ?_);refine gl (some 4) Try.func22 #[.int .i64 a0,.int .i64 0,.int .i64 6] ?_;(with_reducible refine (impl_in.calls a0 0 6 true _ A2.out).mono ?_);rintro e w' ⟨rfl,⟨nd,rfl⟩⟩;refine ⟨_,rfl,?_⟩))
  go_ret
  exact ⟨by first|rfl|(simp;done)|(simp [*];done),by repeat (first|exact Drawn0.refl _|apply Drawn0.step)⟩
 ·replace c3:=Bool.eq_false_iff.mpr c3
  subst c3
  rw [if_neg nft] at H
  obtain rfl:=Option.some.inj H
  go_enter Try.func17,Try.ntmps17
  go_wp2_with (first|((with_reducible refine gate_callee (f:=22) rfl ?_);refine gl (some 4) Try.func22 #[.int .i64 a0,.int .i64 0,.int .i64 6] ?_;(with_reducible refine (impl_in.calls a0 0 6 false _ A2.out).mono ?_);rintro e w' ⟨rfl,⟨nd,rfl⟩⟩;refine ⟨_,rfl,?_⟩))
  go_ret
  exact ⟨by first|rfl|(simp;done)|(simp [*];done),by repeat (first|exact Drawn0.refl _|apply Drawn0.step)⟩

/-! ### slices_Index_int_int: function 24 -/
def slices_Index_int_int.l0:Nat→List Int→Int→Int→Int→Option (Int)
 | 0,_,_,_,_=>none
 | k + 1,x0,x1,x7,x8=>if x8 < x7 then (if 0≤x8 then (if x8 < (x0.length:Int) then (if x1=(rd x0 x8) then (some x8) else (slices_Index_int_int.l0 k x0 x1 x7 (wrap64 (x8 + 1)))) else (none)) else (none)) else (some (-1))
def slices_Index_int_int.f (k:Nat) (l0:List Int) (a1:Int):Option (Int):=slices_Index_int_int.l0 k l0 a1 (l0.length:Int) 0
theorem slices_Index_int_int.mono_l:∀ k,(∀ y0 y1 y2 y3,LeO (slices_Index_int_int.l0 k y0 y1 y2 y3) (slices_Index_int_int.l0 (k + 1) y0 y1 y2 y3))
 | 0=>fun _ _ _ _ r h=>by simp [slices_Index_int_int.l0] at h
 | k + 1=>by
  have ih0:=slices_Index_int_int.mono_l k
  ·intro y0 y1 y2 y3
   unfold slices_Index_int_int.l0
   repeat' first
   | (with_reducible exact ih0 _ _ _ _)
   | (with_reducible exact LeO.refl _)
   | (with_reducible exact LeO.none _)
   | (with_reducible refine LeO.ite ?_ ?_)
   | (with_reducible refine LeO.bind ?_ (fun _=>?_))
   | exact ih0 _ _ _ _
   | exact LeO.none _
   | refine LeO.ite ?_ ?_
   | refine LeO.bind ?_ (fun _=>?_)
theorem slices_Index_int_int.mono:∀ a0 a1 k,LeO (slices_Index_int_int.f k a0 a1) (slices_Index_int_int.f (k + 1) a0 a1):=by
 intro a0 a1 k
 have ih0:=slices_Index_int_int.mono_l k
 unfold slices_Index_int_int.f
 repeat' first
   | (with_reducible exact ih0 _ _ _ _)
   | (with_reducible exact LeO.refl _)
   | (with_reducible exact LeO.none _)
   | (with_reducible refine LeO.ite ?_ ?_)
   | (with_reducible refine LeO.bind ?_ (fun _=>?_))
   | exact ih0 _ _ _ _
   | exact LeO.none _
   | refine LeO.ite ?_ ?_
   | refine LeO.bind ?_ (fun _=>?_)
set_option maxHeartbeats 8000000 in
set_option maxRecDepth 100000 in
theorem slices_Index_int_int.calls (k:Nat) (A0:Option Addr) (c0:Nat) (l0:List Int) (a1:Int) (r:Int) (w:World) (hr0:Kd.C (Kd.int .i64) w A0 l0.length l0) (hc0:l0.length≤c0) (h:slices_Index_int_int.f k l0 a1=some r) :
  Calls Try.prog 24 #[.slice A0 l0.length c0,.int .i64 a1] w fun e w'=>e = .returned (.int .i64 r)∧Drawn0 w w':=by
 have HR0:=Aside0.mk hr0
 have HC0:=Aside0.mk hc0
 clear hr0 hc0
 have H:(slices_Index_int_int.l0 k l0 a1 (l0.length:Int) 0)=some r:=h
 clear h
 have H':=Aside0.mk H
 clear H
 go_enter Try.func24,Try.ntmps24
 go_wp2
 go_loopg [8] k (fun kq v8 w'=>∃ (x8_1:Int),v8 = .int .i64 x8_1∧Aside0 (slices_Index_int_int.l0 kq l0 a1 (l0.length:Int) x8_1=some r)∧Aside0 (kq≤k)∧Drawn0 w w')
 case atStart=>exact ⟨(0),(by first|rfl|(simp;done)|(simp [*];done)),H',⟨Nat.le_refl _⟩,by repeat (first|exact Drawn0.refl _|apply Drawn0.step)⟩
 case round =>
  clear H'
  try clear c2
  try clear p2
  obtain ⟨x8_1,rfl,HA,HK1,⟨m1,rfl⟩⟩:=hrel
  cases gk with
  | zero=>exact absurd HA.out (by simp [slices_Index_int_int.l0])
  | succ k1 =>
   have H:=HA.out
   clear HA
   simp only [slices_Index_int_int.l0] at H
   by_cases c3:x8_1 < (l0.length:Int)
   ·rw [if_pos c3] at H
    have c3b0:decide (x8_1 < (l0.length:Int))=true:=decide_eq_true c3
    clear c3
    by_cases c4:0≤x8_1
    case neg =>
     rw [if_neg c4] at H
     exact absurd H (by simp)
    rw [if_pos c4] at H
    have c4b0:decide (0≤x8_1)=true:=decide_eq_true c4
    clear c4
    by_cases c5:x8_1 < (l0.length:Int)
    case neg =>
     rw [if_neg c5] at H
     exact absurd H (by simp)
    rw [if_pos c5] at H
    have c5b0:decide (x8_1 < (l0.length:Int))=true:=decide_eq_true c5
    clear c5
    by_cases c6:a1=(rd l0 x8_1)
    ·rw [if_pos c6] at H
     have c6b0:(a1 == (rd l0 x8_1))=true:=beq_iff_eq.mpr c6
     have c6b1:(a1 != (rd l0 x8_1))=false:=bne_eq_false_iff_eq.mpr c6
     clear c6
     obtain rfl:=Option.some.inj H
     have p136:0≤(x8_1:Int):=od
     have q136:x8_1 < (l0.length:Int):=od
     obtain ⟨ad136,e136,hx136_0⟩:=Kd.at_int HR0.out x8_1 p136 q136
     cases e136
     replace p136:=eq_true p136
     replace q136:=eq_true q136
     go_wp2
     go_ret
     exact ⟨by first|rfl|(simp;done)|(simp [*];done),by repeat (first|exact Drawn0.refl _|apply Drawn0.step)⟩
    ·rw [if_neg c6] at H
     have c6b0:(a1 == (rd l0 x8_1))=false:=beq_eq_false_iff_ne.mpr c6
     have c6b1:(a1 != (rd l0 x8_1))=true:=bne_iff_ne.mpr c6
     have H':=Aside0.mk H
     clear H
     have p136:0≤(x8_1:Int):=od
     have q136:x8_1 < (l0.length:Int):=od
     obtain ⟨ad136,e136,hx136_0⟩:=Kd.at_int HR0.out x8_1 p136 q136
     cases e136
     replace p136:=eq_true p136
     replace q136:=eq_true q136
     go_wp2
     go_roundg k1
     case measure=>have:=HK1.out;omega
     case rel=>exact ⟨(wrap64 (x8_1 + 1)),(by first|rfl|(simp;done)|(simp [*];done)),H',⟨by have:=HK1.out;omega⟩,by repeat (first|exact Drawn0.refl _|apply Drawn0.step)⟩
   ·rw [if_neg c3] at H
    have c3b0:decide (x8_1 < (l0.length:Int))=false:=decide_eq_false c3
    clear c3
    obtain rfl:=Option.some.inj H
    go_wp2
    go_ret
    exact ⟨by first|rfl|(simp;done)|(simp [*];done),by repeat (first|exact Drawn0.refl _|apply Drawn0.step)⟩

/-! ### slices_Contains_int_int: function 23 -/
def slices_Contains_int_int.f (k:Nat) (l0:List Int) (a1:Int):Option (Bool):=(slices_Index_int_int.f k l0 a1).bind fun t137=>(some (decide (t137 ≥ 0)))
theorem slices_Contains_int_int.mono:∀ a0 a1 k,LeO (slices_Contains_int_int.f k a0 a1) (slices_Contains_int_int.f (k + 1) a0 a1):=by
 intro a0 a1 k
 unfold slices_Contains_int_int.f
 repeat' first
   | (with_reducible exact slices_Index_int_int.mono _ _ _)
   | (with_reducible exact LeO.refl _)
   | (with_reducible exact LeO.none _)
   | (with_reducible refine LeO.ite ?_ ?_)
   | (with_reducible refine LeO.bind ?_ (fun _=>?_))
   | exact slices_Index_int_int.mono _ _ _
   | exact LeO.none _
   | refine LeO.ite ?_ ?_
   | refine LeO.bind ?_ (fun _=>?_)
set_option maxHeartbeats 8000000 in
set_option maxRecDepth 100000 in
theorem slices_Contains_int_int.calls (k:Nat) (A0:Option Addr) (c0:Nat) (l0:List Int) (a1:Int) (r:Bool) (w:World) (hr0:Kd.C (Kd.int .i64) w A0 l0.length l0) (hc0:l0.length≤c0) (h:slices_Contains_int_int.f k l0 a1=some r) :
  Calls Try.prog 23 #[.slice A0 l0.length c0,.int .i64 a1] w fun e w'=>e = .returned (.bool r)∧Drawn0 w w':=by
 have HR0:=Aside0.mk hr0
 have HC0:=Aside0.mk hc0
 clear hr0 hc0
 have H:((slices_Index_int_int.f k l0 a1).bind fun t137=>(some (decide (t137 ≥ 0))))=some r:=h
 clear h
 replace H:=Option.bind_eq_some_iff.mp H
 obtain ⟨t137,A30,H⟩:=H
 have A3:=Aside0.mk A30
 clear A30
 obtain rfl:=Option.some.inj H
 go_enter Try.func23,Try.ntmps23
 go_wp2_with (first|((with_reducible refine gate_callee (f:=24) rfl ?_);refine gl (some 7) Try.func24 #[.slice A0 l0.length c0,.int .i64 a1] ?_;(with_reducible refine (slices_Index_int_int.calls k _ _ l0 a1 t137 _ ?side1 ?side2 A3.out).mono ?_);(case side1=>repeat (first|exact HR0.out|(with_reducible refine Kd.C_alloc ?_ _)|(with_reducible refine Kd.C_drewN ?_ _)|(with_reducible refine Kd.C_drew ?_)));(case side2=>exact HC0.out);rintro e w' ⟨rfl,⟨nd,rfl⟩⟩;refine ⟨_,rfl,?_⟩))
 go_ret
 exact ⟨by first|rfl|(simp;done)|(simp [*];done),by repeat (first|exact Drawn0.refl _|apply Drawn0.step)⟩

/-! ### impl_hasTicket: function 21 -/
def impl_hasTicket.f (k:Nat) (a0:Int):Option (Bool):=(slices_Contains_int_int.f k (([3,4,7,8,9,10]:List Int)) a0).bind fun t141=>(some t141)
theorem impl_hasTicket.mono:∀ a0 k,LeO (impl_hasTicket.f k a0) (impl_hasTicket.f (k + 1) a0):=by
 intro a0 k
 unfold impl_hasTicket.f
 repeat' first
   | (with_reducible exact slices_Contains_int_int.mono _ _ _)
   | (with_reducible exact LeO.refl _)
   | (with_reducible exact LeO.none _)
   | (with_reducible refine LeO.ite ?_ ?_)
   | (with_reducible refine LeO.bind ?_ (fun _=>?_))
   | exact slices_Contains_int_int.mono _ _ _
   | exact LeO.none _
   | refine LeO.ite ?_ ?_
   | refine LeO.bind ?_ (fun _=>?_)
set_option maxHeartbeats 8000000 in
set_option maxRecDepth 100000 in
theorem impl_hasTicket.calls (k:Nat) (a0:Int) (r:Bool) (w:World) (h:impl_hasTicket.f k a0=some r) :
  Calls Try.prog 21 #[.int .i64 a0] w fun e w'=>e = .returned (.bool r)∧Below w.heap.size w w':=by
 have HB:=Aside0.mk (Below.refl w.heap.size w)
 have H:((slices_Contains_int_int.f k (([3,4,7,8,9,10]:List Int)) a0).bind fun t141=>(some t141))=some r:=h
 clear h
 obtain ⟨y138,hy138⟩:∃ y_:List Int,y_=(([3,4,7,8,9,10]:List Int)):=⟨_,rfl⟩
 replace H:((slices_Contains_int_int.f k y138 a0).bind fun t141=>(some t141))=some r:=by first|(rw [hy138];with_reducible exact H)|(have H2_:=(Option.bind_some _ _).symm.trans H;rw [hy138];with_reducible exact H2_)|(have H2_:=(Option.bind_some _ _).symm.trans H;with_reducible exact H2_)|with_reducible exact H|(rw [hy138];exact H)|exact H
 have Ny138:=Aside0.mk hy138
 clear hy138
 replace H:=Option.bind_eq_some_iff.mp H
 obtain ⟨t141,A20,H⟩:=H
 have A2:=Aside0.mk A20
 clear A20
 obtain rfl:=Option.some.inj H
 go_enter Try.func21,Try.ntmps21
 go_wp2_with (first|((with_reducible refine gate_dst (N:=3) rfl ?_);refine Kd.R_lit (Kd.int .i64) _ 3 ?hg (N:=3) ?hd (xs:=([3,4,7,8,9,10]:List Int)) (inner:=[.int .i64 3,.int .i64 4,.int .i64 7,.int .i64 8,.int .i64 9,.int .i64 10]) (ok:=fun _=>True) (okp:=fun _=>True) ?hr ?hp (fun _ hk=>hk) trivial (Below.refl _ _) (Nat.le_refl _) (by simp) ?_;(case hd=>rfl);(case hg=>rfl);(case hr=>first|(go_simp;done)|(go_simp;rfl));(case hp=>exact (Reps.one (show Kd.M (Kd.int .i64) _ _ _ 3 [.int .i64 3] from rfl) (Reps.one (show Kd.M (Kd.int .i64) _ _ _ 4 [.int .i64 4] from rfl) (Reps.one (show Kd.M (Kd.int .i64) _ _ _ 7 [.int .i64 7] from rfl) (Reps.one (show Kd.M (Kd.int .i64) _ _ _ 8 [.int .i64 8] from rfl) (Reps.one (show Kd.M (Kd.int .i64) _ _ _ 9 [.int .i64 9] from rfl) (Reps.one (show Kd.M (Kd.int .i64) _ _ _ 10 [.int .i64 10] from rfl) (Reps.none _ _))))))));intro v139 w3 ho4 hb hg_ hnew_;clear hg_ hnew_;(first|rw [← Ny138.out] at ho4|(simp only [Int.reduceToNat] at ho4;rw [← Ny138.out] at ho4));have HO140:=Aside0.mk (Kd.R_lower ho4 (below_size bl));replace HB:=Aside0.mk (below_step bl hb);clear hb ho4;obtain ⟨Ao5,co5,eo5⟩:=Kd.R_slice HO140.out;subst eo5)|((with_reducible refine gate_callee (f:=23) rfl ?_);refine gl (some 5) Try.func23 #[.slice Ao5 y138.length co5,.int .i64 a0] ?_;(with_reducible refine (slices_Contains_int_int.calls k _ _ y138 a0 t141 _ ?side1 ?side2 A2.out).mono ?_);(case side1=>repeat (first|exact (Kd.R_reads' HO140.out).2.2|(with_reducible refine Kd.C_alloc ?_ _)|(with_reducible refine Kd.C_drewN ?_ _)|(with_reducible refine Kd.C_drew ?_)));(case side2=>exact (Kd.R_reads' HO140.out).2.1);rintro e w' ⟨rfl,⟨nd,rfl⟩⟩;refine ⟨_,rfl,?_⟩))
 go_ret
 exact ⟨er,bl⟩

end Go.Proofs.Ytciehpgbhfngiaa.PFnExactOneHolder
