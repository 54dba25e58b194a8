/- Contracts of functions of the given program: what each call answers. Written by a program of this session, out of the text of the functions. -/
import Derived.Test.YtdffkcbaijbhoaaPFnExactSchedulex0
import Derived.Test.YtdffkcbaijbhoaaPrs
namespace Go.Proofs.Ytdffkcbaijbhoaa.PFnExactSchedule
open Go.RowKit Go.Proofs.YtdffkcbaijbhoaaW.PrintWords Go.Proofs.YtdffkcbaijbhoaaW.PrintLast Go.Proofs.YtdffkcbaijbhoaaW.PrintMore Go.Proofs.Ytdffkcbaijbhoaa.Giv Go.Proofs.Ytdffkcbaijbhoaa.Prs
attribute [local go_sem] max2_int min2_int max_two min_two max_three min_three max_four min_four   -- for this text's walks alone
set_option linter.unusedVariables false
set_option linter.unusedSimpArgs false

/-! ### impl_Due_71: function 71: the first place that a test takes -/
set_option maxHeartbeats 8000000 in
set_option maxRecDepth 100000 in
theorem impl_Due_71.any (p:S56→Bool) (fn:Nat) (lb:Array Value) (A0:Option Addr) (c0:Nat) (l0:List S56) (w:World) (hr0:Kd.C k56 w A0 l0.length l0) (hc0:l0.length≤c0)
  (eg:∀ args w,(callFunc fn args).run Try.prog w = .ok (.enter fn args) w)
  (hp:∀ (W:World) (x:S56),Below w.heap.size w W→Calls Try.prog fn (#[.agg #[.int .i64 x.f0,.int .i64 x.f1,.int .i64 x.f2]] ++ lb) W fun e w'=>e = .returned (.bool (p x))∧Below W.heap.size W w') :
  Calls Try.prog 71 #[.slice A0 l0.length c0,.func (.func fn) #[] lb] w fun e w'=>e = .returned (.int .i64 (findI p l0 0))∧Below w.heap.size w w':=by
 have HR0:=Aside0.mk hr0
 have HC0:=Aside0.mk hc0
 have hlen:l0.length≤9223372036854775807:=hr0.2.1
 clear hr0 hc0
 obtain ⟨R,hR⟩:∃ R,R=findI p l0 0:=⟨_,rfl⟩
 rw [← hR]
 have HR':=Aside0.mk hR
 clear hR
 go_enter Try.func71,Try.ntmps71
 go_wp2
 go_loopg [5,8] l0.length (fun gg _ v8 w'=>∃ x8_1:Int,v8 = .int .i64 x8_1∧Aside0 (0≤x8_1∧x8_1≤l0.length∧l0.length - x8_1.toNat≤gg)∧Aside0 (R=findI p (l0.drop x8_1.toNat) x8_1)∧Aside0 (Below w.heap.size w w'))
 case atStart=>exact ⟨0,rfl,⟨by omega,by omega,by omega⟩,⟨HR'.out⟩,⟨Below.refl _ _⟩⟩
 case round =>
  clear HR'
  obtain ⟨x8_1,rfl,HG,HA,HB⟩:=hrel
  have HL:=Aside0.mk hlen
  clear hlen
  by_cases c3:x8_1 < (l0.length:Int)
  ·have c3b0:decide (x8_1 < (l0.length:Int))=true:=decide_eq_true c3
   have p124:0≤x8_1:=HG.out.1
   have HRr:=Aside0.mk (Kd.C_below HR0.out HB.out)
   have H:=HA.out
   have hlt:x8_1.toNat < l0.length:=by omega
   have hcons:l0.drop x8_1.toNat=l0[x8_1.toNat] :: l0.drop (x8_1.toNat + 1):=List.drop_eq_getElem_cons hlt
   rw [hcons] at H
   obtain ⟨ad,e,hx0,hx1,hx2⟩:=at_T56 HRr.out x8_1 p124 c3
   cases e
   have hrd:rd_T56 l0 x8_1=l0[x8_1.toNat]:=by unfold rd_T56;rw [List.getD_eq_getElem?_getD,List.getElem?_eq_getElem hlt];rfl
   rw [hrd] at hx0 hx1 hx2
   have hcall:=hp wr l0[x8_1.toNat] HB.out
   clear hcons hrd
   generalize l0[x8_1.toNat]=x at H hx0 hx1 hx2 hcall
   have H':=Aside0.mk H
   have hw:wrap64 (x8_1 + 1)=x8_1 + 1:=by have:=HL.out;unfold wrap64;omega
   have HW:=Aside0.mk hw
   have HX:=Aside0.mk hlt
   clear H hp HRr hw hlt HA
   replace p124:=eq_true p124
   replace c3:=eq_true c3
   cases hq:p x with
   | true =>
    rw [hq] at hcall
    have HQ:=Aside0.mk hq
    clear hq
    go_wp2_with fail
    refine hcall.mono ?_
    rintro e w' ⟨rfl,hb'⟩
    go_wp2
    go_ret
    exact ⟨by rw [H'.out,findI,if_pos HQ.out];rfl,below_step HB.out hb'⟩
   | false =>
    rw [hq] at hcall
    have HQ:=Aside0.mk hq
    clear hq
    go_wp2_with fail
    refine hcall.mono ?_
    rintro e w' ⟨rfl,hb'⟩
    go_wp2
    go_roundg (l0.length - (x8_1.toNat + 1))
    case measure=>have:=HG.out;have:=HX.out;omega
    case rel=>exact ⟨wrap64 (x8_1 + 1),rfl,⟨by have:=HG.out;have:=HX.out;rw [HW.out];omega⟩,⟨by rw [H'.out,findI,if_neg (by rw [HQ.out];decide),HW.out,show (x8_1 + 1).toNat=x8_1.toNat + 1 by have:=HG.out;omega]⟩,⟨below_step HB.out hb'⟩⟩
  ·have hd:decide (x8_1 < (l0.length:Int))=false:=decide_eq_false c3
   have H:=HA.out
   rw [List.drop_eq_nil_of_le (by omega)] at H
   have H':=Aside0.mk H
   clear H hp c3
   go_wp2
   go_ret
   exact ⟨by rw [H'.out];rfl,HB.out⟩

/-! ### impl_Heap_place: function 45 -/
theorem impl_Heap_place.test (b0:Int) (b1:Int) (b2:Int) (x:Int) (g:Nat) (w:World) (hc:w.cell? ⟨g,0,none⟩=some (.int .i64 x)) (hg:g < w.heap.size) :
  Calls Try.prog 72 #[.agg #[.int .i64 b0,.int .i64 b1,.int .i64 b2],.pointer (some ⟨g,0,none⟩)] w fun e w'=>e = .returned (.bool (b2 == x))∧Below w.heap.size w w':=by
 have hu:=Try.underlying56
 go_enter Try.func72,Try.ntmps72
 go_wp2
 go_ret
 exact ⟨rfl,(Below.refl _ _).alloc (Nat.le_refl _) _⟩
def impl_Heap_place.f (l0_0:List (S56)) (a0_1:Int) (a1:Int):Option (Int):=some (findI (fun d:S56=>d.f2 == a1) l0_0 0)
set_option maxHeartbeats 8000000 in
set_option maxRecDepth 100000 in
theorem impl_Heap_place.calls (A0_0:Option Addr) (c0_0:Nat) (l0_0:List (S56)) (a0_1:Int) (a1:Int) (r:Int) (w:World) (hr0_0:Kd.C k56 w A0_0 l0_0.length l0_0) (hc0_0:l0_0.length≤c0_0) (h:impl_Heap_place.f l0_0 a0_1 a1=some r) :
  Calls Try.prog 45 #[.agg #[.slice A0_0 l0_0.length c0_0,.int .i64 a0_1],.int .i64 a1] w fun e w'=>e = .returned (.int .i64 r)∧Below w.heap.size w w':=by
 obtain rfl:=Option.some.inj h
 have hu28:=Try.underlying28
 have HR0:=Aside0.mk hr0_0
 have HC0:=Aside0.mk hc0_0
 clear hr0_0 hc0_0 h
 go_enter Try.func45,Try.ntmps45
 go_wp2_with fail
 refine (impl_Due_71.any (fun d:S56=>d.f2 == a1) 72 #[.pointer (some ⟨w.heap.size + 1,0,none⟩)] A0_0 c0_0 l0_0 _ (by repeat (first|exact HR0.out|(with_reducible refine Kd.C_alloc ?_ _))) HC0.out (enters_of' Try.func72 (by kernel_rfl) rfl) (fun W x hb=>(impl_Heap_place.test x.f0 x.f1 x.f2 a1 (w.heap.size + 1) W ?cell ?lt))).mono ?_
 case cell=>exact (hb.cell (p:=⟨w.heap.size + 1,0,none⟩) (by simp)).trans (by simp)
 case lt=>have:=hb.size;simp at this;omega
 rintro e w' ⟨rfl,hb⟩
 go_wp2
 go_ret
 exact ⟨rfl,((((Below.refl _ _).alloc (Nat.le_refl _) _).alloc (by simp) _).trans (hb.mono (by simp;omega)))⟩

/-! ### impl_in: function 58 -/
def impl_in.f (a0:Int) (a1:Int) (a2:Int):Option (Bool):=if a0 ≥ a1 then (some (decide (a0≤a2))) else (some false)
set_option maxHeartbeats 8000000 in
set_option maxRecDepth 100000 in
theorem impl_in.calls (a0:Int) (a1:Int) (a2:Int) (r:Bool) (w:World) (h:impl_in.f a0 a1 a2=some r) :
  Calls Try.prog 58 #[.int .i64 a0,.int .i64 a1,.int .i64 a2] w fun e w'=>e = .returned (.bool r)∧Drawn0 w w':=by
 have H:(if a0 ≥ a1 then (some (decide (a0≤a2))) else (some false))=some r:=h
 clear h
 by_cases c4:a0 ≥ a1
 ·rw [if_pos c4] at H
  have c4b0:decide (a1≤a0)=true:=decide_eq_true c4
  clear c4
  obtain rfl:=Option.some.inj H
  go_enter Try.func58,Try.ntmps58
  go_wp2
  go_ret
  exact ⟨by first|rfl|(simp;done)|(simp [*];done),by repeat (first|exact Drawn0.refl _|apply Drawn0.step)⟩
 ·rw [if_neg c4] at H
  have c4b0:decide (a1≤a0)=false:=decide_eq_false c4
  clear c4
  obtain rfl:=Option.some.inj H
  go_enter Try.func58,Try.ntmps58
  go_wp2
  go_ret
  exact ⟨by first|rfl|(simp;done)|(simp [*];done),by repeat (first|exact Drawn0.refl _|apply Drawn0.step)⟩

/-! ### impl_TickOk: function 53 -/
def impl_TickOk.f (a0:Int):Option (Bool):=(impl_in.f a0 0 1000000000).bind fun t240=>(some t240)
set_option maxHeartbeats 8000000 in
set_option maxRecDepth 100000 in
theorem impl_TickOk.calls (a0:Int) (r:Bool) (w:World) (h:impl_TickOk.f a0=some r) :
  Calls Try.prog 53 #[.int .i64 a0] w fun e w'=>e = .returned (.bool r)∧Drawn0 w w':=by
 have H:((impl_in.f a0 0 1000000000).bind fun t240=>(some t240))=some r:=h
 clear h
 replace H:=Option.bind_eq_some_iff.mp H
 obtain ⟨t240,A20,H⟩:=H
 have A2:=Aside0.mk A20
 clear A20
 obtain rfl:=Option.some.inj H
 go_enter Try.func53,Try.ntmps53
 go_wp2_with (first|((with_reducible refine gate_callee (f:=58) rfl ?_);refine gl (some 4) Try.func58 #[.int .i64 a0,.int .i64 0,.int .i64 1000000000] ?_;(with_reducible refine (impl_in.calls a0 0 1000000000 t240 _ A2.out).mono ?_);rintro e w' ⟨rfl,⟨nd,rfl⟩⟩;refine ⟨_,rfl,?_⟩))
 go_ret
 exact ⟨by first|rfl|(simp;done)|(simp [*];done),by repeat (first|exact Drawn0.refl _|apply Drawn0.step)⟩

/-! ### impl_isId: function 54 -/
def impl_isId.f (a0:Int):Option (Bool):=(impl_in.f a0 1 1000000000).bind fun t241=>(some t241)
set_option maxHeartbeats 8000000 in
set_option maxRecDepth 100000 in
theorem impl_isId.calls (a0:Int) (r:Bool) (w:World) (h:impl_isId.f a0=some r) :
  Calls Try.prog 54 #[.int .i64 a0] w fun e w'=>e = .returned (.bool r)∧Drawn0 w w':=by
 have H:((impl_in.f a0 1 1000000000).bind fun t241=>(some t241))=some r:=h
 clear h
 replace H:=Option.bind_eq_some_iff.mp H
 obtain ⟨t241,A20,H⟩:=H
 have A2:=Aside0.mk A20
 clear A20
 obtain rfl:=Option.some.inj H
 go_enter Try.func54,Try.ntmps54
 go_wp2_with (first|((with_reducible refine gate_callee (f:=58) rfl ?_);refine gl (some 4) Try.func58 #[.int .i64 a0,.int .i64 1,.int .i64 1000000000] ?_;(with_reducible refine (impl_in.calls a0 1 1000000000 t241 _ A2.out).mono ?_);rintro e w' ⟨rfl,⟨nd,rfl⟩⟩;refine ⟨_,rfl,?_⟩))
 go_ret
 exact ⟨by first|rfl|(simp;done)|(simp [*];done),by repeat (first|exact Drawn0.refl _|apply Drawn0.step)⟩

/-! ### cmp_Or_int: function 80 -/
def cmp_Or_int.l0:Nat→Int→List Int→Int→Int→Option (Int)
 | 0,_,_,_,_=>none
 | k + 1,x3,x6,x7,x8=>if x8 < x7 then (if 0≤x8 then (if x8 < (x6.length:Int) then (if (rd x6 x8)=x3 then (cmp_Or_int.l0 k x3 x6 x7 (wrap64 (x8 + 1))) else (some (rd x6 x8))) else (none)) else (none)) else (some x3)
def cmp_Or_int.f (k:Nat) (l0:List Int):Option (Int):=cmp_Or_int.l0 k 0 l0 (l0.length:Int) 0
theorem cmp_Or_int.mono_l:∀ k,(∀ y0 y1 y2 y3,LeO (cmp_Or_int.l0 k y0 y1 y2 y3) (cmp_Or_int.l0 (k + 1) y0 y1 y2 y3))
 | 0=>fun _ _ _ _ r h=>by simp [cmp_Or_int.l0] at h
 | k + 1=>by
  have ih0:=cmp_Or_int.mono_l k
  ·intro y0 y1 y2 y3
   unfold cmp_Or_int.l0
   repeat' first
   | (with_reducible exact ih0 _ _ _ _)
   | (with_reducible exact LeO.refl _)
   | (with_reducible exact LeO.none _)
   | (with_reducible refine LeO.ite ?_ ?_)
   | (with_reducible refine LeO.bind ?_ (fun _=>?_))
   | exact ih0 _ _ _ _
   | exact LeO.none _
   | refine LeO.ite ?_ ?_
   | refine LeO.bind ?_ (fun _=>?_)
theorem cmp_Or_int.mono:∀ a0 k,LeO (cmp_Or_int.f k a0) (cmp_Or_int.f (k + 1) a0):=by
 intro a0 k
 have ih0:=cmp_Or_int.mono_l k
 unfold cmp_Or_int.f
 repeat' first
   | (with_reducible exact ih0 _ _ _ _)
   | (with_reducible exact LeO.refl _)
   | (with_reducible exact LeO.none _)
   | (with_reducible refine LeO.ite ?_ ?_)
   | (with_reducible refine LeO.bind ?_ (fun _=>?_))
   | exact ih0 _ _ _ _
   | exact LeO.none _
   | refine LeO.ite ?_ ?_
   | refine LeO.bind ?_ (fun _=>?_)
set_option maxHeartbeats 8000000 in
set_option maxRecDepth 100000 in
theorem cmp_Or_int.calls (k:Nat) (A0:Option Addr) (c0:Nat) (l0:List Int) (r:Int) (w:World) (hr0:Kd.C (Kd.int .i64) w A0 l0.length l0) (hc0:l0.length≤c0) (h:cmp_Or_int.f k l0=some r) :
  Calls Try.prog 80 #[.slice A0 l0.length c0] w fun e w'=>e = .returned (.int .i64 r)∧Drawn0 w w':=by
 have HR0:=Aside0.mk hr0
 have HC0:=Aside0.mk hc0
 clear hr0 hc0
 have H:(cmp_Or_int.l0 k 0 l0 (l0.length:Int) 0)=some r:=h
 clear h
 have H':=Aside0.mk H
 clear H
 go_enter Try.func80,Try.ntmps80
 go_wp2
 go_loopg [8] k (fun kq v8 w'=>∃ (x8_1:Int),v8 = .int .i64 x8_1∧Aside0 (cmp_Or_int.l0 kq 0 l0 (l0.length:Int) x8_1=some r)∧Aside0 (kq≤k)∧Drawn0 w w')
 case atStart=>exact ⟨(0),(by first|rfl|(simp;done)|(simp [*];done)),H',⟨Nat.le_refl _⟩,by repeat (first|exact Drawn0.refl _|apply Drawn0.step)⟩
 case round =>
  clear H'
  obtain ⟨x8_1,rfl,HA,HK1,⟨m1,rfl⟩⟩:=hrel
  cases gk with
  | zero=>exact absurd HA.out (by simp [cmp_Or_int.l0])
  | succ k1 =>
   have H:=HA.out
   clear HA
   simp only [cmp_Or_int.l0] at H
   by_cases c2:x8_1 < (l0.length:Int)
   ·rw [if_pos c2] at H
    have c2b0:decide (x8_1 < (l0.length:Int))=true:=decide_eq_true c2
    clear c2
    by_cases c3:0≤x8_1
    case neg =>
     rw [if_neg c3] at H
     exact absurd H (by simp)
    rw [if_pos c3] at H
    have c3b0:decide (0≤x8_1)=true:=decide_eq_true c3
    clear c3
    by_cases c4:x8_1 < (l0.length:Int)
    case neg =>
     rw [if_neg c4] at H
     exact absurd H (by simp)
    rw [if_pos c4] at H
    have c4b0:decide (x8_1 < (l0.length:Int))=true:=decide_eq_true c4
    clear c4
    by_cases c5:(rd l0 x8_1)=0
    ·rw [if_pos c5] at H
     have c5b0:((rd l0 x8_1) == 0)=true:=beq_iff_eq.mpr c5
     have c5b1:((rd l0 x8_1) != 0)=false:=bne_eq_false_iff_eq.mpr c5
     clear c5
     have H':=Aside0.mk H
     clear H
     have p242:0≤(x8_1:Int):=od
     have q242:x8_1 < (l0.length:Int):=od
     obtain ⟨ad242,e242,hx242_0⟩:=Kd.at_int HR0.out x8_1 p242 q242
     cases e242
     replace p242:=eq_true p242
     replace q242:=eq_true q242
     go_wp2
     go_roundg k1
     case measure=>have:=HK1.out;omega
     case rel=>exact ⟨(wrap64 (x8_1 + 1)),(by first|rfl|(simp;done)|(simp [*];done)),H',⟨by have:=HK1.out;omega⟩,by repeat (first|exact Drawn0.refl _|apply Drawn0.step)⟩
    ·rw [if_neg c5] at H
     have c5b0:((rd l0 x8_1) == 0)=false:=beq_eq_false_iff_ne.mpr c5
     have c5b1:((rd l0 x8_1) != 0)=true:=bne_iff_ne.mpr c5
     obtain rfl:=Option.some.inj H
     have p242:0≤(x8_1:Int):=od
     have q242:x8_1 < (l0.length:Int):=od
     obtain ⟨ad242,e242,hx242_0⟩:=Kd.at_int HR0.out x8_1 p242 q242
     cases e242
     replace p242:=eq_true p242
     replace q242:=eq_true q242
     go_wp2
     go_ret
     exact ⟨by first|rfl|(simp;done)|(simp [*];done),by repeat (first|exact Drawn0.refl _|apply Drawn0.step)⟩
   ·rw [if_neg c2] at H
    have c2b0:decide (x8_1 < (l0.length:Int))=false:=decide_eq_false c2
    clear c2
    obtain rfl:=Option.some.inj H
    go_wp2
    go_ret
    exact ⟨by first|rfl|(simp;done)|(simp [*];done),by repeat (first|exact Drawn0.refl _|apply Drawn0.step)⟩

/-! ### cmp_isNaN_int: function 87 -/
def cmp_isNaN_int.f (a0:Int):Option (Bool):=some (a0 != a0)
set_option maxHeartbeats 8000000 in
set_option maxRecDepth 100000 in
theorem cmp_isNaN_int.calls (a0:Int) (r:Bool) (w:World) (h:cmp_isNaN_int.f a0=some r) :
  Calls Try.prog 87 #[.int .i64 a0] w fun e w'=>e = .returned (.bool r)∧Drawn0 w w':=by
 have H:(some (a0 != a0))=some r:=h
 clear h
 obtain rfl:=Option.some.inj H
 go_enter Try.func87,Try.ntmps87
 go_wp2
 go_ret
 exact ⟨by first|rfl|(simp;done)|(simp [*];done),by repeat (first|exact Drawn0.refl _|apply Drawn0.step)⟩

/-! ### cmp_Compare_int: function 81 -/
def cmp_Compare_int.f (a0:Int) (a1:Int):Option (Int):=(cmp_isNaN_int.f a0).bind fun t243=>((cmp_isNaN_int.f a1).bind fun t244=>(if t243=true then (if t244=true then (some 0) else (some (-1))) else (if t244=true then (some 1) else (if a0 < a1 then (some (-1)) else (if a0 > a1 then (some 1) else (some 0))))))
set_option maxHeartbeats 8000000 in
set_option maxRecDepth 100000 in
theorem cmp_Compare_int.calls (a0:Int) (a1:Int) (r:Int) (w:World) (h:cmp_Compare_int.f a0 a1=some r) :
  Calls Try.prog 81 #[.int .i64 a0,.int .i64 a1] w fun e w'=>e = .returned (.int .i64 r)∧Drawn0 w w':=by
 have H:((cmp_isNaN_int.f a0).bind fun t243=>((cmp_isNaN_int.f a1).bind fun t244=>(if t243=true then (if t244=true then (some 0) else (some (-1))) else (if t244=true then (some 1) else (if a0 < a1 then (some (-1)) else (if a0 > a1 then (some 1) else (some 0)))))))=some r:=h
 clear h
 replace H:=Option.bind_eq_some_iff.mp H
 obtain ⟨t243,A30,H⟩:=H
 have A3:=Aside0.mk A30
 clear A30
 replace H:=Option.bind_eq_some_iff.mp H
 obtain ⟨t244,A40,H⟩:=H
 have A4:=Aside0.mk A40
 clear A40
 by_cases c5:t243=true
 ·subst c5
  rw [if_pos rfl] at H
  by_cases c6:t244=true
  ·subst c6
   rw [if_pos rfl] at H
   obtain rfl:=Option.some.inj H
   go_enter Try.func81,Try.ntmps81
   go_wp2_with (first|((with_reducible refine gate_callee (f:=87) rfl ?_);refine gl (some 8) Try.func87 #[.int .i64 a0] ?_;(with_reducible refine (cmp_isNaN_int.calls a0 true _ A3.out).mono ?_);rintro e w' ⟨rfl,⟨nd,rfl⟩⟩;refine ⟨_,rfl,?_⟩)|((with_reducible refine gate_callee (f:=87) rfl ?_);refine gl (some 10) Try.func87 #[.int .i64 a1] ?_;(with_reducible refine (cmp_isNaN_int.calls a1 true _ A4.out).mono ?_);rintro e w' ⟨rfl,⟨nd,rfl⟩⟩;refine ⟨_,rfl,?_⟩))
   go_ret
   exact ⟨by first|rfl|(simp;done)|(simp [*];done),by repeat (first|exact Drawn0.refl _|apply Drawn0.step)⟩
  ·replace c6:=Bool.eq_false_iff.mpr c6
   subst c6
   rw [if_neg nft] at H
   obtain rfl:=Option.some.inj H
   go_enter Try.func81,Try.ntmps81
   go_wp2_with (first|((with_reducible refine gate_callee (f:=87) rfl ?_);refine gl (some 8) Try.func87 #[.int .i64 a0] ?_;(with_reducible refine (cmp_isNaN_int.calls a0 true _ A3.out).mono ?_);rintro e w' ⟨rfl,⟨nd,rfl⟩⟩;refine ⟨_,rfl,?_⟩)|((with_reducible refine gate_callee (f:=87) rfl ?_);refine gl (some 10) Try.func87 #[.int .i64 a1] ?_;(with_reducible refine (cmp_isNaN_int.calls a1 false _ A4.out).mono ?_);rintro e w' ⟨rfl,⟨nd,rfl⟩⟩;refine ⟨_,rfl,?_⟩))
   go_ret
   exact ⟨by first|rfl|(simp;done)|(simp [*];done),by repeat (first|exact Drawn0.refl _|apply Drawn0.step)⟩
 ·replace c5:=Bool.eq_false_iff.mpr c5
  subst c5
  rw [if_neg nft] at H
  by_cases c7:t244=true
  ·subst c7
   rw [if_pos rfl] at H
   obtain rfl:=Option.some.inj H
   go_enter Try.func81,Try.ntmps81
   go_wp2_with (first|((with_reducible refine gate_callee (f:=87) rfl ?_);refine gl (some 8) Try.func87 #[.int .i64 a0] ?_;(with_reducible refine (cmp_isNaN_int.calls a0 false _ A3.out).mono ?_);rintro e w' ⟨rfl,⟨nd,rfl⟩⟩;refine ⟨_,rfl,?_⟩)|((with_reducible refine gate_callee (f:=87) rfl ?_);refine gl (some 10) Try.func87 #[.int .i64 a1] ?_;(with_reducible refine (cmp_isNaN_int.calls a1 true _ A4.out).mono ?_);rintro e w' ⟨rfl,⟨nd,rfl⟩⟩;refine ⟨_,rfl,?_⟩))
   go_ret
   exact ⟨by first|rfl|(simp;done)|(simp [*];done),by repeat (first|exact Drawn0.refl _|apply Drawn0.step)⟩
  ·replace c7:=Bool.eq_false_iff.mpr c7
   subst c7
   rw [if_neg nft] at H
   by_cases c8:a0 < a1
   ·rw [if_pos c8] at H
    have c8b0:decide (a0 < a1)=true:=decide_eq_true c8
    clear c8
    obtain rfl:=Option.some.inj H
    go_enter Try.func81,Try.ntmps81
    go_wp2_with (first|((with_reducible refine gate_callee (f:=87) rfl ?_);refine gl (some 8) Try.func87 #[.int .i64 a0] ?_;(with_reducible refine (cmp_isNaN_int.calls a0 false _ A3.out).mono ?_);rintro e w' ⟨rfl,⟨nd,rfl⟩⟩;refine ⟨_,rfl,?_⟩)|((with_reducible refine gate_callee (f:=87) rfl ?_);refine gl (some 10) Try.func87 #[.int .i64 a1] ?_;(with_reducible refine (cmp_isNaN_int.calls a1 false _ A4.out).mono ?_);rintro e w' ⟨rfl,⟨nd,rfl⟩⟩;refine ⟨_,rfl,?_⟩))
    go_ret
    exact ⟨by first|rfl|(simp;done)|(simp [*];done),by repeat (first|exact Drawn0.refl _|apply Drawn0.step)⟩
   ·rw [if_neg c8] at H
    have c8b0:decide (a0 < a1)=false:=decide_eq_false c8
    clear c8
    by_cases c9:a0 > a1
    ·rw [if_pos c9] at H
     have c9b0:decide (a1 < a0)=true:=decide_eq_true c9
     clear c9
     obtain rfl:=Option.some.inj H
     go_enter Try.func81,Try.ntmps81
     go_wp2_with (first|((with_reducible refine gate_callee (f:=87) rfl ?_);refine gl (some 8) Try.func87 #[.int .i64 a0] ?_;(with_reducible refine (cmp_isNaN_int.calls a0 false _ A3.out).mono ?_);rintro e w' ⟨rfl,⟨nd,rfl⟩⟩;refine ⟨_,rfl,?_⟩)|((with_reducible refine gate_callee (f:=87) rfl ?_);refine gl (some 10) Try.func87 #[.int .i64 a1] ?_;(with_reducible refine (cmp_isNaN_int.calls a1 false _ A4.out).mono ?_);rintro e w' ⟨rfl,⟨nd,rfl⟩⟩;refine ⟨_,rfl,?_⟩))
     go_ret
     exact ⟨by first|rfl|(simp;done)|(simp [*];done),by repeat (first|exact Drawn0.refl _|apply Drawn0.step)⟩
    ·rw [if_neg c9] at H
     have c9b0:decide (a1 < a0)=false:=decide_eq_false c9
     clear c9
     obtain rfl:=Option.some.inj H
     go_enter Try.func81,Try.ntmps81
     go_wp2_with (first|((with_reducible refine gate_callee (f:=87) rfl ?_);refine gl (some 8) Try.func87 #[.int .i64 a0] ?_;(with_reducible refine (cmp_isNaN_int.calls a0 false _ A3.out).mono ?_);rintro e w' ⟨rfl,⟨nd,rfl⟩⟩;refine ⟨_,rfl,?_⟩)|((with_reducible refine gate_callee (f:=87) rfl ?_);refine gl (some 10) Try.func87 #[.int .i64 a1] ?_;(with_reducible refine (cmp_isNaN_int.calls a1 false _ A4.out).mono ?_);rintro e w' ⟨rfl,⟨nd,rfl⟩⟩;refine ⟨_,rfl,?_⟩))
     go_ret
     exact ⟨by first|rfl|(simp;done)|(simp [*];done),by repeat (first|exact Drawn0.refl _|apply Drawn0.step)⟩

/-! ### impl_Due_compare: function 62 -/
def impl_Due_compare.f (k:Nat) (a0_0:Int) (a0_1:Int) (a0_2:Int) (a1_0:Int) (a1_1:Int) (a1_2:Int):Option (Int):=(cmp_Compare_int.f a0_0 a1_0).bind fun t247=>((cmp_Compare_int.f a0_1 a1_1).bind fun t248=>((cmp_Or_int.f k (([t247,t248]:List Int))).bind fun t252=>(some t252)))
theorem impl_Due_compare.mono:∀ a0 a1 a2 a3 a4 a5 k,LeO (impl_Due_compare.f k a0 a1 a2 a3 a4 a5) (impl_Due_compare.f (k + 1) a0 a1 a2 a3 a4 a5):=by
 intro a0 a1 a2 a3 a4 a5 k
 unfold impl_Due_compare.f
 repeat' first
   | (with_reducible exact cmp_Or_int.mono _ _)
   | (with_reducible exact LeO.refl _)
   | (with_reducible exact LeO.none _)
   | (with_reducible refine LeO.ite ?_ ?_)
   | (with_reducible refine LeO.bind ?_ (fun _=>?_))
   | exact cmp_Or_int.mono _ _
   | exact LeO.none _
   | refine LeO.ite ?_ ?_
   | refine LeO.bind ?_ (fun _=>?_)
def impl_Due_compare.T1:Bool × List (List Nat × List Nat):=(true,[([],[]),([0],[0]),([],[]),([2],[2]),([1,3],[1,3]),([],[]),([5],[5]),([],[]),([7],[7]),([6,8,4],[6,8]),([4,9],[4,9]),([10,9],[10]),([11,11,0,1,2,3,4,5,6,7,8,9,10,11],[11])])
def impl_Due_compare.B1:List Nat:=[0,1,0,4,15,0,32,0,128,511,1023,2047,4095]
theorem impl_Due_compare.tab1:rtab .any (opsOf Try.f62 1)=impl_Due_compare.T1:=by kernel_rfl
theorem impl_Due_compare.bits1:waitsOk impl_Due_compare.T1.2 impl_Due_compare.B1=true:=by kernel_rfl
set_option maxHeartbeats 8000000 in
set_option maxRecDepth 100000 in
theorem impl_Due_compare.calls (k:Nat) (a0_0:Int) (a0_1:Int) (a0_2:Int) (a1_0:Int) (a1_1:Int) (a1_2:Int) (r:Int) (w:World) (h:impl_Due_compare.f k a0_0 a0_1 a0_2 a1_0 a1_1 a1_2=some r) :
  Calls Try.prog 62 #[.agg #[.int .i64 a0_0,.int .i64 a0_1,.int .i64 a0_2],.agg #[.int .i64 a1_0,.int .i64 a1_1,.int .i64 a1_2]] w fun e w'=>e = .returned (.int .i64 r)∧Below w.heap.size w w':=by
 have hu56:=Try.underlying56
 have HB:=Aside0.mk (Below.refl w.heap.size w)
 have H:((cmp_Compare_int.f a0_0 a1_0).bind fun t247=>((cmp_Compare_int.f a0_1 a1_1).bind fun t248=>((cmp_Or_int.f k (([t247,t248]:List Int))).bind fun t252=>(some t252))))=some r:=h
 clear h
 replace H:=Option.bind_eq_some_iff.mp H
 obtain ⟨t247,A30,H⟩:=H
 have A3:=Aside0.mk A30
 clear A30
 replace H:=Option.bind_eq_some_iff.mp H
 obtain ⟨t248,A40,H⟩:=H
 have A4:=Aside0.mk A40
 clear A40
 obtain ⟨y249,hy249⟩:∃ y_:List Int,y_=(([t247,t248]:List Int)):=⟨_,rfl⟩
 replace H:((cmp_Or_int.f k y249).bind fun t252=>(some t252))=some r:=by first|(rw [hy249];with_reducible exact H)|(have H2_:=(Option.bind_some _ _).symm.trans H;rw [hy249];with_reducible exact H2_)|(have H2_:=(Option.bind_some _ _).symm.trans H;with_reducible exact H2_)|with_reducible exact H|(rw [hy249];exact H)|exact H
 have Ny249:=Aside0.mk hy249
 clear hy249
 replace H:=Option.bind_eq_some_iff.mp H
 obtain ⟨t252,A50,H⟩:=H
 have A5:=Aside0.mk A50
 clear A50
 obtain rfl:=Option.some.inj H
 go_enter Try.func62,Try.ntmps62
 try go_wp2_with (first|((with_reducible refine gate_dst (N:=2) rfl ?_);refine bx 2 #[.int .i64 a0_0,.int .i64 a0_1,.int .i64 a0_2] 56 ?_;intro gb245 hg w6 hbox hb;have BK245:=Aside0.mk (hbox);have GW245:=Aside0.mk (bz hg:w.heap.size≤gb245);have GE245:=GW245;replace HB:=Aside0.mk (below_step bl hb);clear hb hbox hg)|((with_reducible refine gate_dst (N:=3) rfl ?_);refine bx 3 #[.int .i64 a1_0,.int .i64 a1_1,.int .i64 a1_2] 56 ?_;intro gb246 hg w7 hbox hb;have BK246:=Aside0.mk (hbox);have GW246:=Aside0.mk (bz hg:w.heap.size≤gb246);have GE246:=GW246;replace HB:=Aside0.mk (below_step bl hb);have NB245_246:=Aside0.mk (nl hg BK245:gb245≠gb246);have NB246_245:=Aside0.mk (nr hg BK245:gb246≠gb245);replace BK245:=Aside0.mk (blk_below (bk BK245) hb);clear hb hbox hg))
 replace BK245:=Aside0.mk (blk_drew BK245.out)
 replace BK246:=Aside0.mk (blk_drew BK246.out)
 replace HB:=Aside0.mk (below_drew1 HB.out)
 refine start_ (n:=13) (S:=fun w'=>w'.cell? ⟨gb245,0,none⟩=some (.int .i64 a0_0)∧w'.cell? ⟨gb245,1,none⟩=some (.int .i64 a0_1)∧w'.cell? ⟨gb245,2,none⟩=some (.int .i64 a0_2)∧w'.cell? ⟨gb246,0,none⟩=some (.int .i64 a1_0)∧w'.cell? ⟨gb246,1,none⟩=some (.int .i64 a1_1)∧w'.cell? ⟨gb246,2,none⟩=some (.int .i64 a1_2)) (ds:=[]) (bs 13 0) (by kernel_rfl) rfl rfl ⟨bc BK245 0,bc BK245 1,bc BK245 2,bc BK246 0,bc BK246 1,bc BK246 2⟩ (fun hHeld=>?_);refine with_tabW impl_Due_compare.tab1 impl_Due_compare.bits1 (fun HT_ HW_=>?_)
 generalize w7.drew=w8 at BK245 BK246 HB hHeld ⊢
 refine pq 0 5 (bs 13 1) HT_ ?_
 refine pq 2 7 (bs 13 5) HT_ ?_
 refine pq 5 10 (bs 13 37) HT_ ?_
 refine pq 7 12 (bs 13 165) HT_ ?_
 refine tq 1 6 (bs 13 167) HT_ HW_ hHeld ?_
 refine tq 3 8 (bs 13 175) HT_ HW_ hHeld ?_
 refine tq 6 11 (bs 13 239) HT_ HW_ hHeld ?_
 refine tq 8 13 (bs 13 495) HT_ HW_ hHeld ?_
 refine one_ (i:=4) (N:=some 9) (bs 13 511) rfl rfl (one_of HT_.out (by kernel_rfl)) (by decide) (fun K hK=>?_)
 refine goes_ Try.func81 (by kernel_rfl) rfl #[.int .i64 a0_0,.int .i64 a1_0] (by rfl) rfl rfl (by (try simp only [List.map_toArray,List.map_cons,List.map_nil]);first|done|rfl|(simp only [List.length_drop,List.length_take];rfl)) ?_
 with_reducible refine (cmp_Compare_int.calls a0_0 a1_0 t247 _ A3.out).mono ?_
 rintro e w' ⟨rfl,⟨nd,rfl⟩⟩
 refine ⟨_,rfl,?_⟩
 refine hK.out _ _ ⟨bc BK245 0,bc BK245 1,bc BK245 2,bc BK246 0,bc BK246 1,bc BK246 2⟩ (fun hHeld=>?_)
 clear hK K
 refine nrm ?_
 refine one_ (i:=9) (N:=some 14) (bs 13 1023) rfl rfl (one_of HT_.out (by kernel_rfl)) (by decide) (fun K hK=>?_)
 refine goes_ Try.func81 (by kernel_rfl) rfl #[.int .i64 a0_1,.int .i64 a1_1] (by rfl) rfl rfl (by (try simp only [List.map_toArray,List.map_cons,List.map_nil]);first|done|rfl|(simp only [List.length_drop,List.length_take];rfl)) ?_
 with_reducible refine (cmp_Compare_int.calls a0_1 a1_1 t248 _ A4.out).mono ?_
 rintro e w' ⟨rfl,⟨nd,rfl⟩⟩
 refine ⟨_,rfl,?_⟩
 refine hK.out _ _ ⟨bc BK245 0,bc BK245 1,bc BK245 2,bc BK246 0,bc BK246 1,bc BK246 2⟩ (fun hHeld=>?_)
 clear hK K
 refine nrm ?_
 refine one_ (i:=10) (N:=some 15) (bs 13 2047) rfl rfl (one_of HT_.out (by kernel_rfl)) (by decide) (fun K hK=>?_)
 refine Kd.R_lit_step (Kd.int .i64) _ 3 ?hg (N:=15) ?hd (xs:=([t247,t248]:List Int)) (inner:=[.int .i64 t247,.int .i64 t248]) (ok:=fun _=>True) (okp:=fun _=>True) ?hr ?hp (fun _ hk=>hk) trivial (Below.refl _ _) (Nat.le_refl _) (by simp) ?_;(case hd=>rfl);(case hg=>rfl);(case hr=>first|(go_simp;done)|(go_simp;rfl));(case hp=>exact (Reps.one (show Kd.M (Kd.int .i64) _ _ _ t247 [.int .i64 t247] from rfl) (Reps.one (show Kd.M (Kd.int .i64) _ _ _ t248 [.int .i64 t248] from rfl) (Reps.none _ _))))
 intro v250 w9 ho10 hb hg_ hnew_
 clear hg_ hnew_
 (first|rw [← Ny249.out] at ho10|(simp only [Int.reduceToNat] at ho10;rw [← Ny249.out] at ho10))
 have HO251:=Aside0.mk (Kd.R_lower ho10 (below_size bl))
 replace BK245:=Aside0.mk (blk_below (bk BK245) hb)
 replace BK246:=Aside0.mk (blk_below (bk BK246) hb)
 replace HB:=Aside0.mk (below_step bl hb)
 clear hb ho10
 obtain ⟨Ao11,co11,eo11⟩:=Kd.R_slice HO251.out
 (first|subst eo11|(injection eo11 with f1_ f2_ f3_;have f4_:=f1_.symm;have f5_:=f3_.symm;clear f1_ f2_ f3_;subst f4_;subst f5_))
 refine hK.out _ _ ⟨bc BK245 0,bc BK245 1,bc BK245 2,bc BK246 0,bc BK246 1,bc BK246 2⟩ (fun hHeld=>?_)
 clear hK K
 refine nrm ?_
 refine one_ (i:=11) (N:=some 16) (bs 13 4095) rfl rfl (one_of HT_.out (by kernel_rfl)) (by decide) (fun K hK=>?_)
 refine goes_ Try.func80 (by kernel_rfl) rfl #[.slice Ao11 y249.length co11] (by rfl) rfl rfl (by (try simp only [List.map_toArray,List.map_cons,List.map_nil]);first|done|rfl|(simp only [List.length_drop,List.length_take];rfl)) ?_
 with_reducible refine (cmp_Or_int.calls k _ _ y249 t252 _ ?side1 ?side2 A5.out).mono ?_
 (case side1=>repeat (first|exact (Kd.R_reads' HO251.out).2.2|(with_reducible refine Kd.C_alloc ?_ _)|(with_reducible refine Kd.C_drewN ?_ _)|(with_reducible refine Kd.C_drew ?_)))
 (case side2=>exact (Kd.R_reads' HO251.out).2.1)
 rintro e w' ⟨rfl,⟨nd,rfl⟩⟩
 refine ⟨_,rfl,?_⟩
 refine hK.out _ _ ⟨bc BK245 0,bc BK245 1,bc BK245 2,bc BK246 0,bc BK246 1,bc BK246 2⟩ (fun hHeld=>?_)
 clear hK K
 refine nrm ?_
 refine pq 12 4 (bs 13 8191) HT_ ?_
 refine done_ (done_of HT_.out (by kernel_rfl)) ?_
 try go_wp2
 go_ret
 exact ⟨er,bl⟩

/-! ### impl_Due_before: function 73 -/
def impl_Due_before.f (k:Nat) (a0_0:Int) (a0_1:Int) (a0_2:Int) (a1_0:Int) (a1_1:Int) (a1_2:Int):Option (Bool):=(impl_Due_compare.f k a0_0 a0_1 a0_2 a1_0 a1_1 a1_2).bind fun t255=>(some (decide (t255 < 0)))
theorem impl_Due_before.mono:∀ a0 a1 a2 a3 a4 a5 k,LeO (impl_Due_before.f k a0 a1 a2 a3 a4 a5) (impl_Due_before.f (k + 1) a0 a1 a2 a3 a4 a5):=by
 intro a0 a1 a2 a3 a4 a5 k
 unfold impl_Due_before.f
 repeat' first
   | (with_reducible exact impl_Due_compare.mono _ _ _ _ _ _ _)
   | (with_reducible exact LeO.refl _)
   | (with_reducible exact LeO.none _)
   | (with_reducible refine LeO.ite ?_ ?_)
   | (with_reducible refine LeO.bind ?_ (fun _=>?_))
   | exact impl_Due_compare.mono _ _ _ _ _ _ _
   | exact LeO.none _
   | refine LeO.ite ?_ ?_
   | refine LeO.bind ?_ (fun _=>?_)
set_option maxHeartbeats 8000000 in
set_option maxRecDepth 100000 in
theorem impl_Due_before.calls (k:Nat) (a0_0:Int) (a0_1:Int) (a0_2:Int) (a1_0:Int) (a1_1:Int) (a1_2:Int) (r:Bool) (w:World) (h:impl_Due_before.f k a0_0 a0_1 a0_2 a1_0 a1_1 a1_2=some r) :
  Calls Try.prog 73 #[.agg #[.int .i64 a0_0,.int .i64 a0_1,.int .i64 a0_2],.agg #[.int .i64 a1_0,.int .i64 a1_1,.int .i64 a1_2]] w fun e w'=>e = .returned (.bool r)∧Below w.heap.size w w':=by
 have hu56:=Try.underlying56
 have HB:=Aside0.mk (Below.refl w.heap.size w)
 have H:((impl_Due_compare.f k a0_0 a0_1 a0_2 a1_0 a1_1 a1_2).bind fun t255=>(some (decide (t255 < 0))))=some r:=h
 clear h
 replace H:=Option.bind_eq_some_iff.mp H
 obtain ⟨t255,A30,H⟩:=H
 have A3:=Aside0.mk A30
 clear A30
 obtain rfl:=Option.some.inj H
 go_enter Try.func73,Try.ntmps73
 go_wp2_with (first|((with_reducible refine gate_dst (N:=2) rfl ?_);refine bx 2 #[.int .i64 a0_0,.int .i64 a0_1,.int .i64 a0_2] 56 ?_;intro gb253 hg w4 hbox hb;have BK253:=Aside0.mk (hbox);have GW253:=Aside0.mk (bz hg:w.heap.size≤gb253);have GE253:=GW253;replace HB:=Aside0.mk (below_step bl hb);clear hb hbox hg)|((with_reducible refine gate_dst (N:=3) rfl ?_);refine bx 3 #[.int .i64 a1_0,.int .i64 a1_1,.int .i64 a1_2] 56 ?_;intro gb254 hg w5 hbox hb;have BK254:=Aside0.mk (hbox);have GW254:=Aside0.mk (bz hg:w.heap.size≤gb254);have GE254:=GW254;replace HB:=Aside0.mk (below_step bl hb);have NB253_254:=Aside0.mk (nl hg BK253:gb253≠gb254);have NB254_253:=Aside0.mk (nr hg BK253:gb254≠gb253);replace BK253:=Aside0.mk (blk_below (bk BK253) hb);clear hb hbox hg;have hnb6:=NB253_254.out;have hnc6:=NB254_253.out;obtain ⟨hcz7_0,hcz7_1,hcz7_2,hfz7_0,hfz7_1,hfz7_2⟩:=ck3 BK253.out;obtain ⟨hcz8_0,hcz8_1,hcz8_2,hfz8_0,hfz8_1,hfz8_2⟩:=ck3 BK254.out)|((with_reducible refine gate_callee (f:=62) rfl ?_);refine gl (some 7) Try.func62 #[.agg #[.int .i64 a0_0,.int .i64 a0_1,.int .i64 a0_2],.agg #[.int .i64 a1_0,.int .i64 a1_1,.int .i64 a1_2]] ?_;(with_reducible refine (impl_Due_compare.calls k a0_0 a0_1 a0_2 a1_0 a1_1 a1_2 t255 _ A3.out).mono ?_);rintro e w9 ⟨rfl,hb⟩;refine ⟨_,rfl,?_⟩;replace BK253:=Aside0.mk (blk_below (bk BK253) hb);replace BK254:=Aside0.mk (blk_below (bk BK254) hb);replace HB:=Aside0.mk (below_step bl hb);(try clear hb);(try clear hb2);(try clear hk);(try clear hi)))
 go_ret
 exact ⟨er,bl⟩

end Go.Proofs.Ytdffkcbaijbhoaa.PFnExactSchedule
