/- Contracts of functions of the given program: what each call answers. Written by a program of this session, out of the text of the functions. -/
import Derived.Test.YtfnphdikfialnaaPFnExactAnsweredOncex0
import Derived.Test.YtfnphdikfialnaaPFnExactAnsweredOncex3
import Derived.Test.YtfnphdikfialnaaPrs
namespace Go.Proofs.Ytfnphdikfialnaa.PFnExactAnsweredOnce
open Go.RowKit Go.Proofs.YtfnphdikfialnaaW.PrintWords Go.Proofs.YtfnphdikfialnaaW.PrintLast Go.Proofs.YtfnphdikfialnaaW.PrintMore Go.Proofs.Ytfnphdikfialnaa.Giv Go.Proofs.Ytfnphdikfialnaa.Prs
attribute [local go_sem] max2_int min2_int max_two min_two max_three min_three max_four min_four   -- for this text's walks alone
set_option linter.unusedVariables false
set_option linter.unusedSimpArgs false

/-! ### impl_LogOk: function 12 -/
mutual
def impl_LogOk.l0:Nat→List (S31)→Int→Int→Option (Bool)
 | 0,_,_,_=>none
 | k + 1,x12,x13,x14=>if x14 < x13 then (if 0≤x14 then (if x14 < (x12.length:Int) then ((impl_hasTicket.f k ((rd_T31 x12 x14).f0)).bind fun t141=>(if t141=true then (impl_LogOk.j1 k 1 1000000000 x12 x13 x14 ((rd_T31 x12 x14).f0) ((rd_T31 x12 x14).f1) ((rd_T31 x12 x14).f2)) else (impl_LogOk.j1 k 0 0 x12 x13 x14 ((rd_T31 x12 x14).f0) ((rd_T31 x12 x14).f1) ((rd_T31 x12 x14).f2)))) else (none)) else (none)) else (some true)
def impl_LogOk.j1:Nat→Int→Int→List (S31)→Int→Int→Int→Int→Int→Option (Bool)
 | 0,_,_,_,_,_,_,_,_=>none
 | k + 1,x5,x6,x12,x13,x14,x141000,x141001,x141002=>if x141000=5 then (impl_LogOk.j2 k x5 1000000000 x12 x13 x14 x141000 x141001 x141002) else (impl_LogOk.j2 k x5 x6 x12 x13 x14 x141000 x141001 x141002)
def impl_LogOk.j2:Nat→Int→Int→List (S31)→Int→Int→Int→Int→Int→Option (Bool)
 | 0,_,_,_,_,_,_,_,_=>none
 | k + 1,x5,x6,x12,x13,x14,x141000,x141001,x141002=>(impl_hasConn.f x141000).bind fun t142=>(if t142=true then (impl_LogOk.j3 k x5 x6 1 1000000000 x12 x13 x14 x141000 x141001 x141002) else (impl_LogOk.j3 k x5 x6 0 0 x12 x13 x14 x141000 x141001 x141002))
def impl_LogOk.j3:Nat→Int→Int→Int→Int→List (S31)→Int→Int→Int→Int→Int→Option (Bool)
 | 0,_,_,_,_,_,_,_,_,_,_=>none
 | k + 1,x5,x6,x7,x8,x12,x13,x14,x141000,x141001,x141002=>if x141000=11 then (impl_LogOk.j4 k x5 x6 x7 3 x12 x13 x14 x141000 x141001 x141002) else (impl_LogOk.j4 k x5 x6 x7 x8 x12 x13 x14 x141000 x141001 x141002)
def impl_LogOk.j4:Nat→Int→Int→Int→Int→List (S31)→Int→Int→Int→Int→Int→Option (Bool)
 | 0,_,_,_,_,_,_,_,_,_,_=>none
 | k + 1,x5,x6,x7,x8,x12,x13,x14,x141000,x141001,x141002=>(impl_in.f x141000 0 11).bind fun t143=>(if t143=true then ((impl_in.f x141001 x5 x6).bind fun t144=>(if t144=true then ((impl_in.f x141002 x7 x8).bind fun t145=>(if t145=true then (impl_LogOk.l0 k x12 x13 (wrap64 (x14 + 1))) else (some false))) else (some false))) else (some false))
end
def impl_LogOk.f (k:Nat) (l0:List (S31)):Option (Bool):=if (l0.length:Int) > 2000 then (some false) else (impl_LogOk.l0 k l0 (l0.length:Int) 0)
theorem impl_LogOk.mono_l:∀ k,(∀ y0 y1 y2,LeO (impl_LogOk.l0 k y0 y1 y2) (impl_LogOk.l0 (k + 1) y0 y1 y2))∧(∀ y0 y1 y2 y3 y4 y5 y6 y7,LeO (impl_LogOk.j1 k y0 y1 y2 y3 y4 y5 y6 y7) (impl_LogOk.j1 (k + 1) y0 y1 y2 y3 y4 y5 y6 y7))∧(∀ y0 y1 y2 y3 y4 y5 y6 y7,LeO (impl_LogOk.j2 k y0 y1 y2 y3 y4 y5 y6 y7) (impl_LogOk.j2 (k + 1) y0 y1 y2 y3 y4 y5 y6 y7))∧(∀ y0 y1 y2 y3 y4 y5 y6 y7 y8 y9,LeO (impl_LogOk.j3 k y0 y1 y2 y3 y4 y5 y6 y7 y8 y9) (impl_LogOk.j3 (k + 1) y0 y1 y2 y3 y4 y5 y6 y7 y8 y9))∧(∀ y0 y1 y2 y3 y4 y5 y6 y7 y8 y9,LeO (impl_LogOk.j4 k y0 y1 y2 y3 y4 y5 y6 y7 y8 y9) (impl_LogOk.j4 (k + 1) y0 y1 y2 y3 y4 y5 y6 y7 y8 y9))
 | 0=>⟨fun _ _ _ r h=>by simp [impl_LogOk.l0] at h,fun _ _ _ _ _ _ _ _ r h=>by simp [impl_LogOk.j1] at h,fun _ _ _ _ _ _ _ _ r h=>by simp [impl_LogOk.j2] at h,fun _ _ _ _ _ _ _ _ _ _ r h=>by simp [impl_LogOk.j3] at h,fun _ _ _ _ _ _ _ _ _ _ r h=>by simp [impl_LogOk.j4] at h⟩
 | k + 1=>by
  obtain ⟨ih0,ih1,ih2,ih3,ih4⟩:=impl_LogOk.mono_l k
  refine ⟨?_,?_,?_,?_,?_⟩
  ·intro y0 y1 y2
   unfold impl_LogOk.l0
   repeat' first
   | (with_reducible exact ih0 _ _ _)
   | (with_reducible exact ih1 _ _ _ _ _ _ _ _)
   | (with_reducible exact ih2 _ _ _ _ _ _ _ _)
   | (with_reducible exact ih3 _ _ _ _ _ _ _ _ _ _)
   | (with_reducible exact ih4 _ _ _ _ _ _ _ _ _ _)
   | (with_reducible exact impl_hasTicket.mono _ _)
   | (with_reducible exact LeO.refl _)
   | (with_reducible exact LeO.none _)
   | (with_reducible refine LeO.ite ?_ ?_)
   | (with_reducible refine LeO.bind ?_ (fun _=>?_))
   | exact ih0 _ _ _
   | exact ih1 _ _ _ _ _ _ _ _
   | exact ih2 _ _ _ _ _ _ _ _
   | exact ih3 _ _ _ _ _ _ _ _ _ _
   | exact ih4 _ _ _ _ _ _ _ _ _ _
   | exact impl_hasTicket.mono _ _
   | exact LeO.none _
   | refine LeO.ite ?_ ?_
   | refine LeO.bind ?_ (fun _=>?_)
  ·intro y0 y1 y2 y3 y4 y5 y6 y7
   unfold impl_LogOk.j1
   repeat' first
   | (with_reducible exact ih0 _ _ _)
   | (with_reducible exact ih1 _ _ _ _ _ _ _ _)
   | (with_reducible exact ih2 _ _ _ _ _ _ _ _)
   | (with_reducible exact ih3 _ _ _ _ _ _ _ _ _ _)
   | (with_reducible exact ih4 _ _ _ _ _ _ _ _ _ _)
   | (with_reducible exact impl_hasTicket.mono _ _)
   | (with_reducible exact LeO.refl _)
   | (with_reducible exact LeO.none _)
   | (with_reducible refine LeO.ite ?_ ?_)
   | (with_reducible refine LeO.bind ?_ (fun _=>?_))
   | exact ih0 _ _ _
   | exact ih1 _ _ _ _ _ _ _ _
   | exact ih2 _ _ _ _ _ _ _ _
   | exact ih3 _ _ _ _ _ _ _ _ _ _
   | exact ih4 _ _ _ _ _ _ _ _ _ _
   | exact impl_hasTicket.mono _ _
   | exact LeO.none _
   | refine LeO.ite ?_ ?_
   | refine LeO.bind ?_ (fun _=>?_)
  ·intro y0 y1 y2 y3 y4 y5 y6 y7
   unfold impl_LogOk.j2
   repeat' first
   | (with_reducible exact ih0 _ _ _)
   | (with_reducible exact ih1 _ _ _ _ _ _ _ _)
   | (with_reducible exact ih2 _ _ _ _ _ _ _ _)
   | (with_reducible exact ih3 _ _ _ _ _ _ _ _ _ _)
   | (with_reducible exact ih4 _ _ _ _ _ _ _ _ _ _)
   | (with_reducible exact impl_hasTicket.mono _ _)
   | (with_reducible exact LeO.refl _)
   | (with_reducible exact LeO.none _)
   | (with_reducible refine LeO.ite ?_ ?_)
   | (with_reducible refine LeO.bind ?_ (fun _=>?_))
   | exact ih0 _ _ _
   | exact ih1 _ _ _ _ _ _ _ _
   | exact ih2 _ _ _ _ _ _ _ _
   | exact ih3 _ _ _ _ _ _ _ _ _ _
   | exact ih4 _ _ _ _ _ _ _ _ _ _
   | exact impl_hasTicket.mono _ _
   | exact LeO.none _
   | refine LeO.ite ?_ ?_
   | refine LeO.bind ?_ (fun _=>?_)
  ·intro y0 y1 y2 y3 y4 y5 y6 y7 y8 y9
   unfold impl_LogOk.j3
   repeat' first
   | (with_reducible exact ih0 _ _ _)
   | (with_reducible exact ih1 _ _ _ _ _ _ _ _)
   | (with_reducible exact ih2 _ _ _ _ _ _ _ _)
   | (with_reducible exact ih3 _ _ _ _ _ _ _ _ _ _)
   | (with_reducible exact ih4 _ _ _ _ _ _ _ _ _ _)
   | (with_reducible exact impl_hasTicket.mono _ _)
   | (with_reducible exact LeO.refl _)
   | (with_reducible exact LeO.none _)
   | (with_reducible refine LeO.ite ?_ ?_)
   | (with_reducible refine LeO.bind ?_ (fun _=>?_))
   | exact ih0 _ _ _
   | exact ih1 _ _ _ _ _ _ _ _
   | exact ih2 _ _ _ _ _ _ _ _
   | exact ih3 _ _ _ _ _ _ _ _ _ _
   | exact ih4 _ _ _ _ _ _ _ _ _ _
   | exact impl_hasTicket.mono _ _
   | exact LeO.none _
   | refine LeO.ite ?_ ?_
   | refine LeO.bind ?_ (fun _=>?_)
  ·intro y0 y1 y2 y3 y4 y5 y6 y7 y8 y9
   unfold impl_LogOk.j4
   repeat' first
   | (with_reducible exact ih0 _ _ _)
   | (with_reducible exact ih1 _ _ _ _ _ _ _ _)
   | (with_reducible exact ih2 _ _ _ _ _ _ _ _)
   | (with_reducible exact ih3 _ _ _ _ _ _ _ _ _ _)
   | (with_reducible exact ih4 _ _ _ _ _ _ _ _ _ _)
   | (with_reducible exact impl_hasTicket.mono _ _)
   | (with_reducible exact LeO.refl _)
   | (with_reducible exact LeO.none _)
   | (with_reducible refine LeO.ite ?_ ?_)
   | (with_reducible refine LeO.bind ?_ (fun _=>?_))
   | exact ih0 _ _ _
   | exact ih1 _ _ _ _ _ _ _ _
   | exact ih2 _ _ _ _ _ _ _ _
   | exact ih3 _ _ _ _ _ _ _ _ _ _
   | exact ih4 _ _ _ _ _ _ _ _ _ _
   | exact impl_hasTicket.mono _ _
   | exact LeO.none _
   | refine LeO.ite ?_ ?_
   | refine LeO.bind ?_ (fun _=>?_)
theorem impl_LogOk.mono:∀ a0 k,LeO (impl_LogOk.f k a0) (impl_LogOk.f (k + 1) a0):=by
 intro a0 k
 obtain ⟨ih0,ih1,ih2,ih3,ih4⟩:=impl_LogOk.mono_l k
 unfold impl_LogOk.f
 repeat' first
   | (with_reducible exact ih0 _ _ _)
   | (with_reducible exact ih1 _ _ _ _ _ _ _ _)
   | (with_reducible exact ih2 _ _ _ _ _ _ _ _)
   | (with_reducible exact ih3 _ _ _ _ _ _ _ _ _ _)
   | (with_reducible exact ih4 _ _ _ _ _ _ _ _ _ _)
   | (with_reducible exact impl_hasTicket.mono _ _)
   | (with_reducible exact LeO.refl _)
   | (with_reducible exact LeO.none _)
   | (with_reducible refine LeO.ite ?_ ?_)
   | (with_reducible refine LeO.bind ?_ (fun _=>?_))
   | exact ih0 _ _ _
   | exact ih1 _ _ _ _ _ _ _ _
   | exact ih2 _ _ _ _ _ _ _ _
   | exact ih3 _ _ _ _ _ _ _ _ _ _
   | exact ih4 _ _ _ _ _ _ _ _ _ _
   | exact impl_hasTicket.mono _ _
   | exact LeO.none _
   | refine LeO.ite ?_ ?_
   | refine LeO.bind ?_ (fun _=>?_)
set_option maxHeartbeats 8000000 in
set_option maxRecDepth 100000 in
theorem impl_LogOk.calls (k:Nat) (A0:Option Addr) (c0:Nat) (l0:List (S31)) (r:Bool) (w:World) (hr0:Kd.C k31 w A0 l0.length l0) (hc0:l0.length≤c0) (h:impl_LogOk.f k l0=some r) :
  Calls Try.prog 12 #[.slice A0 l0.length c0] w fun e w'=>e = .returned (.bool r)∧Below w.heap.size w w':=by
 have hu31:=Try.underlying31
 have HR0:=Aside0.mk hr0
 have HC0:=Aside0.mk hc0
 clear hr0 hc0
 have HB:=Aside0.mk (Below.refl w.heap.size w)
 have H:(if (l0.length:Int) > 2000 then (some false) else (impl_LogOk.l0 k l0 (l0.length:Int) 0))=some r:=h
 clear h
 by_cases c2:(l0.length:Int) > 2000
 ·rw [if_pos c2] at H
  have c2b0:decide (2000 < (l0.length:Int))=true:=decide_eq_true c2
  have c2b1:decide (2000 < l0.length)=true:=decide_eq_true (by omega)
  clear c2
  obtain rfl:=Option.some.inj H
  go_enter Try.func12,Try.ntmps12
  go_wp2
  go_ret
  exact ⟨er,bl⟩
 ·rw [if_neg c2] at H
  have c2b0:decide (2000 < (l0.length:Int))=false:=decide_eq_false c2
  have c2b1:decide (2000 < l0.length)=false:=decide_eq_false (by omega)
  clear c2
  have H':=Aside0.mk H
  clear H
  go_enter Try.func12,Try.ntmps12
  go_wp2
  go_loopg [14] k (fun kq v14 w'=>∃ (x14_1:Int),v14 = .int .i64 x14_1∧Aside0 (impl_LogOk.l0 kq l0 (l0.length:Int) x14_1=some r)∧Aside0 (kq≤k)∧Aside0 (Below w.heap.size w w'))
  case atStart=>exact ⟨(0),(by first|rfl|(simp;done)|(simp [*];done)),H',⟨Nat.le_refl _⟩,⟨bl⟩⟩
  case round =>
   clear H'
   try clear c1
   try clear c2
   try clear c2b0
   try clear c2b1
   try clear p2
   obtain ⟨x14_1,rfl,HA,HK1,HB⟩:=hrel
   cases gk with
   | zero=>exact absurd HA.out (by simp [impl_LogOk.l0])
   | succ k1 =>
    have H:=HA.out
    clear HA
    simp only [impl_LogOk.l0] at H
    by_cases c3:x14_1 < (l0.length:Int)
    ·rw [if_pos c3] at H
     have c3b0:decide (x14_1 < (l0.length:Int))=true:=decide_eq_true c3
     clear c3
     by_cases c4:0≤x14_1
     case neg =>
      rw [if_neg c4] at H
      exact absurd H (by simp)
     rw [if_pos c4] at H
     have c4b0:decide (0≤x14_1)=true:=decide_eq_true c4
     clear c4
     by_cases c5:x14_1 < (l0.length:Int)
     case neg =>
      rw [if_neg c5] at H
      exact absurd H (by simp)
     rw [if_pos c5] at H
     have c5b0:decide (x14_1 < (l0.length:Int))=true:=decide_eq_true c5
     clear c5
     replace H:=Option.bind_eq_some_iff.mp H
     obtain ⟨t141,A60,H⟩:=H
     have A6:=Aside0.mk A60
     clear A60
     have HC7:=Aside0.mk H
     clear H
     have p139:0≤(x14_1:Int):=od
     have q139:x14_1 < (l0.length:Int):=od
     obtain ⟨ad139,e139,hx139_0,hx139_1,hx139_2⟩:=at_T31 HR0.out x14_1 p139 q139
     cases e139
     replace hx139_0:=cl HB hx139_0
     replace hx139_1:=cl HB hx139_1
     replace hx139_2:=cl HB hx139_2
     replace p139:=eq_true p139
     replace q139:=eq_true q139
     go_upto_if 20 with (first|((with_reducible refine gate_dst (N:=4) rfl ?_);refine bx 4 #[.int .i64 0,.int .i64 0,.int .i64 0] 31 ?_;intro gb140 hg w8 hbox hb;have BK140:=Aside0.mk (hbox);have GW140:=Aside0.mk (bz hg:w.heap.size≤gb140);have GE140:=GW140;replace HB:=Aside0.mk (below_step bl hb);clear hb hbox hg;obtain ⟨hcz9_0,hcz9_1,hcz9_2,hfz9_0,hfz9_1,hfz9_2⟩:=ck3 BK140.out)|((with_reducible refine gate_callee (f:=18) rfl ?_);refine gl (some 20) Try.func18 #[.int .i64 ((rd_T31 l0 x14_1).f0)] ?_;(with_reducible refine (impl_hasTicket.calls k1 ((rd_T31 l0 x14_1).f0) t141 _ A6.out).mono ?_);rintro e w10 ⟨rfl,hb⟩;refine ⟨_,rfl,?_⟩;replace BK140:=Aside0.mk (blk_below (g:=gb140) (o:=.cells #[.int .i64 ((rd_T31 l0 x14_1).f0),.int .i64 ((rd_T31 l0 x14_1).f1),.int .i64 ((rd_T31 l0 x14_1).f2)] 31 (0,0)) (by (with_reducible repeat (first|refine blk_drewN ?_ _|refine blk_drew ?_|refine blk_alloc ?_ _));refine blk_put (cs:=#[.int .i64 ((rd_T31 l0 x14_1).f0),.int .i64 ((rd_T31 l0 x14_1).f1),.int .i64 0]) ?_ 2 _ rfl;(with_reducible repeat (first|refine blk_drewN ?_ _|refine blk_drew ?_|refine blk_alloc ?_ _));refine blk_put (cs:=#[.int .i64 ((rd_T31 l0 x14_1).f0),.int .i64 0,.int .i64 0]) ?_ 1 _ rfl;(with_reducible repeat (first|refine blk_drewN ?_ _|refine blk_drew ?_|refine blk_alloc ?_ _));refine blk_put (cs:=#[.int .i64 0,.int .i64 0,.int .i64 0]) ?_ 0 _ rfl;(with_reducible repeat (first|refine blk_drewN ?_ _|refine blk_drew ?_|refine blk_alloc ?_ _));exact BK140.out) hb);replace HB:=Aside0.mk (below_step bl hb);(try clear hb);(try clear hb2);(try clear hk);(try clear hi)))
     (try simp only [Act.put,List.setIfInBounds_toArray,List.set_cons_zero,List.set_cons_succ])
     go_cut [5,6] (fun v5 v6 wc=>∃ (kq:Nat) (x5_6:Int) (x6_6:Int),v5 = .int .i64 x5_6∧v6 = .int .i64 x6_6∧Aside0 (impl_LogOk.j1 kq x5_6 x6_6 l0 (l0.length:Int) x14_1 ((rd_T31 l0 x14_1).f0) ((rd_T31 l0 x14_1).f1) ((rd_T31 l0 x14_1).f2)=some r)∧Aside0 (kq≤k1)∧Aside0 (wc.heap[gb140]? = some (.cells #[.int .i64 ((rd_T31 l0 x14_1).f0),.int .i64 ((rd_T31 l0 x14_1).f1),.int .i64 ((rd_T31 l0 x14_1).f2)] 31 (0,0)))∧Aside0 (Below w.heap.size w wc))
     case first =>
      have H:=HC7.out
      clear HC7
      by_cases c11:t141=true
      ·subst c11
       rw [if_pos rfl] at H
       have H':=Aside0.mk H
       clear H
       go_wp2
       go_meet
       case rel=>exact ⟨_,(1),(1000000000),(by first|rfl|(simp;done)|(simp [*];done)),(by first|rfl|(simp;done)|(simp [*];done)),H',⟨by have:=HK1.out;first|omega|exact Nat.le_refl _⟩,⟨bk BK140⟩,⟨bl⟩⟩
      ·replace c11:=Bool.eq_false_iff.mpr c11
       subst c11
       rw [if_neg nft] at H
       have H':=Aside0.mk H
       clear H
       go_wp2
       go_meet
       case rel=>exact ⟨_,(0),(0),(by first|rfl|(simp;done)|(simp [*];done)),(by first|rfl|(simp;done)|(simp [*];done)),H',⟨by have:=HK1.out;first|omega|exact Nat.le_refl _⟩,⟨bk BK140⟩,⟨bl⟩⟩
     case rest =>
      clear HC7
      try clear c1
      try clear p1
      try clear q1
      try clear hx1
      try clear c2
      try clear c2b0
      try clear c2b1
      try clear p2
      try clear c3
      try clear c3b0
      try clear c4
      try clear c4b0
      try clear c5
      try clear c5b0
      try clear c11
      try clear hcz9_0
      try clear hcz9_1
      try clear hcz9_2
      try clear hfz9_0
      try clear hfz9_1
      try clear hfz9_2
      try clear hx139_0
      try clear hx139_1
      try clear hx139_2
      try clear p139
      try clear p2
      try clear q139
      obtain ⟨kq,x5_6,x6_6,rfl,rfl,HA,HJ6,BK140,HB⟩:=hcut
      cases kq with
      | zero=>exact absurd HA.out (by simp [impl_LogOk.j1])
      | succ kj6 =>
       have H:=HA.out
       clear HA
       simp only [impl_LogOk.j1] at H
       have HC12:=Aside0.mk H
       clear H
       obtain ⟨hcz13_0,hcz13_1,hcz13_2,hfz13_0,hfz13_1,hfz13_2⟩:=ck3 BK140.out
       go_upto_if 23 with (fail)
       go_cut [6] (fun v6 wc=>∃ (kq:Nat) (x6_11:Int),v6 = .int .i64 x6_11∧Aside0 (impl_LogOk.j2 kq x5_6 x6_11 l0 (l0.length:Int) x14_1 ((rd_T31 l0 x14_1).f0) ((rd_T31 l0 x14_1).f1) ((rd_T31 l0 x14_1).f2)=some r)∧Aside0 (kq≤kj6)∧Aside0 (wc.heap[gb140]? = some (.cells #[.int .i64 ((rd_T31 l0 x14_1).f0),.int .i64 ((rd_T31 l0 x14_1).f1),.int .i64 ((rd_T31 l0 x14_1).f2)] 31 (0,0)))∧Aside0 (Below w.heap.size w wc))
       case first =>
        have H:=HC12.out
        clear HC12
        by_cases c14:((rd_T31 l0 x14_1).f0)=5
        ·rw [if_pos c14] at H
         have c14b0:(((rd_T31 l0 x14_1).f0) == 5)=true:=beq_iff_eq.mpr c14
         have c14b1:(((rd_T31 l0 x14_1).f0) != 5)=false:=bne_eq_false_iff_eq.mpr c14
         clear c14
         (first|rw [c14b0]|(simp only [i64_w,i32_w];rw [c14b0])|skip)
         have H':=Aside0.mk H
         clear H
         go_wp2
         go_meet
         case rel=>exact ⟨_,(1000000000),(by first|rfl|(simp;done)|(simp [*];done)),H',⟨by have:=HK1.out;have:=HJ6.out;first|omega|exact Nat.le_refl _⟩,⟨bk BK140⟩,⟨bl⟩⟩
        ·rw [if_neg c14] at H
         have c14b0:(((rd_T31 l0 x14_1).f0) == 5)=false:=beq_eq_false_iff_ne.mpr c14
         have c14b1:(((rd_T31 l0 x14_1).f0) != 5)=true:=bne_iff_ne.mpr c14
         (first|rw [c14b0]|(simp only [i64_w,i32_w];rw [c14b0])|skip)
         have H':=Aside0.mk H
         clear H
         go_wp2
         go_meet
         case rel=>exact ⟨_,(x6_6),(by first|rfl|(simp;done)|(simp [*];done)),H',⟨by have:=HK1.out;have:=HJ6.out;first|omega|exact Nat.le_refl _⟩,⟨bk BK140⟩,⟨bl⟩⟩
       case rest =>
        clear HC12
        try clear c1
        try clear p1
        try clear q1
        try clear hx1
        try clear c2
        try clear c2b0
        try clear c2b1
        try clear p2
        try clear c3
        try clear c3b0
        try clear c4
        try clear c4b0
        try clear c5
        try clear c5b0
        try clear c11
        try clear c12
        try clear p13
        try clear q13
        try clear hx13
        try clear c14
        try clear c14b0
        try clear c14b1
        try clear hcz13_0
        try clear hcz13_1
        try clear hcz13_2
        try clear hcz9_0
        try clear hcz9_1
        try clear hcz9_2
        try clear hfz13_0
        try clear hfz13_1
        try clear hfz13_2
        try clear hfz9_0
        try clear hfz9_1
        try clear hfz9_2
        try clear hx139_0
        try clear hx139_1
        try clear hx139_2
        try clear p1
        try clear p139
        try clear p2
        try clear q1
        try clear q139
        obtain ⟨kq,x6_11,rfl,HA,HJ11,BK140,HB⟩:=hcut
        cases kq with
        | zero=>exact absurd HA.out (by simp [impl_LogOk.j2])
        | succ kj11 =>
         have H:=HA.out
         clear HA
         simp only [impl_LogOk.j2] at H
         replace H:=Option.bind_eq_some_iff.mp H
         obtain ⟨t142,A150,H⟩:=H
         have A15:=Aside0.mk A150
         clear A150
         have HC16:=Aside0.mk H
         clear H
         obtain ⟨hcz17_0,hcz17_1,hcz17_2,hfz17_0,hfz17_1,hfz17_2⟩:=ck3 BK140.out
         go_upto_if 26 with (first|((with_reducible refine gate_callee (f:=19) rfl ?_);refine gl (some 26) Try.func19 #[.int .i64 ((rd_T31 l0 x14_1).f0)] ?_;(with_reducible refine (impl_hasConn.calls ((rd_T31 l0 x14_1).f0) t142 _ A15.out).mono ?_);rintro e w' ⟨rfl,⟨nd,rfl⟩⟩;refine ⟨_,rfl,?_⟩))
         (try simp only [Act.put,List.setIfInBounds_toArray,List.set_cons_zero,List.set_cons_succ])
         go_cut [7,8] (fun v7 v8 wc=>∃ (kq:Nat) (x7_15:Int) (x8_15:Int),v7 = .int .i64 x7_15∧v8 = .int .i64 x8_15∧Aside0 (impl_LogOk.j3 kq x5_6 x6_11 x7_15 x8_15 l0 (l0.length:Int) x14_1 ((rd_T31 l0 x14_1).f0) ((rd_T31 l0 x14_1).f1) ((rd_T31 l0 x14_1).f2)=some r)∧Aside0 (kq≤kj11)∧Aside0 (wc.heap[gb140]? = some (.cells #[.int .i64 ((rd_T31 l0 x14_1).f0),.int .i64 ((rd_T31 l0 x14_1).f1),.int .i64 ((rd_T31 l0 x14_1).f2)] 31 (0,0)))∧Aside0 (Below w.heap.size w wc))
         case first =>
          have H:=HC16.out
          clear HC16
          by_cases c18:t142=true
          ·subst c18
           rw [if_pos rfl] at H
           have H':=Aside0.mk H
           clear H
           go_wp2
           go_meet
           case rel=>exact ⟨_,(1),(1000000000),(by first|rfl|(simp;done)|(simp [*];done)),(by first|rfl|(simp;done)|(simp [*];done)),H',⟨by have:=HK1.out;have:=HJ6.out;have:=HJ11.out;first|omega|exact Nat.le_refl _⟩,⟨bk BK140⟩,⟨bl⟩⟩
          ·replace c18:=Bool.eq_false_iff.mpr c18
           subst c18
           rw [if_neg nft] at H
           have H':=Aside0.mk H
           clear H
           go_wp2
           go_meet
           case rel=>exact ⟨_,(0),(0),(by first|rfl|(simp;done)|(simp [*];done)),(by first|rfl|(simp;done)|(simp [*];done)),H',⟨by have:=HK1.out;have:=HJ6.out;have:=HJ11.out;first|omega|exact Nat.le_refl _⟩,⟨bk BK140⟩,⟨bl⟩⟩
         case rest =>
          clear HC16
          try clear c1
          try clear p1
          try clear q1
          try clear hx1
          try clear c2
          try clear c2b0
          try clear c2b1
          try clear p2
          try clear c3
          try clear c3b0
          try clear c4
          try clear c4b0
          try clear c5
          try clear c5b0
          try clear c11
          try clear c12
          try clear p13
          try clear q13
          try clear hx13
          try clear c14
          try clear c14b0
          try clear c14b1
          try clear c18
          try clear hcz13_0
          try clear hcz13_1
          try clear hcz13_2
          try clear hcz17_0
          try clear hcz17_1
          try clear hcz17_2
          try clear hcz9_0
          try clear hcz9_1
          try clear hcz9_2
          try clear hfz13_0
          try clear hfz13_1
          try clear hfz13_2
          try clear hfz17_0
          try clear hfz17_1
          try clear hfz17_2
          try clear hfz9_0
          try clear hfz9_1
          try clear hfz9_2
          try clear hx139_0
          try clear hx139_1
          try clear hx139_2
          try clear p1
          try clear p13
          try clear p139
          try clear p2
          try clear q1
          try clear q13
          try clear q139
          obtain ⟨kq,x7_15,x8_15,rfl,rfl,HA,HJ15,BK140,HB⟩:=hcut
          cases kq with
          | zero=>exact absurd HA.out (by simp [impl_LogOk.j3])
          | succ kj15 =>
           have H:=HA.out
           clear HA
           simp only [impl_LogOk.j3] at H
           have HC19:=Aside0.mk H
           clear H
           obtain ⟨hcz20_0,hcz20_1,hcz20_2,hfz20_0,hfz20_1,hfz20_2⟩:=ck3 BK140.out
           go_upto_if 29 with (fail)
           go_cut [8] (fun v8 wc=>∃ (kq:Nat) (x8_18:Int),v8 = .int .i64 x8_18∧Aside0 (impl_LogOk.j4 kq x5_6 x6_11 x7_15 x8_18 l0 (l0.length:Int) x14_1 ((rd_T31 l0 x14_1).f0) ((rd_T31 l0 x14_1).f1) ((rd_T31 l0 x14_1).f2)=some r)∧Aside0 (kq≤kj15)∧Aside0 (wc.heap[gb140]? = some (.cells #[.int .i64 ((rd_T31 l0 x14_1).f0),.int .i64 ((rd_T31 l0 x14_1).f1),.int .i64 ((rd_T31 l0 x14_1).f2)] 31 (0,0)))∧Aside0 (Below w.heap.size w wc))
           case first =>
            have H:=HC19.out
            clear HC19
            by_cases c21:((rd_T31 l0 x14_1).f0)=11
            ·rw [if_pos c21] at H
             have c21b0:(((rd_T31 l0 x14_1).f0) == 11)=true:=beq_iff_eq.mpr c21
             have c21b1:(((rd_T31 l0 x14_1).f0) != 11)=false:=bne_eq_false_iff_eq.mpr c21
             clear c21
             (first|rw [c21b0]|(simp only [i64_w,i32_w];rw [c21b0])|skip)
             have H':=Aside0.mk H
             clear H
             go_wp2
             go_meet
             case rel=>exact ⟨_,(3),(by first|rfl|(simp;done)|(simp [*];done)),H',⟨by have:=HK1.out;have:=HJ6.out;have:=HJ11.out;have:=HJ15.out;first|omega|exact Nat.le_refl _⟩,⟨bk BK140⟩,⟨bl⟩⟩
            ·rw [if_neg c21] at H
             have c21b0:(((rd_T31 l0 x14_1).f0) == 11)=false:=beq_eq_false_iff_ne.mpr c21
             have c21b1:(((rd_T31 l0 x14_1).f0) != 11)=true:=bne_iff_ne.mpr c21
             (first|rw [c21b0]|(simp only [i64_w,i32_w];rw [c21b0])|skip)
             have H':=Aside0.mk H
             clear H
             go_wp2
             go_meet
             case rel=>exact ⟨_,(x8_15),(by first|rfl|(simp;done)|(simp [*];done)),H',⟨by have:=HK1.out;have:=HJ6.out;have:=HJ11.out;have:=HJ15.out;first|omega|exact Nat.le_refl _⟩,⟨bk BK140⟩,⟨bl⟩⟩
           case rest =>
            clear HC19
            try clear c1
            try clear p1
            try clear q1
            try clear hx1
            try clear c2
            try clear c2b0
            try clear c2b1
            try clear p2
            try clear c3
            try clear c3b0
            try clear c4
            try clear c4b0
            try clear c5
            try clear c5b0
            try clear c11
            try clear c12
            try clear p13
            try clear q13
            try clear hx13
            try clear c14
            try clear c14b0
            try clear c14b1
            try clear c18
            try clear c19
            try clear c21
            try clear c21b0
            try clear c21b1
            try clear hcz13_0
            try clear hcz13_1
            try clear hcz13_2
            try clear hcz17_0
            try clear hcz17_1
            try clear hcz17_2
            try clear hcz20_0
            try clear hcz20_1
            try clear hcz20_2
            try clear hcz9_0
            try clear hcz9_1
            try clear hcz9_2
            try clear hfz13_0
            try clear hfz13_1
            try clear hfz13_2
            try clear hfz17_0
            try clear hfz17_1
            try clear hfz17_2
            try clear hfz20_0
            try clear hfz20_1
            try clear hfz20_2
            try clear hfz9_0
            try clear hfz9_1
            try clear hfz9_2
            try clear hx139_0
            try clear hx139_1
            try clear hx139_2
            try clear p1
            try clear p13
            try clear p139
            try clear p2
            try clear q1
            try clear q13
            try clear q139
            obtain ⟨kq,x8_18,rfl,HA,HJ18,BK140,HB⟩:=hcut
            cases kq with
            | zero=>exact absurd HA.out (by simp [impl_LogOk.j4])
            | succ kj18 =>
             have H:=HA.out
             clear HA
             simp only [impl_LogOk.j4] at H
             replace H:=Option.bind_eq_some_iff.mp H
             obtain ⟨t143,A220,H⟩:=H
             have A22:=Aside0.mk A220
             clear A220
             by_cases c23:t143=true
             ·subst c23
              rw [if_pos rfl] at H
              replace H:=Option.bind_eq_some_iff.mp H
              obtain ⟨t144,A240,H⟩:=H
              have A24:=Aside0.mk A240
              clear A240
              by_cases c25:t144=true
              ·subst c25
               rw [if_pos rfl] at H
               replace H:=Option.bind_eq_some_iff.mp H
               obtain ⟨t145,A260,H⟩:=H
               have A26:=Aside0.mk A260
               clear A260
               by_cases c27:t145=true
               ·subst c27
                rw [if_pos rfl] at H
                have H':=Aside0.mk H
                clear H
                obtain ⟨hcz28_0,hcz28_1,hcz28_2,hfz28_0,hfz28_1,hfz28_2⟩:=ck3 BK140.out
                go_wp2_with (first|((with_reducible refine gate_callee (f:=20) rfl ?_);refine gl (some 32) Try.func20 #[.int .i64 ((rd_T31 l0 x14_1).f0),.int .i64 0,.int .i64 11] ?_;(with_reducible refine (impl_in.calls ((rd_T31 l0 x14_1).f0) 0 11 true _ A22.out).mono ?_);rintro e w' ⟨rfl,⟨nd,rfl⟩⟩;refine ⟨_,rfl,?_⟩)|(go_at_call 20;(with_reducible refine (impl_in.calls ((rd_T31 l0 x14_1).f1) x5_6 x6_11 true _ A24.out).mono ?_);rintro e w' ⟨rfl,⟨nd,rfl⟩⟩)|(go_at_call 20;(with_reducible refine (impl_in.calls ((rd_T31 l0 x14_1).f2) x7_15 x8_18 true _ A26.out).mono ?_);rintro e w' ⟨rfl,⟨nd,rfl⟩⟩))
                go_roundg kj18
                case measure=>have:=HK1.out;have:=HJ6.out;have:=HJ11.out;have:=HJ15.out;have:=HJ18.out;omega
                case rel=>exact ⟨(wrap64 (x14_1 + 1)),(by first|rfl|(simp;done)|(simp [*];done)),H',⟨by have:=HK1.out;have:=HJ6.out;have:=HJ11.out;have:=HJ15.out;have:=HJ18.out;omega⟩,⟨bl⟩⟩
               ·replace c27:=Bool.eq_false_iff.mpr c27
                subst c27
                rw [if_neg nft] at H
                obtain rfl:=Option.some.inj H
                obtain ⟨hcz29_0,hcz29_1,hcz29_2,hfz29_0,hfz29_1,hfz29_2⟩:=ck3 BK140.out
                go_wp2_with (first|((with_reducible refine gate_callee (f:=20) rfl ?_);refine gl (some 32) Try.func20 #[.int .i64 ((rd_T31 l0 x14_1).f0),.int .i64 0,.int .i64 11] ?_;(with_reducible refine (impl_in.calls ((rd_T31 l0 x14_1).f0) 0 11 true _ A22.out).mono ?_);rintro e w' ⟨rfl,⟨nd,rfl⟩⟩;refine ⟨_,rfl,?_⟩)|(go_at_call 20;(with_reducible refine (impl_in.calls ((rd_T31 l0 x14_1).f1) x5_6 x6_11 true _ A24.out).mono ?_);rintro e w' ⟨rfl,⟨nd,rfl⟩⟩)|(go_at_call 20;(with_reducible refine (impl_in.calls ((rd_T31 l0 x14_1).f2) x7_15 x8_18 false _ A26.out).mono ?_);rintro e w' ⟨rfl,⟨nd,rfl⟩⟩))
                go_ret
                exact ⟨er,bl⟩
              ·replace c25:=Bool.eq_false_iff.mpr c25
               subst c25
               rw [if_neg nft] at H
               obtain rfl:=Option.some.inj H
               obtain ⟨hcz30_0,hcz30_1,hcz30_2,hfz30_0,hfz30_1,hfz30_2⟩:=ck3 BK140.out
               go_wp2_with (first|((with_reducible refine gate_callee (f:=20) rfl ?_);refine gl (some 32) Try.func20 #[.int .i64 ((rd_T31 l0 x14_1).f0),.int .i64 0,.int .i64 11] ?_;(with_reducible refine (impl_in.calls ((rd_T31 l0 x14_1).f0) 0 11 true _ A22.out).mono ?_);rintro e w' ⟨rfl,⟨nd,rfl⟩⟩;refine ⟨_,rfl,?_⟩)|(go_at_call 20;(with_reducible refine (impl_in.calls ((rd_T31 l0 x14_1).f1) x5_6 x6_11 false _ A24.out).mono ?_);rintro e w' ⟨rfl,⟨nd,rfl⟩⟩))
               go_ret
               exact ⟨er,bl⟩
             ·replace c23:=Bool.eq_false_iff.mpr c23
              subst c23
              rw [if_neg nft] at H
              obtain rfl:=Option.some.inj H
              obtain ⟨hcz31_0,hcz31_1,hcz31_2,hfz31_0,hfz31_1,hfz31_2⟩:=ck3 BK140.out
              go_wp2_with (first|((with_reducible refine gate_callee (f:=20) rfl ?_);refine gl (some 32) Try.func20 #[.int .i64 ((rd_T31 l0 x14_1).f0),.int .i64 0,.int .i64 11] ?_;(with_reducible refine (impl_in.calls ((rd_T31 l0 x14_1).f0) 0 11 false _ A22.out).mono ?_);rintro e w' ⟨rfl,⟨nd,rfl⟩⟩;refine ⟨_,rfl,?_⟩))
              go_ret
              exact ⟨er,bl⟩
    ·rw [if_neg c3] at H
     have c3b0:decide (x14_1 < (l0.length:Int))=false:=decide_eq_false c3
     clear c3
     obtain rfl:=Option.some.inj H
     go_wp2
     go_ret
     exact ⟨er,bl⟩

/-! ### impl_isAnswer: function 13 -/
def impl_isAnswer.f (k:Nat) (a0:Int):Option (Bool):=(slices_Contains_int_int.f k (([3,7,8,9]:List Int)) a0).bind fun t149=>(some t149)
theorem impl_isAnswer.mono:∀ a0 k,LeO (impl_isAnswer.f k a0) (impl_isAnswer.f (k + 1) a0):=by
 intro a0 k
 unfold impl_isAnswer.f
 repeat' first
   | (with_reducible exact slices_Contains_int_int.mono _ _ _)
   | (with_reducible exact LeO.refl _)
   | (with_reducible exact LeO.none _)
   | (with_reducible refine LeO.ite ?_ ?_)
   | (with_reducible refine LeO.bind ?_ (fun _=>?_))
   | exact slices_Contains_int_int.mono _ _ _
   | exact LeO.none _
   | refine LeO.ite ?_ ?_
   | refine LeO.bind ?_ (fun _=>?_)
set_option maxHeartbeats 8000000 in
set_option maxRecDepth 100000 in
theorem impl_isAnswer.calls (k:Nat) (a0:Int) (r:Bool) (w:World) (h:impl_isAnswer.f k a0=some r) :
  Calls Try.prog 13 #[.int .i64 a0] w fun e w'=>e = .returned (.bool r)∧Below w.heap.size w w':=by
 have HB:=Aside0.mk (Below.refl w.heap.size w)
 have H:((slices_Contains_int_int.f k (([3,7,8,9]:List Int)) a0).bind fun t149=>(some t149))=some r:=h
 clear h
 obtain ⟨y146,hy146⟩:∃ y_:List Int,y_=(([3,7,8,9]:List Int)):=⟨_,rfl⟩
 replace H:((slices_Contains_int_int.f k y146 a0).bind fun t149=>(some t149))=some r:=by first|(rw [hy146];with_reducible exact H)|(have H2_:=(Option.bind_some _ _).symm.trans H;rw [hy146];with_reducible exact H2_)|(have H2_:=(Option.bind_some _ _).symm.trans H;with_reducible exact H2_)|with_reducible exact H|(rw [hy146];exact H)|exact H
 have Ny146:=Aside0.mk hy146
 clear hy146
 replace H:=Option.bind_eq_some_iff.mp H
 obtain ⟨t149,A20,H⟩:=H
 have A2:=Aside0.mk A20
 clear A20
 obtain rfl:=Option.some.inj H
 go_enter Try.func13,Try.ntmps13
 go_wp2_with (first|((with_reducible refine gate_dst (N:=3) rfl ?_);refine Kd.R_lit (Kd.int .i64) _ 3 ?hg (N:=3) ?hd (xs:=([3,7,8,9]:List Int)) (inner:=[.int .i64 3,.int .i64 7,.int .i64 8,.int .i64 9]) (ok:=fun _=>True) (okp:=fun _=>True) ?hr ?hp (fun _ hk=>hk) trivial (Below.refl _ _) (Nat.le_refl _) (by simp) ?_;(case hd=>rfl);(case hg=>rfl);(case hr=>first|(go_simp;done)|(go_simp;rfl));(case hp=>exact (Reps.one (show Kd.M (Kd.int .i64) _ _ _ 3 [.int .i64 3] from rfl) (Reps.one (show Kd.M (Kd.int .i64) _ _ _ 7 [.int .i64 7] from rfl) (Reps.one (show Kd.M (Kd.int .i64) _ _ _ 8 [.int .i64 8] from rfl) (Reps.one (show Kd.M (Kd.int .i64) _ _ _ 9 [.int .i64 9] from rfl) (Reps.none _ _))))));intro v147 w3 ho4 hb hg_ hnew_;clear hg_ hnew_;(first|rw [← Ny146.out] at ho4|(simp only [Int.reduceToNat] at ho4;rw [← Ny146.out] at ho4));have HO148:=Aside0.mk (Kd.R_lower ho4 (below_size bl));replace HB:=Aside0.mk (below_step bl hb);clear hb ho4;obtain ⟨Ao5,co5,eo5⟩:=Kd.R_slice HO148.out;subst eo5)|((with_reducible refine gate_callee (f:=21) rfl ?_);refine gl (some 5) Try.func21 #[.slice Ao5 y146.length co5,.int .i64 a0] ?_;(with_reducible refine (slices_Contains_int_int.calls k _ _ y146 a0 t149 _ ?side1 ?side2 A2.out).mono ?_);(case side1=>repeat (first|exact (Kd.R_reads' HO148.out).2.2|(with_reducible refine Kd.C_alloc ?_ _)|(with_reducible refine Kd.C_drewN ?_ _)|(with_reducible refine Kd.C_drew ?_)));(case side2=>exact (Kd.R_reads' HO148.out).2.1);rintro e w' ⟨rfl,⟨nd,rfl⟩⟩;refine ⟨_,rfl,?_⟩))
 go_ret
 exact ⟨er,bl⟩

/-! ### impl_AnsweredOnce: function 7 -/
def impl_AnsweredOnce.run (k:Nat):List S31→List Int→Option Bool
 | [],_=>some true
 | e :: l,m=>(impl_isAnswer.f k e.f0).bind fun t=>(if t=true then (if lookB m e.f1=true then some false else impl_AnsweredOnce.run k l (e.f1 :: m)) else impl_AnsweredOnce.run k l m)
theorem impl_AnsweredOnce.mono_run:∀ k l m,LeO (impl_AnsweredOnce.run k l m) (impl_AnsweredOnce.run (k + 1) l m)
 | _,[],_=>LeO.refl _
 | k,e :: l,m=>by
  simp only [impl_AnsweredOnce.run]
  exact LeO.bind (impl_isAnswer.mono _ _) (fun _=>LeO.ite (LeO.ite (LeO.refl _) (impl_AnsweredOnce.mono_run k l _)) (impl_AnsweredOnce.mono_run k l _))
def impl_AnsweredOnce.rng (e:S31):Bool:=decide (0≤e.f1∧e.f1≤1000000000)
def impl_AnsweredOnce.fit (l0:List (S31)):Bool:=l0.all impl_AnsweredOnce.rng && decide (l0.length≤2000)
def impl_AnsweredOnce.f (k:Nat) (l0:List (S31)):Option (Bool):=(impl_LogOk.f k l0).bind fun t=>(if t=true then (if impl_AnsweredOnce.fit l0=true then impl_AnsweredOnce.run k l0 [] else none) else some false)
theorem impl_AnsweredOnce.mono:∀ a0 k,LeO (impl_AnsweredOnce.f k a0) (impl_AnsweredOnce.f (k + 1) a0):=by
 intro a0 k
 unfold impl_AnsweredOnce.f
 exact LeO.bind (impl_LogOk.mono _ _) (fun _=>LeO.ite (LeO.ite (impl_AnsweredOnce.mono_run _ _ _) (LeO.refl _)) (LeO.refl _))
theorem impl_AnsweredOnce.law:Go.Maps.Keyed Try.prog 3:=Go.Maps.int_keyed Try.underlying3
theorem impl_AnsweredOnce.zero (w:World):(zeroValue 4).run Try.prog w = .ok (.bool false) w:=by kernel_rfl
theorem impl_AnsweredOnce.wf {x:Int} (h0:0≤x) (h1:x≤1000000000):(Lit.int .i64 x).wf=true:=by
 simp only [Lit.wf,IntKind.min,IntKind.max,IntKind.signed,IntKind.bits,Bool.and_eq_true,decide_eq_true_eq]
 simp
 omega
set_option maxHeartbeats 8000000 in
set_option maxRecDepth 100000 in
theorem impl_AnsweredOnce.calls (k:Nat) (A0:Option Addr) (c0:Nat) (l0:List (S31)) (r:Bool) (w:World) (hr0:Kd.C k31 w A0 l0.length l0) (hc0:l0.length≤c0) (h:impl_AnsweredOnce.f k l0=some r) :
  Calls Try.prog 7 #[.slice A0 l0.length c0] w fun e w'=>e = .returned (.bool r)∧Below w.heap.size w w':=by
 have hu1:=Try.underlying31
 have hmm:=@run_makeMap Try.prog
 unfold impl_AnsweredOnce.f at h
 obtain ⟨t,hl,h⟩:=Option.bind_eq_some_iff.mp h
 have HR0:=Aside0.mk hr0
 have HC0:=Aside0.mk hc0
 have A1:=Aside0.mk hl
 have HB:=Aside0.mk (Below.refl w.heap.size w)
 clear hr0 hc0 hl
 cases t with
 | false =>
  simp only [Bool.false_eq_true,if_false] at h
  obtain rfl:=Option.some.inj h
  clear h
  go_enter Try.func7,Try.ntmps7
  go_wp2_with (first|((with_reducible refine gate_callee (f:=12) rfl ?_);refine gl _ Try.func12 #[.slice A0 l0.length c0] ?_;(with_reducible refine (impl_LogOk.calls k A0 c0 l0 false _ ?s1 ?s2 A1.out).mono ?_);(case s1=>exact kc HR0);(case s2=>exact HC0.out);rintro e w1 ⟨rfl,hb⟩;refine ⟨_,rfl,?_⟩;replace HB:=Aside0.mk (below_step bl hb);clear hb))
  go_ret
  exact ⟨rfl,HB.out⟩
 | true =>
  simp only [if_true] at h
  by_cases hall:impl_AnsweredOnce.fit l0=true
  ·rw [if_pos hall] at h
   have HN:=Aside0.mk h
   obtain ⟨hall1,hall2⟩:l0.all impl_AnsweredOnce.rng=true∧l0.length≤2000:=by simpa [impl_AnsweredOnce.fit] using hall
   have HA:=Aside0.mk hall1
   have HL:=Aside0.mk hall2
   clear h hall hall1 hall2
   go_enter Try.func7,Try.ntmps7
   go_wp2_with (first|((with_reducible refine gate_callee (f:=12) rfl ?_);refine gl _ Try.func12 #[.slice A0 l0.length c0] ?_;(with_reducible refine (impl_LogOk.calls k A0 c0 l0 true _ ?s1 ?s2 A1.out).mono ?_);(case s1=>exact kc HR0);(case s2=>exact HC0.out);rintro e w1 ⟨rfl,hb⟩;refine ⟨_,rfl,?_⟩;replace HB:=Aside0.mk (below_step bl hb);clear hb))
   obtain ⟨B,hB⟩:∃ B,B=w1.heap.size:=⟨_,rfl⟩
   have own0:(w1.alloc (.map #[] 0)).ownsMap Try.prog 3 (plainElem (H:=Unit) Try.prog 4) B 0 (Db []):=by rw [hB];exact World.ownsMap_made _ _ _ _
   have HG:Aside0 (w.heap.size≤B):=⟨by rw [hB];exact HB.out.size⟩
   have HB2:Aside0 (Below w.heap.size w (w1.alloc (.map #[] 0))):=⟨below_alloc HB.out _⟩
   have HO0:=Aside0.mk own0
   clear own0 HB
   rw [← hB]
   clear hB
   go_loopg [12] l0.length (fun gg v12 wr=>∃ (x:Int) (m:List Int),v12 = .int .i64 x∧Aside0 (0≤x∧x≤l0.length∧l0.length - x.toNat≤gg)∧Aside0 (impl_AnsweredOnce.run k (l0.drop x.toNat) m=some r)∧Aside0 (wr.ownsMap Try.prog 3 (plainElem (H:=Unit) Try.prog 4) B x.toNat (Db m))∧Aside0 (Below w.heap.size w wr))
   case atStart=>exact ⟨0,[],rfl,⟨by omega,by omega,by simp⟩,HN,HO0,HB2⟩
   case round =>
    clear HN HO0 HB2
    obtain ⟨x,m,rfl,HX,HN,HO,HB⟩:=hrel
    by_cases c3:x < (l0.length:Int)
    ·have p1:0≤x:=HX.out.1
     have hlt:x.toNat < l0.length:=by omega
     have H:=HN.out
     rw [List.drop_eq_getElem_cons hlt] at H
     obtain ⟨ad,e,hx0,hx1,hx2⟩:=at_T31 HR0.out x p1 c3
     cases e
     have hrd:rd_T31 l0 x=l0[x.toNat]:=by unfold rd_T31;rw [List.getD_eq_getElem?_getD,List.getElem?_eq_getElem hlt];rfl
     rw [hrd] at hx0 hx1 hx2
     replace hx0:=cl HB hx0
     replace hx1:=cl HB hx1
     replace hx2:=cl HB hx2
     have hin:=List.all_eq_true.mp HA.out _ (List.getElem_mem hlt)
     clear hrd
     generalize l0[x.toNat]=ev at H hx0 hx1 hx2 hin
     obtain ⟨a0,a1,a2⟩:=ev
     simp only [impl_AnsweredOnce.rng,decide_eq_true_eq] at hin
     obtain ⟨i0,i1⟩:=hin
     dsimp only at hx0 hx1 hx2
     simp only [impl_AnsweredOnce.run] at H
     obtain ⟨t,ht,H⟩:=Option.bind_eq_some_iff.mp H
     have HW1:=Aside0.mk (impl_AnsweredOnce.wf i0 i1)
     have HP:Aside0 (0≤x∧x < l0.length∧l0.length - x.toNat≤gk):=⟨p1,c3,HX.out.2.2⟩
     have HW:Aside0 (wrap64 (x + 1)=x + 1):=⟨by have:=HL.out;unfold wrap64;omega⟩
     have HT:=Aside0.mk ht
     clear i0 i1 hlt HX HN ht
     replace p1:=eq_true p1
     replace c3:=eq_true c3
     cases t with
     | true =>
      simp only [if_true] at H
      cases hq:lookB m a1 with
      | true =>
       have HQ:=Aside0.mk hq
       rw [hq,if_pos rfl] at H
       clear hq
       obtain rfl:=Option.some.inj H
       clear H
       go_wp2_with (first|((with_reducible refine gate_dst (N:=5) rfl ?_);refine bx 5 #[.int .i64 0,.int .i64 0,.int .i64 0] 31 ?_;intro gb hg w2 hbox hb;have GE:=Aside0.mk (bz hg:w.heap.size≤gb);have NB:Aside0 (B≠gb):=⟨by rw [hg];exact Nat.ne_of_lt HO.out.lt⟩;replace HO:=Aside0.mk (own_below HO.out hb);replace HB:=Aside0.mk (below_step bl hb);have BK:=Aside0.mk hbox;clear hb hbox hg;obtain ⟨z0,z1,z2,q0,q1,q2⟩:=ck3 BK.out)|((with_reducible refine gate_store (t:=31) (p:=5) rfl ?_);refine sx 31 5 (((w2.setCell ⟨gb,0,none⟩ (.int .i64 a0)).setCell ⟨gb,1,none⟩ (.int .i64 a1)).setCell ⟨gb,2,none⟩ (.int .i64 a2)) ?_;intro w3 hw;replace HO:Aside0 (w3.ownsMap Try.prog 3 (plainElem (H:=Unit) Try.prog 4) B x.toNat (Db m)):=⟨by rw [hw];exact ((HO.out.setCell NB.out _).setCell NB.out _).setCell NB.out _⟩;replace BK:Aside0 (w3.heap[gb]? = some (.cells #[.int .i64 a0,.int .i64 a1,.int .i64 a2] 31 (0,0))):=⟨by rw [hw];exact blk_put (blk_put (blk_put BK.out 0 _ rfl) 1 _ rfl) 2 _ rfl⟩;replace HB:Aside0 (Below w.heap.size w w3):=⟨by rw [hw];exact below_set (below_set (below_set HB.out GE.out) GE.out) GE.out⟩;clear hw z0 z1 z2 q0 q1 q2;obtain ⟨z0,z1,z2,q0,q1,q2⟩:=ck3 BK.out)|((with_reducible refine gate_callee (f:=13) rfl ?_);refine gl _ Try.func13 #[.int .i64 a0] ?_;(with_reducible refine (impl_isAnswer.calls k a0 true _ HT.out).mono ?_);rintro e w4 ⟨rfl,hb⟩;refine ⟨_,rfl,?_⟩;replace HO:=Aside0.mk (own_below HO.out hb);replace BK:=Aside0.mk (blk_below (bk BK) hb);replace HB:=Aside0.mk (below_step bl hb);clear hb z0 z1 z2 q0 q1 q2;obtain ⟨z0,z1,z2,q0,q1,q2⟩:=ck3 BK.out)|(at_lookup;refine wpList_lookup_own_bool _ rfl _ _ 34 rfl 3 4 impl_AnsweredOnce.law Try.underlying34 Try.underlying4 (impl_AnsweredOnce.zero _) B _ _ rfl HO.out _ _ rfl (Go.Maps.keyOf_int_mk Try.underlying3 HW1.out) ?_;intro c hat;obtain rfl:=(Db_c hat).trans HQ.out;clear hat))
       go_ret
       exact ⟨rfl,bl⟩
      | false =>
       have HQ:=Aside0.mk hq
       rw [hq,if_neg Bool.false_ne_true] at H
       clear hq
       have HN:=Aside0.mk H
       clear H
       go_wp2_with (first|((with_reducible refine gate_dst (N:=5) rfl ?_);refine bx 5 #[.int .i64 0,.int .i64 0,.int .i64 0] 31 ?_;intro gb hg w2 hbox hb;have GE:=Aside0.mk (bz hg:w.heap.size≤gb);have NB:Aside0 (B≠gb):=⟨by rw [hg];exact Nat.ne_of_lt HO.out.lt⟩;replace HO:=Aside0.mk (own_below HO.out hb);replace HB:=Aside0.mk (below_step bl hb);have BK:=Aside0.mk hbox;clear hb hbox hg;obtain ⟨z0,z1,z2,q0,q1,q2⟩:=ck3 BK.out)|((with_reducible refine gate_store (t:=31) (p:=5) rfl ?_);refine sx 31 5 (((w2.setCell ⟨gb,0,none⟩ (.int .i64 a0)).setCell ⟨gb,1,none⟩ (.int .i64 a1)).setCell ⟨gb,2,none⟩ (.int .i64 a2)) ?_;intro w3 hw;replace HO:Aside0 (w3.ownsMap Try.prog 3 (plainElem (H:=Unit) Try.prog 4) B x.toNat (Db m)):=⟨by rw [hw];exact ((HO.out.setCell NB.out _).setCell NB.out _).setCell NB.out _⟩;replace BK:Aside0 (w3.heap[gb]? = some (.cells #[.int .i64 a0,.int .i64 a1,.int .i64 a2] 31 (0,0))):=⟨by rw [hw];exact blk_put (blk_put (blk_put BK.out 0 _ rfl) 1 _ rfl) 2 _ rfl⟩;replace HB:Aside0 (Below w.heap.size w w3):=⟨by rw [hw];exact below_set (below_set (below_set HB.out GE.out) GE.out) GE.out⟩;clear hw z0 z1 z2 q0 q1 q2;obtain ⟨z0,z1,z2,q0,q1,q2⟩:=ck3 BK.out)|((with_reducible refine gate_callee (f:=13) rfl ?_);refine gl _ Try.func13 #[.int .i64 a0] ?_;(with_reducible refine (impl_isAnswer.calls k a0 true _ HT.out).mono ?_);rintro e w4 ⟨rfl,hb⟩;refine ⟨_,rfl,?_⟩;replace HO:=Aside0.mk (own_below HO.out hb);replace BK:=Aside0.mk (blk_below (bk BK) hb);replace HB:=Aside0.mk (below_step bl hb);clear hb z0 z1 z2 q0 q1 q2;obtain ⟨z0,z1,z2,q0,q1,q2⟩:=ck3 BK.out)|(at_lookup;refine wpList_lookup_own_bool _ rfl _ _ 34 rfl 3 4 impl_AnsweredOnce.law Try.underlying34 Try.underlying4 (impl_AnsweredOnce.zero _) B _ _ rfl HO.out _ _ rfl (Go.Maps.keyOf_int_mk Try.underlying3 HW1.out) ?_;intro c hat;obtain rfl:=(Db_c hat).trans HQ.out;clear hat)|(at_mapUpdate;refine wpList_mapUpdate_own _ rfl _ _ _ 34 rfl 3 4 impl_AnsweredOnce.law Try.underlying34 _ B _ _ rfl HO.out (by have:=HP.out;have:=HL.out;unfold maxLen;omega) _ _ _ rfl rfl (Go.Maps.keyOf_int_mk Try.underlying3 HW1.out) _ [] (plainElem_bool Try.underlying4 true) ?_;intro w5 hown1 hgrow1;replace HB:=Aside0.mk (Below.grown bl hgrow1 (below_size bl) (fun j hj=>by cases hj;exact HG.out));replace HO:=Aside0.mk hown1;clear hown1 hgrow1))
       go_roundg (l0.length - (x.toNat + 1))
       case measure=>have:=HP.out;omega
       case rel =>
        have e1:(wrap64 (x + 1)).toNat=x.toNat + 1:=by rw [HW.out];have:=HP.out;omega
        exact ⟨wrap64 (x + 1),a1 :: m,rfl,⟨by have:=HP.out;rw [HW.out];omega⟩,⟨by rw [e1];exact HN.out⟩,⟨by rw [e1];exact HO.out⟩,⟨bl⟩⟩
     | false =>
      simp only [Bool.false_eq_true,if_false] at H
      have HN:=Aside0.mk H
      clear H
      go_wp2_with (first|((with_reducible refine gate_dst (N:=5) rfl ?_);refine bx 5 #[.int .i64 0,.int .i64 0,.int .i64 0] 31 ?_;intro gb hg w2 hbox hb;have GE:=Aside0.mk (bz hg:w.heap.size≤gb);have NB:Aside0 (B≠gb):=⟨by rw [hg];exact Nat.ne_of_lt HO.out.lt⟩;replace HO:=Aside0.mk (own_below HO.out hb);replace HB:=Aside0.mk (below_step bl hb);have BK:=Aside0.mk hbox;clear hb hbox hg;obtain ⟨z0,z1,z2,q0,q1,q2⟩:=ck3 BK.out)|((with_reducible refine gate_store (t:=31) (p:=5) rfl ?_);refine sx 31 5 (((w2.setCell ⟨gb,0,none⟩ (.int .i64 a0)).setCell ⟨gb,1,none⟩ (.int .i64 a1)).setCell ⟨gb,2,none⟩ (.int .i64 a2)) ?_;intro w3 hw;replace HO:Aside0 (w3.ownsMap Try.prog 3 (plainElem (H:=Unit) Try.prog 4) B x.toNat (Db m)):=⟨by rw [hw];exact ((HO.out.setCell NB.out _).setCell NB.out _).setCell NB.out _⟩;replace BK:Aside0 (w3.heap[gb]? = some (.cells #[.int .i64 a0,.int .i64 a1,.int .i64 a2] 31 (0,0))):=⟨by rw [hw];exact blk_put (blk_put (blk_put BK.out 0 _ rfl) 1 _ rfl) 2 _ rfl⟩;replace HB:Aside0 (Below w.heap.size w w3):=⟨by rw [hw];exact below_set (below_set (below_set HB.out GE.out) GE.out) GE.out⟩;clear hw z0 z1 z2 q0 q1 q2;obtain ⟨z0,z1,z2,q0,q1,q2⟩:=ck3 BK.out)|((with_reducible refine gate_callee (f:=13) rfl ?_);refine gl _ Try.func13 #[.int .i64 a0] ?_;(with_reducible refine (impl_isAnswer.calls k a0 false _ HT.out).mono ?_);rintro e w4 ⟨rfl,hb⟩;refine ⟨_,rfl,?_⟩;replace HO:=Aside0.mk (own_below HO.out hb);replace BK:=Aside0.mk (blk_below (bk BK) hb);replace HB:=Aside0.mk (below_step bl hb);clear hb z0 z1 z2 q0 q1 q2;obtain ⟨z0,z1,z2,q0,q1,q2⟩:=ck3 BK.out))
      go_roundg (l0.length - (x.toNat + 1))
      case measure=>have:=HP.out;omega
      case rel =>
       have e1:(wrap64 (x + 1)).toNat=x.toNat + 1:=by rw [HW.out];have:=HP.out;omega
       exact ⟨wrap64 (x + 1),m,rfl,⟨by have:=HP.out;rw [HW.out];omega⟩,⟨by rw [e1];exact HN.out⟩,⟨by rw [e1];exact HO.out.mono (by omega)⟩,⟨bl⟩⟩
    ·have hd:decide (x < (l0.length:Int))=false:=decide_eq_false c3
     have H:=HN.out
     rw [List.drop_eq_nil_of_le (by omega)] at H
     simp only [impl_AnsweredOnce.run] at H
     obtain rfl:=Option.some.inj H
     clear HN c3 H
     go_wp2
     go_ret
     exact ⟨rfl,bl⟩
  ·rw [if_neg hall] at h
   cases h

end Go.Proofs.Ytfnphdikfialnaa.PFnExactAnsweredOnce
