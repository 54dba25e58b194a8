/- Contracts of functions of the given program: what each call answers. Written by a program of this session, out of the text of the functions. -/
import Derived.Test.YtciehpgbhfngiaaPFnExactFreshConnsx0
import Derived.Test.YtciehpgbhfngiaaPFnExactFreshConnsx4
import Derived.Test.YtciehpgbhfngiaaPrs
namespace Go.Proofs.Ytciehpgbhfngiaa.PFnExactFreshConns
open Go.RowKit Go.Proofs.YtciehpgbhfngiaaW.PrintWords Go.Proofs.YtciehpgbhfngiaaW.PrintLast Go.Proofs.YtciehpgbhfngiaaW.PrintMore Go.Proofs.Ytciehpgbhfngiaa.Giv Go.Proofs.Ytciehpgbhfngiaa.Prs
attribute [local go_sem] max2_int min2_int max_two min_two max_three min_three max_four min_four   -- for this text's walks alone
set_option linter.unusedVariables false
set_option linter.unusedSimpArgs false

/-! ### impl_LogOk: function 16 -/
mutual
def impl_LogOk.l0:Nat→List (S30)→Int→Int→Option (Bool)
 | 0,_,_,_=>none
 | k + 1,x12,x13,x14=>if x14 < x13 then (if 0≤x14 then (if x14 < (x12.length:Int) then ((impl_hasTicket.f k ((rd_T30 x12 x14).f0)).bind fun t143=>(if t143=true then (impl_LogOk.j1 k 1 1000000000 x12 x13 x14 ((rd_T30 x12 x14).f0) ((rd_T30 x12 x14).f1) ((rd_T30 x12 x14).f2)) else (impl_LogOk.j1 k 0 0 x12 x13 x14 ((rd_T30 x12 x14).f0) ((rd_T30 x12 x14).f1) ((rd_T30 x12 x14).f2)))) else (none)) else (none)) else (some true)
def impl_LogOk.j1:Nat→Int→Int→List (S30)→Int→Int→Int→Int→Int→Option (Bool)
 | 0,_,_,_,_,_,_,_,_=>none
 | k + 1,x5,x6,x12,x13,x14,x143000,x143001,x143002=>if x143000=5 then (impl_LogOk.j2 k x5 1000000000 x12 x13 x14 x143000 x143001 x143002) else (impl_LogOk.j2 k x5 x6 x12 x13 x14 x143000 x143001 x143002)
def impl_LogOk.j2:Nat→Int→Int→List (S30)→Int→Int→Int→Int→Int→Option (Bool)
 | 0,_,_,_,_,_,_,_,_=>none
 | k + 1,x5,x6,x12,x13,x14,x143000,x143001,x143002=>(impl_hasConn.f x143000).bind fun t144=>(if t144=true then (impl_LogOk.j3 k x5 x6 1 1000000000 x12 x13 x14 x143000 x143001 x143002) else (impl_LogOk.j3 k x5 x6 0 0 x12 x13 x14 x143000 x143001 x143002))
def impl_LogOk.j3:Nat→Int→Int→Int→Int→List (S30)→Int→Int→Int→Int→Int→Option (Bool)
 | 0,_,_,_,_,_,_,_,_,_,_=>none
 | k + 1,x5,x6,x7,x8,x12,x13,x14,x143000,x143001,x143002=>if x143000=11 then (impl_LogOk.j4 k x5 x6 x7 3 x12 x13 x14 x143000 x143001 x143002) else (impl_LogOk.j4 k x5 x6 x7 x8 x12 x13 x14 x143000 x143001 x143002)
def impl_LogOk.j4:Nat→Int→Int→Int→Int→List (S30)→Int→Int→Int→Int→Int→Option (Bool)
 | 0,_,_,_,_,_,_,_,_,_,_=>none
 | k + 1,x5,x6,x7,x8,x12,x13,x14,x143000,x143001,x143002=>(impl_in.f x143000 0 11).bind fun t145=>(if t145=true then ((impl_in.f x143001 x5 x6).bind fun t146=>(if t146=true then ((impl_in.f x143002 x7 x8).bind fun t147=>(if t147=true then (impl_LogOk.l0 k x12 x13 (wrap64 (x14 + 1))) else (some false))) else (some false))) else (some false))
end
def impl_LogOk.f (k:Nat) (l0:List (S30)):Option (Bool):=if (l0.length:Int) > 2000 then (some false) else (impl_LogOk.l0 k l0 (l0.length:Int) 0)
theorem impl_LogOk.mono_l:∀ k,(∀ y0 y1 y2,LeO (impl_LogOk.l0 k y0 y1 y2) (impl_LogOk.l0 (k + 1) y0 y1 y2))∧(∀ y0 y1 y2 y3 y4 y5 y6 y7,LeO (impl_LogOk.j1 k y0 y1 y2 y3 y4 y5 y6 y7) (impl_LogOk.j1 (k + 1) y0 y1 y2 y3 y4 y5 y6 y7))∧(∀ y0 y1 y2 y3 y4 y5 y6 y7,LeO (impl_LogOk.j2 k y0 y1 y2 y3 y4 y5 y6 y7) (impl_LogOk.j2 (k + 1) y0 y1 y2 y3 y4 y5 y6 y7))∧(∀ y0 y1 y2 y3 y4 y5 y6 y7 y8 y9,LeO (impl_LogOk.j3 k y0 y1 y2 y3 y4 y5 y6 y7 y8 y9) (impl_LogOk.j3 (k + 1) y0 y1 y2 y3 y4 y5 y6 y7 y8 y9))∧(∀ y0 y1 y2 y3 y4 y5 y6 y7 y8 y9,LeO (impl_LogOk.j4 k y0 y1 y2 y3 y4 y5 y6 y7 y8 y9) (impl_LogOk.j4 (k + 1) y0 y1 y2 y3 y4 y5 y6 y7 y8 y9))
 | 0=>⟨fun _ _ _ r h=>by simp [impl_LogOk.l0] at h,fun _ _ _ _ _ _ _ _ r h=>by simp [impl_LogOk.j1] at h,fun _ _ _ _ _ _ _ _ r h=>by simp [impl_LogOk.j2] at h,fun _ _ _ _ _ _ _ _ _ _ r h=>by simp [impl_LogOk.j3] at h,fun _ _ _ _ _ _ _ _ _ _ r h=>by simp [impl_LogOk.j4] at h⟩
 | k + 1=>by
  obtain ⟨ih0,ih1,ih2,ih3,ih4⟩:=impl_LogOk.mono_l k
  refine ⟨?_,?_,?_,?_,?_⟩
  ·intro y0 y1 y2
   unfold impl_LogOk.l0
   repeat' first
   | (with_reducible exact ih0 _ _ _)
   | (with_reducible exact ih1 _ _ _ _ _ _ _ _)
   | (with_reducible exact ih2 _ _ _ _ _ _ _ _)
   | (with_reducible exact ih3 _ _ _ _ _ _ _ _ _ _)
   | (with_reducible exact ih4 _ _ _ _ _ _ _ _ _ _)
   | (with_reducible exact impl_hasTicket.mono _ _)
   | (with_reducible exact LeO.refl _)
   | (with_reducible exact LeO.none _)
   | (with_reducible refine LeO.ite ?_ ?_)
   | (with_reducible refine LeO.bind ?_ (fun _=>?_))
   | exact ih0 _ _ _
   | exact ih1 _ _ _ _ _ _ _ _
   | exact ih2 _ _ _ _ _ _ _ _
   | exact ih3 _ _ _ _ _ _ _ _ _ _
   | exact ih4 _ _ _ _ _ _ _ _ _ _
   | exact impl_hasTicket.mono _ _
   | exact LeO.none _
   | refine LeO.ite ?_ ?_
   | refine LeO.bind ?_ (fun _=>?_)
  ·intro y0 y1 y2 y3 y4 y5 y6 y7
   unfold impl_LogOk.j1
   repeat' first
   | (with_reducible exact ih0 _ _ _)
   | (with_reducible exact ih1 _ _ _ _ _ _ _ _)
   | (with_reducible exact ih2 _ _ _ _ _ _ _ _)
   | (with_reducible exact ih3 _ _ _ _ _ _ _ _ _ _)
   | (with_reducible exact ih4 _ _ _ _ _ _ _ _ _ _)
   | (with_reducible exact impl_hasTicket.mono _ _)
   | (with_reducible exact LeO.refl _)
   | (with_reducible exact LeO.none _)
   | (with_reducible refine LeO.ite ?_ ?_)
   | (with_reducible refine LeO.bind ?_ (fun _=>?_))
   | exact ih0 _ _ _
   | exact ih1 _ _ _ _ _ _ _ _
   | exact ih2 _ _ _ _ _ _ _ _
   | exact ih3 _ _ _ _ _ _ _ _ _ _
   | exact ih4 _ _ _ _ _ _ _ _ _ _
   | exact impl_hasTicket.mono _ _
   | exact LeO.none _
   | refine LeO.ite ?_ ?_
   | refine LeO.bind ?_ (fun _=>?_)
  ·intro y0 y1 y2 y3 y4 y5 y6 y7
   unfold impl_LogOk.j2
   repeat' first
   | (with_reducible exact ih0 _ _ _)
   | (with_reducible exact ih1 _ _ _ _ _ _ _ _)
   | (with_reducible exact ih2 _ _ _ _ _ _ _ _)
   | (with_reducible exact ih3 _ _ _ _ _ _ _ _ _ _)
   | (with_reducible exact ih4 _ _ _ _ _ _ _ _ _ _)
   | (with_reducible exact impl_hasTicket.mono _ _)
   | (with_reducible exact LeO.refl _)
   | (with_reducible exact LeO.none _)
   | (with_reducible refine LeO.ite ?_ ?_)
   | (with_reducible refine LeO.bind ?_ (fun _=>?_))
   | exact ih0 _ _ _
   | exact ih1 _ _ _ _ _ _ _ _
   | exact ih2 _ _ _ _ _ _ _ _
   | exact ih3 _ _ _ _ _ _ _ _ _ _
   | exact ih4 _ _ _ _ _ _ _ _ _ _
   | exact impl_hasTicket.mono _ _
   | exact LeO.none _
   | refine LeO.ite ?_ ?_
   | refine LeO.bind ?_ (fun _=>?_)
  ·intro y0 y1 y2 y3 y4 y5 y6 y7 y8 y9
   unfold impl_LogOk.j3
   repeat' first
   | (with_reducible exact ih0 _ _ _)
   | (with_reducible exact ih1 _ _ _ _ _ _ _ _)
   | (with_reducible exact ih2 _ _ _ _ _ _ _ _)
   | (with_reducible exact ih3 _ _ _ _ _ _ _ _ _ _)
   | (with_reducible exact ih4 _ _ _ _ _ _ _ _ _ _)
   | (with_reducible exact impl_hasTicket.mono _ _)
   | (with_reducible exact LeO.refl _)
   | (with_reducible exact LeO.none _)
   | (with_reducible refine LeO.ite ?_ ?_)
   | (with_reducible refine LeO.bind ?_ (fun _=>?_))
   | exact ih0 _ _ _
   | exact ih1 _ _ _ _ _ _ _ _
   | exact ih2 _ _ _ _ _ _ _ _
   | exact ih3 _ _ _ _ _ _ _ _ _ _
   | exact ih4 _ _ _ _ _ _ _ _ _ _
   | exact impl_hasTicket.mono _ _
   | exact LeO.none _
   | refine LeO.ite ?_ ?_
   | refine LeO.bind ?_ (fun _=>?_)
  ·intro y0 y1 y2 y3 y4 y5 y6 y7 y8 y9
   unfold impl_LogOk.j4
   repeat' first
   | (with_reducible exact ih0 _ _ _)
   | (with_reducible exact ih1 _ _ _ _ _ _ _ _)
   | (with_reducible exact ih2 _ _ _ _ _ _ _ _)
   | (with_reducible exact ih3 _ _ _ _ _ _ _ _ _ _)
   | (with_reducible exact ih4 _ _ _ _ _ _ _ _ _ _)
   | (with_reducible exact impl_hasTicket.mono _ _)
   | (with_reducible exact LeO.refl _)
   | (with_reducible exact LeO.none _)
   | (with_reducible refine LeO.ite ?_ ?_)
   | (with_reducible refine LeO.bind ?_ (fun _=>?_))
   | exact ih0 _ _ _
   | exact ih1 _ _ _ _ _ _ _ _
   | exact ih2 _ _ _ _ _ _ _ _
   | exact ih3 _ _ _ _ _ _ _ _ _ _
   | exact ih4 _ _ _ _ _ _ _ _ _ _
   | exact impl_hasTicket.mono _ _
   | exact LeO.none _
   | refine LeO.ite ?_ ?_
   | refine LeO.bind ?_ (fun _=>?_)
theorem impl_LogOk.mono:∀ a0 k,LeO (impl_LogOk.f k a0) (impl_LogOk.f (k + 1) a0):=by
 intro a0 k
 obtain ⟨ih0,ih1,ih2,ih3,ih4⟩:=impl_LogOk.mono_l k
 unfold impl_LogOk.f
 repeat' first
   | (with_reducible exact ih0 _ _ _)
   | (with_reducible exact ih1 _ _ _ _ _ _ _ _)
   | (with_reducible exact ih2 _ _ _ _ _ _ _ _)
   | (with_reducible exact ih3 _ _ _ _ _ _ _ _ _ _)
   | (with_reducible exact ih4 _ _ _ _ _ _ _ _ _ _)
   | (with_reducible exact impl_hasTicket.mono _ _)
   | (with_reducible exact LeO.refl _)
   | (with_reducible exact LeO.none _)
   | (with_reducible refine LeO.ite ?_ ?_)
   | (with_reducible refine LeO.bind ?_ (fun _=>?_))
   | exact ih0 _ _ _
   | exact ih1 _ _ _ _ _ _ _ _
   | exact ih2 _ _ _ _ _ _ _ _
   | exact ih3 _ _ _ _ _ _ _ _ _ _
   | exact ih4 _ _ _ _ _ _ _ _ _ _
   | exact impl_hasTicket.mono _ _
   | exact LeO.none _
   | refine LeO.ite ?_ ?_
   | refine LeO.bind ?_ (fun _=>?_)
set_option maxHeartbeats 8000000 in
set_option maxRecDepth 100000 in
theorem impl_LogOk.calls (k:Nat) (A0:Option Addr) (c0:Nat) (l0:List (S30)) (r:Bool) (w:World) (hr0:Kd.C k30 w A0 l0.length l0) (hc0:l0.length≤c0) (h:impl_LogOk.f k l0=some r) :
  Calls Try.prog 16 #[.slice A0 l0.length c0] w fun e w'=>e = .returned (.bool r)∧Below w.heap.size w w':=by
 have hu30:=Try.underlying30
 have HR0:=Aside0.mk hr0
 have HC0:=Aside0.mk hc0
 clear hr0 hc0
 have HB:=Aside0.mk (Below.refl w.heap.size w)
 have H:(if (l0.length:Int) > 2000 then (some false) else (impl_LogOk.l0 k l0 (l0.length:Int) 0))=some r:=h
 clear h
 by_cases c2:(l0.length:Int) > 2000
 ·rw [if_pos c2] at H
  have c2b0:decide (2000 < (l0.length:Int))=true:=decide_eq_true c2
  have c2b1:decide (2000 < l0.length)=true:=decide_eq_true (by omega)
  clear c2
  obtain rfl:=Option.some.inj H
  go_enter Try.func16,Try.ntmps16
  go_wp2
  go_ret
  exact ⟨er,bl⟩
 ·rw [if_neg c2] at H
  have c2b0:decide (2000 < (l0.length:Int))=false:=decide_eq_false c2
  have c2b1:decide (2000 < l0.length)=false:=decide_eq_false (by omega)
  clear c2
  have H':=Aside0.mk H
  clear H
  go_enter Try.func16,Try.ntmps16
  go_wp2
  go_loopg [14] k (fun kq v14 w'=>∃ (x14_1:Int),v14 = .int .i64 x14_1∧Aside0 (impl_LogOk.l0 kq l0 (l0.length:Int) x14_1=some r)∧Aside0 (kq≤k)∧Aside0 (Below w.heap.size w w'))
  case atStart=>exact ⟨(0),(by first|rfl|(simp;done)|(simp [*];done)),H',⟨Nat.le_refl _⟩,⟨bl⟩⟩
  case round =>
   clear H'
   try clear c1
   try clear c2
   try clear c2b0
   try clear c2b1
   try clear p2
   obtain ⟨x14_1,rfl,HA,HK1,HB⟩:=hrel
   cases gk with
   | zero=>exact absurd HA.out (by simp [impl_LogOk.l0])
   | succ k1 =>
    have H:=HA.out
    clear HA
    simp only [impl_LogOk.l0] at H
    by_cases c3:x14_1 < (l0.length:Int)
    ·rw [if_pos c3] at H
     have c3b0:decide (x14_1 < (l0.length:Int))=true:=decide_eq_true c3
     clear c3
     by_cases c4:0≤x14_1
     case neg =>
      rw [if_neg c4] at H
      exact absurd H (by simp)
     rw [if_pos c4] at H
     have c4b0:decide (0≤x14_1)=true:=decide_eq_true c4
     clear c4
     by_cases c5:x14_1 < (l0.length:Int)
     case neg =>
      rw [if_neg c5] at H
      exact absurd H (by simp)
     rw [if_pos c5] at H
     have c5b0:decide (x14_1 < (l0.length:Int))=true:=decide_eq_true c5
     clear c5
     replace H:=Option.bind_eq_some_iff.mp H
     obtain ⟨t143,A60,H⟩:=H
     have A6:=Aside0.mk A60
     clear A60
     have HC7:=Aside0.mk H
     clear H
     have p141:0≤(x14_1:Int):=od
     have q141:x14_1 < (l0.length:Int):=od
     obtain ⟨ad141,e141,hx141_0,hx141_1,hx141_2⟩:=at_T30 HR0.out x14_1 p141 q141
     cases e141
     replace hx141_0:=cl HB hx141_0
     replace hx141_1:=cl HB hx141_1
     replace hx141_2:=cl HB hx141_2
     replace p141:=eq_true p141
     replace q141:=eq_true q141
     go_upto_if 20 with (first|((with_reducible refine gate_dst (N:=4) rfl ?_);refine bx 4 #[.int .i64 0,.int .i64 0,.int .i64 0] 30 ?_;intro gb142 hg w8 hbox hb;have BK142:=Aside0.mk (hbox);have GW142:=Aside0.mk (bz hg:w.heap.size≤gb142);have GE142:=GW142;replace HB:=Aside0.mk (below_step bl hb);clear hb hbox hg;obtain ⟨hcz9_0,hcz9_1,hcz9_2,hfz9_0,hfz9_1,hfz9_2⟩:=ck3 BK142.out)|((with_reducible refine gate_callee (f:=21) rfl ?_);refine gl (some 20) Try.func21 #[.int .i64 ((rd_T30 l0 x14_1).f0)] ?_;(with_reducible refine (impl_hasTicket.calls k1 ((rd_T30 l0 x14_1).f0) t143 _ A6.out).mono ?_);rintro e w10 ⟨rfl,hb⟩;refine ⟨_,rfl,?_⟩;replace BK142:=Aside0.mk (blk_below (g:=gb142) (o:=.cells #[.int .i64 ((rd_T30 l0 x14_1).f0),.int .i64 ((rd_T30 l0 x14_1).f1),.int .i64 ((rd_T30 l0 x14_1).f2)] 30 (0,0)) (by (with_reducible repeat (first|refine blk_drewN ?_ _|refine blk_drew ?_|refine blk_alloc ?_ _));refine blk_put (cs:=#[.int .i64 ((rd_T30 l0 x14_1).f0),.int .i64 ((rd_T30 l0 x14_1).f1),.int .i64 0]) ?_ 2 _ rfl;(with_reducible repeat (first|refine blk_drewN ?_ _|refine blk_drew ?_|refine blk_alloc ?_ _));refine blk_put (cs:=#[.int .i64 ((rd_T30 l0 x14_1).f0),.int .i64 0,.int .i64 0]) ?_ 1 _ rfl;(with_reducible repeat (first|refine blk_drewN ?_ _|refine blk_drew ?_|refine blk_alloc ?_ _));refine blk_put (cs:=#[.int .i64 0,.int .i64 0,.int .i64 0]) ?_ 0 _ rfl;(with_reducible repeat (first|refine blk_drewN ?_ _|refine blk_drew ?_|refine blk_alloc ?_ _));exact BK142.out) hb);replace HB:=Aside0.mk (below_step bl hb);(try clear hb);(try clear hb2);(try clear hk);(try clear hi)))
     (try simp only [Act.put,List.setIfInBounds_toArray,List.set_cons_zero,List.set_cons_succ])
     go_cut [5,6] (fun v5 v6 wc=>∃ (kq:Nat) (x5_6:Int) (x6_6:Int),v5 = .int .i64 x5_6∧v6 = .int .i64 x6_6∧Aside0 (impl_LogOk.j1 kq x5_6 x6_6 l0 (l0.length:Int) x14_1 ((rd_T30 l0 x14_1).f0) ((rd_T30 l0 x14_1).f1) ((rd_T30 l0 x14_1).f2)=some r)∧Aside0 (kq≤k1)∧Aside0 (wc.heap[gb142]? = some (.cells #[.int .i64 ((rd_T30 l0 x14_1).f0),.int .i64 ((rd_T30 l0 x14_1).f1),.int .i64 ((rd_T30 l0 x14_1).f2)] 30 (0,0)))∧Aside0 (Below w.heap.size w wc))
     case first =>
      have H:=HC7.out
      clear HC7
      by_cases c11:t143=true
      ·subst c11
       rw [if_pos rfl] at H
       have H':=Aside0.mk H
       clear H
       go_wp2
       go_meet
       case rel=>exact ⟨_,(1),(1000000000),(by first|rfl|(simp;done)|(simp [*];done)),(by first|rfl|(simp;done)|(simp [*];done)),H',⟨by have:=HK1.out;first|omega|exact Nat.le_refl _⟩,⟨bk BK142⟩,⟨bl⟩⟩
      ·replace c11:=Bool.eq_false_iff.mpr c11
       subst c11
       rw [if_neg nft] at H
       have H':=Aside0.mk H
       clear H
       go_wp2
       go_meet
       case rel=>exact ⟨_,(0),(0),(by first|rfl|(simp;done)|(simp [*];done)),(by first|rfl|(simp;done)|(simp [*];done)),H',⟨by have:=HK1.out;first|omega|exact Nat.le_refl _⟩,⟨bk BK142⟩,⟨bl⟩⟩
     case rest =>
      clear HC7
      try clear c1
      try clear p1
      try clear q1
      try clear hx1
      try clear c2
      try clear c2b0
      try clear c2b1
      try clear p2
      try clear c3
      try clear c3b0
      try clear c4
      try clear c4b0
      try clear c5
      try clear c5b0
      try clear c11
      try clear hcz9_0
      try clear hcz9_1
      try clear hcz9_2
      try clear hfz9_0
      try clear hfz9_1
      try clear hfz9_2
      try clear hx141_0
      try clear hx141_1
      try clear hx141_2
      try clear p141
      try clear p2
      try clear q141
      obtain ⟨kq,x5_6,x6_6,rfl,rfl,HA,HJ6,BK142,HB⟩:=hcut
      cases kq with
      | zero=>exact absurd HA.out (by simp [impl_LogOk.j1])
      | succ kj6 =>
       have H:=HA.out
       clear HA
       simp only [impl_LogOk.j1] at H
       have HC12:=Aside0.mk H
       clear H
       obtain ⟨hcz13_0,hcz13_1,hcz13_2,hfz13_0,hfz13_1,hfz13_2⟩:=ck3 BK142.out
       go_upto_if 23 with (fail)
       go_cut [6] (fun v6 wc=>∃ (kq:Nat) (x6_11:Int),v6 = .int .i64 x6_11∧Aside0 (impl_LogOk.j2 kq x5_6 x6_11 l0 (l0.length:Int) x14_1 ((rd_T30 l0 x14_1).f0) ((rd_T30 l0 x14_1).f1) ((rd_T30 l0 x14_1).f2)=some r)∧Aside0 (kq≤kj6)∧Aside0 (wc.heap[gb142]? = some (.cells #[.int .i64 ((rd_T30 l0 x14_1).f0),.int .i64 ((rd_T30 l0 x14_1).f1),.int .i64 ((rd_T30 l0 x14_1).f2)] 30 (0,0)))∧Aside0 (Below w.heap.size w wc))
       case first =>
        have H:=HC12.out
        clear HC12
        by_cases c14:((rd_T30 l0 x14_1).f0)=5
        ·rw [if_pos c14] at H
         have c14b0:(((rd_T30 l0 x14_1).f0) == 5)=true:=beq_iff_eq.mpr c14
         have c14b1:(((rd_T30 l0 x14_1).f0) != 5)=false:=bne_eq_false_iff_eq.mpr c14
         clear c14
         (first|rw [c14b0]|(simp only [i64_w,i32_w];rw [c14b0])|skip)
         have H':=Aside0.mk H
         clear H
         go_wp2
         go_meet
         case rel=>exact ⟨_,(1000000000),(by first|rfl|(simp;done)|(simp [*];done)),H',⟨by have:=HK1.out;have:=HJ6.out;first|omega|exact Nat.le_refl _⟩,⟨bk BK142⟩,⟨bl⟩⟩
        ·rw [if_neg c14] at H
         have c14b0:(((rd_T30 l0 x14_1).f0) == 5)=false:=beq_eq_false_iff_ne.mpr c14
         have c14b1:(((rd_T30 l0 x14_1).f0) != 5)=true:=bne_iff_ne.mpr c14
         (first|rw [c14b0]|(simp only [i64_w,i32_w];rw [c14b0])|skip)
         have H':=Aside0.mk H
         clear H
         go_wp2
         go_meet
         case rel=>exact ⟨_,(x6_6),(by first|rfl|(simp;done)|(simp [*];done)),H',⟨by have:=HK1.out;have:=HJ6.out;first|omega|exact Nat.le_refl _⟩,⟨bk BK142⟩,⟨bl⟩⟩
       case rest =>
        clear HC12
        try clear c1
        try clear p1
        try clear q1
        try clear hx1
        try clear c2
        try clear c2b0
        try clear c2b1
        try clear p2
        try clear c3
        try clear c3b0
        try clear c4
        try clear c4b0
        try clear c5
        try clear c5b0
        try clear c11
        try clear c14
        try clear c14b0
        try clear c14b1
        try clear p14
        try clear q14
        try clear hx14
        try clear hcz13_0
        try clear hcz13_1
        try clear hcz13_2
        try clear hcz9_0
        try clear hcz9_1
        try clear hcz9_2
        try clear hfz13_0
        try clear hfz13_1
        try clear hfz13_2
        try clear hfz9_0
        try clear hfz9_1
        try clear hfz9_2
        try clear hx141_0
        try clear hx141_1
        try clear hx141_2
        try clear p1
        try clear p141
        try clear p2
        try clear q1
        try clear q141
        obtain ⟨kq,x6_11,rfl,HA,HJ11,BK142,HB⟩:=hcut
        cases kq with
        | zero=>exact absurd HA.out (by simp [impl_LogOk.j2])
        | succ kj11 =>
         have H:=HA.out
         clear HA
         simp only [impl_LogOk.j2] at H
         replace H:=Option.bind_eq_some_iff.mp H
         obtain ⟨t144,A150,H⟩:=H
         have A15:=Aside0.mk A150
         clear A150
         have HC16:=Aside0.mk H
         clear H
         obtain ⟨hcz17_0,hcz17_1,hcz17_2,hfz17_0,hfz17_1,hfz17_2⟩:=ck3 BK142.out
         go_upto_if 26 with (first|((with_reducible refine gate_callee (f:=17) rfl ?_);refine gl (some 26) Try.func17 #[.int .i64 ((rd_T30 l0 x14_1).f0)] ?_;(with_reducible refine (impl_hasConn.calls ((rd_T30 l0 x14_1).f0) t144 _ A15.out).mono ?_);rintro e w' ⟨rfl,⟨nd,rfl⟩⟩;refine ⟨_,rfl,?_⟩))
         (try simp only [Act.put,List.setIfInBounds_toArray,List.set_cons_zero,List.set_cons_succ])
         go_cut [7,8] (fun v7 v8 wc=>∃ (kq:Nat) (x7_15:Int) (x8_15:Int),v7 = .int .i64 x7_15∧v8 = .int .i64 x8_15∧Aside0 (impl_LogOk.j3 kq x5_6 x6_11 x7_15 x8_15 l0 (l0.length:Int) x14_1 ((rd_T30 l0 x14_1).f0) ((rd_T30 l0 x14_1).f1) ((rd_T30 l0 x14_1).f2)=some r)∧Aside0 (kq≤kj11)∧Aside0 (wc.heap[gb142]? = some (.cells #[.int .i64 ((rd_T30 l0 x14_1).f0),.int .i64 ((rd_T30 l0 x14_1).f1),.int .i64 ((rd_T30 l0 x14_1).f2)] 30 (0,0)))∧Aside0 (Below w.heap.size w wc))
         case first =>
          have H:=HC16.out
          clear HC16
          by_cases c18:t144=true
          ·subst c18
           rw [if_pos rfl] at H
           have H':=Aside0.mk H
           clear H
           go_wp2
           go_meet
           case rel=>exact ⟨_,(1),(1000000000),(by first|rfl|(simp;done)|(simp [*];done)),(by first|rfl|(simp;done)|(simp [*];done)),H',⟨by have:=HK1.out;have:=HJ6.out;have:=HJ11.out;first|omega|exact Nat.le_refl _⟩,⟨bk BK142⟩,⟨bl⟩⟩
          ·replace c18:=Bool.eq_false_iff.mpr c18
           subst c18
           rw [if_neg nft] at H
           have H':=Aside0.mk H
           clear H
           go_wp2
           go_meet
           case rel=>exact ⟨_,(0),(0),(by first|rfl|(simp;done)|(simp [*];done)),(by first|rfl|(simp;done)|(simp [*];done)),H',⟨by have:=HK1.out;have:=HJ6.out;have:=HJ11.out;first|omega|exact Nat.le_refl _⟩,⟨bk BK142⟩,⟨bl⟩⟩
         case rest =>
          clear HC16
          try clear c1
          try clear p1
          try clear q1
          try clear hx1
          try clear c2
          try clear c2b0
          try clear c2b1
          try clear p2
          try clear c3
          try clear c3b0
          try clear c4
          try clear c4b0
          try clear c5
          try clear c5b0
          try clear c11
          try clear c14
          try clear c14b0
          try clear c14b1
          try clear p14
          try clear q14
          try clear hx14
          try clear c16
          try clear c17
          try clear c18
          try clear hcz13_0
          try clear hcz13_1
          try clear hcz13_2
          try clear hcz17_0
          try clear hcz17_1
          try clear hcz17_2
          try clear hcz9_0
          try clear hcz9_1
          try clear hcz9_2
          try clear hfz13_0
          try clear hfz13_1
          try clear hfz13_2
          try clear hfz17_0
          try clear hfz17_1
          try clear hfz17_2
          try clear hfz9_0
          try clear hfz9_1
          try clear hfz9_2
          try clear hx141_0
          try clear hx141_1
          try clear hx141_2
          try clear p1
          try clear p14
          try clear p141
          try clear p2
          try clear q1
          try clear q14
          try clear q141
          obtain ⟨kq,x7_15,x8_15,rfl,rfl,HA,HJ15,BK142,HB⟩:=hcut
          cases kq with
          | zero=>exact absurd HA.out (by simp [impl_LogOk.j3])
          | succ kj15 =>
           have H:=HA.out
           clear HA
           simp only [impl_LogOk.j3] at H
           have HC19:=Aside0.mk H
           clear H
           obtain ⟨hcz20_0,hcz20_1,hcz20_2,hfz20_0,hfz20_1,hfz20_2⟩:=ck3 BK142.out
           go_upto_if 29 with (fail)
           go_cut [8] (fun v8 wc=>∃ (kq:Nat) (x8_18:Int),v8 = .int .i64 x8_18∧Aside0 (impl_LogOk.j4 kq x5_6 x6_11 x7_15 x8_18 l0 (l0.length:Int) x14_1 ((rd_T30 l0 x14_1).f0) ((rd_T30 l0 x14_1).f1) ((rd_T30 l0 x14_1).f2)=some r)∧Aside0 (kq≤kj15)∧Aside0 (wc.heap[gb142]? = some (.cells #[.int .i64 ((rd_T30 l0 x14_1).f0),.int .i64 ((rd_T30 l0 x14_1).f1),.int .i64 ((rd_T30 l0 x14_1).f2)] 30 (0,0)))∧Aside0 (Below w.heap.size w wc))
           case first =>
            have H:=HC19.out
            clear HC19
            by_cases c21:((rd_T30 l0 x14_1).f0)=11
            ·rw [if_pos c21] at H
             have c21b0:(((rd_T30 l0 x14_1).f0) == 11)=true:=beq_iff_eq.mpr c21
             have c21b1:(((rd_T30 l0 x14_1).f0) != 11)=false:=bne_eq_false_iff_eq.mpr c21
             clear c21
             (first|rw [c21b0]|(simp only [i64_w,i32_w];rw [c21b0])|skip)
             have H':=Aside0.mk H
             clear H
             go_wp2
             go_meet
             case rel=>exact ⟨_,(3),(by first|rfl|(simp;done)|(simp [*];done)),H',⟨by have:=HK1.out;have:=HJ6.out;have:=HJ11.out;have:=HJ15.out;first|omega|exact Nat.le_refl _⟩,⟨bk BK142⟩,⟨bl⟩⟩
            ·rw [if_neg c21] at H
             have c21b0:(((rd_T30 l0 x14_1).f0) == 11)=false:=beq_eq_false_iff_ne.mpr c21
             have c21b1:(((rd_T30 l0 x14_1).f0) != 11)=true:=bne_iff_ne.mpr c21
             (first|rw [c21b0]|(simp only [i64_w,i32_w];rw [c21b0])|skip)
             have H':=Aside0.mk H
             clear H
             go_wp2
             go_meet
             case rel=>exact ⟨_,(x8_15),(by first|rfl|(simp;done)|(simp [*];done)),H',⟨by have:=HK1.out;have:=HJ6.out;have:=HJ11.out;have:=HJ15.out;first|omega|exact Nat.le_refl _⟩,⟨bk BK142⟩,⟨bl⟩⟩
           case rest =>
            clear HC19
            try clear c1
            try clear p1
            try clear q1
            try clear hx1
            try clear c2
            try clear c2b0
            try clear c2b1
            try clear p2
            try clear c3
            try clear c3b0
            try clear c4
            try clear c4b0
            try clear c5
            try clear c5b0
            try clear c11
            try clear c14
            try clear c14b0
            try clear c14b1
            try clear p14
            try clear q14
            try clear hx14
            try clear c16
            try clear c17
            try clear c18
            try clear c21
            try clear c21b0
            try clear c21b1
            try clear hcz13_0
            try clear hcz13_1
            try clear hcz13_2
            try clear hcz17_0
            try clear hcz17_1
            try clear hcz17_2
            try clear hcz20_0
            try clear hcz20_1
            try clear hcz20_2
            try clear hcz9_0
            try clear hcz9_1
            try clear hcz9_2
            try clear hfz13_0
            try clear hfz13_1
            try clear hfz13_2
            try clear hfz17_0
            try clear hfz17_1
            try clear hfz17_2
            try clear hfz20_0
            try clear hfz20_1
            try clear hfz20_2
            try clear hfz9_0
            try clear hfz9_1
            try clear hfz9_2
            try clear hx141_0
            try clear hx141_1
            try clear hx141_2
            try clear p1
            try clear p14
            try clear p141
            try clear p2
            try clear q1
            try clear q14
            try clear q141
            obtain ⟨kq,x8_18,rfl,HA,HJ18,BK142,HB⟩:=hcut
            cases kq with
            | zero=>exact absurd HA.out (by simp [impl_LogOk.j4])
            | succ kj18 =>
             have H:=HA.out
             clear HA
             simp only [impl_LogOk.j4] at H
             replace H:=Option.bind_eq_some_iff.mp H
             obtain ⟨t145,A220,H⟩:=H
             have A22:=Aside0.mk A220
             clear A220
             by_cases c23:t145=true
             ·subst c23
              rw [if_pos rfl] at H
              replace H:=Option.bind_eq_some_iff.mp H
              obtain ⟨t146,A240,H⟩:=H
              have A24:=Aside0.mk A240
              clear A240
              by_cases c25:t146=true
              ·subst c25
               rw [if_pos rfl] at H
               replace H:=Option.bind_eq_some_iff.mp H
               obtain ⟨t147,A260,H⟩:=H
               have A26:=Aside0.mk A260
               clear A260
               by_cases c27:t147=true
               ·subst c27
                rw [if_pos rfl] at H
                have H':=Aside0.mk H
                clear H
                obtain ⟨hcz28_0,hcz28_1,hcz28_2,hfz28_0,hfz28_1,hfz28_2⟩:=ck3 BK142.out
                go_wp2_with (first|((with_reducible refine gate_callee (f:=22) rfl ?_);refine gl (some 32) Try.func22 #[.int .i64 ((rd_T30 l0 x14_1).f0),.int .i64 0,.int .i64 11] ?_;(with_reducible refine (impl_in.calls ((rd_T30 l0 x14_1).f0) 0 11 true _ A22.out).mono ?_);rintro e w' ⟨rfl,⟨nd,rfl⟩⟩;refine ⟨_,rfl,?_⟩)|(go_at_call 22;(with_reducible refine (impl_in.calls ((rd_T30 l0 x14_1).f1) x5_6 x6_11 true _ A24.out).mono ?_);rintro e w' ⟨rfl,⟨nd,rfl⟩⟩)|(go_at_call 22;(with_reducible refine (impl_in.calls ((rd_T30 l0 x14_1).f2) x7_15 x8_18 true _ A26.out).mono ?_);rintro e w' ⟨rfl,⟨nd,rfl⟩⟩))
                go_roundg kj18
                case measure=>have:=HK1.out;have:=HJ6.out;have:=HJ11.out;have:=HJ15.out;have:=HJ18.out;omega
                case rel=>exact ⟨(wrap64 (x14_1 + 1)),(by first|rfl|(simp;done)|(simp [*];done)),H',⟨by have:=HK1.out;have:=HJ6.out;have:=HJ11.out;have:=HJ15.out;have:=HJ18.out;omega⟩,⟨bl⟩⟩
               ·replace c27:=Bool.eq_false_iff.mpr c27
                subst c27
                rw [if_neg nft] at H
                obtain rfl:=Option.some.inj H
                obtain ⟨hcz29_0,hcz29_1,hcz29_2,hfz29_0,hfz29_1,hfz29_2⟩:=ck3 BK142.out
                go_wp2_with (first|((with_reducible refine gate_callee (f:=22) rfl ?_);refine gl (some 32) Try.func22 #[.int .i64 ((rd_T30 l0 x14_1).f0),.int .i64 0,.int .i64 11] ?_;(with_reducible refine (impl_in.calls ((rd_T30 l0 x14_1).f0) 0 11 true _ A22.out).mono ?_);rintro e w' ⟨rfl,⟨nd,rfl⟩⟩;refine ⟨_,rfl,?_⟩)|(go_at_call 22;(with_reducible refine (impl_in.calls ((rd_T30 l0 x14_1).f1) x5_6 x6_11 true _ A24.out).mono ?_);rintro e w' ⟨rfl,⟨nd,rfl⟩⟩)|(go_at_call 22;(with_reducible refine (impl_in.calls ((rd_T30 l0 x14_1).f2) x7_15 x8_18 false _ A26.out).mono ?_);rintro e w' ⟨rfl,⟨nd,rfl⟩⟩))
                go_ret
                exact ⟨er,bl⟩
              ·replace c25:=Bool.eq_false_iff.mpr c25
               subst c25
               rw [if_neg nft] at H
               obtain rfl:=Option.some.inj H
               obtain ⟨hcz30_0,hcz30_1,hcz30_2,hfz30_0,hfz30_1,hfz30_2⟩:=ck3 BK142.out
               go_wp2_with (first|((with_reducible refine gate_callee (f:=22) rfl ?_);refine gl (some 32) Try.func22 #[.int .i64 ((rd_T30 l0 x14_1).f0),.int .i64 0,.int .i64 11] ?_;(with_reducible refine (impl_in.calls ((rd_T30 l0 x14_1).f0) 0 11 true _ A22.out).mono ?_);rintro e w' ⟨rfl,⟨nd,rfl⟩⟩;refine ⟨_,rfl,?_⟩)|(go_at_call 22;(with_reducible refine (impl_in.calls ((rd_T30 l0 x14_1).f1) x5_6 x6_11 false _ A24.out).mono ?_);rintro e w' ⟨rfl,⟨nd,rfl⟩⟩))
               go_ret
               exact ⟨er,bl⟩
             ·replace c23:=Bool.eq_false_iff.mpr c23
              subst c23
              rw [if_neg nft] at H
              obtain rfl:=Option.some.inj H
              obtain ⟨hcz31_0,hcz31_1,hcz31_2,hfz31_0,hfz31_1,hfz31_2⟩:=ck3 BK142.out
              go_wp2_with (first|((with_reducible refine gate_callee (f:=22) rfl ?_);refine gl (some 32) Try.func22 #[.int .i64 ((rd_T30 l0 x14_1).f0),.int .i64 0,.int .i64 11] ?_;(with_reducible refine (impl_in.calls ((rd_T30 l0 x14_1).f0) 0 11 false _ A22.out).mono ?_);rintro e w' ⟨rfl,⟨nd,rfl⟩⟩;refine ⟨_,rfl,?_⟩))
              go_ret
              exact ⟨er,bl⟩
    ·rw [if_neg c3] at H
     have c3b0:decide (x14_1 < (l0.length:Int))=false:=decide_eq_false c3
     clear c3
     obtain rfl:=Option.some.inj H
     go_wp2
     go_ret
     exact ⟨er,bl⟩

end Go.Proofs.Ytciehpgbhfngiaa.PFnExactFreshConns
