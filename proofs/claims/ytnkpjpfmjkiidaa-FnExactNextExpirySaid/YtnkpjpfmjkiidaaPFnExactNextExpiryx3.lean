/- Contracts of functions of the given program: what each call answers. Written by a program of this session, out of the text of the functions. -/
import Derived.Test.YtnkpjpfmjkiidaaPFnExactNextExpiryx0
import Derived.Test.YtnkpjpfmjkiidaaPFnExactNextExpiryx2
import Derived.Test.YtnkpjpfmjkiidaaZFnExactNextExpiry
namespace Go.Proofs.Ytnkpjpfmjkiidaa.PFnExactNextExpiry
open Go.RowKit Go.Proofs.YtnkpjpfmjkiidaaW.PrintWords Go.Proofs.YtnkpjpfmjkiidaaW.PrintLast Go.Proofs.YtnkpjpfmjkiidaaW.PrintMore Go.Proofs.Ytnkpjpfmjkiidaa.Giv Go.Proofs.Ytnkpjpfmjkiidaa.Prs
attribute [local go_sem] max2_int min2_int max_two min_two max_three min_three max_four min_four   -- for this text's walks alone
set_option linter.unusedVariables false
set_option linter.unusedSimpArgs false

/-! ### spec_QueueOk: function 60 -/
mutual
def spec_QueueOk.j0:Nat→Bool→List (S97)→Int→Int→Int→Int→Option (Bool)
 | 0,_,_,_,_,_,_=>none
 | k + 1,x20,x179000,x179001,x179002,x179003,x179004=>if x20=true then (some false) else (if 60≤281474976710656 then (spec_QueueOk.l0 k (List.replicate 60 false) (([]:List Int)) 0 (-1) x179001 x179000 x179001 x179002 x179003 x179004) else (none))
def spec_QueueOk.l0:Nat→List Bool→List Int→Int→Int→Int→List (S97)→Int→Int→Int→Int→Option (Bool)
 | 0,_,_,_,_,_,_,_,_,_,_=>none
 | k + 1,x3,x4,x5,x6,x7,x179000,x179001,x179002,x179003,x179004=>if x7=(-1) then (if x5=x179004 then (spec_QueueOk.j3 k x3 x5 (x179002 != x6) x179000 x179001 x179002 x179003 x179004) else (spec_QueueOk.j3 k x3 x5 true x179000 x179001 x179002 x179003 x179004)) else ((spec_l01In.f x7 0 59).bind fun t186=>(if t186=true then (if 0≤x7 then (if x7 < (x3.length:Int) then (spec_QueueOk.j2 k x3 x4 x5 x6 x7 (rdOf false x3 x7) x179000 x179001 x179002 x179003 x179004) else (none)) else (none)) else (spec_QueueOk.j2 k x3 x4 x5 x6 x7 true x179000 x179001 x179002 x179003 x179004)))
def spec_QueueOk.j3:Nat→List Bool→Int→Bool→List (S97)→Int→Int→Int→Int→Option (Bool)
 | 0,_,_,_,_,_,_,_,_=>none
 | k + 1,x3,x5,x88,x179000,x179001,x179002,x179003,x179004=>if x88=true then (some false) else (spec_QueueOk.l1 k x3 x5 x179003 x179000 x179001 x179002 x179003 x179004)
def spec_QueueOk.l1:Nat→List Bool→Int→Int→List (S97)→Int→Int→Int→Int→Option (Bool)
 | 0,_,_,_,_,_,_,_,_=>none
 | k + 1,x3,x5,x9,x179000,x179001,x179002,x179003,x179004=>if x9=(-1) then (some (x5 == 60)) else ((spec_l01In.f x9 0 59).bind fun t197=>(if t197=true then (if 0≤x9 then (if x9 < (x3.length:Int) then (spec_QueueOk.j5 k x3 x5 x9 (rdOf false x3 x9) x179000 x179001 x179002 x179003 x179004) else (none)) else (none)) else (spec_QueueOk.j5 k x3 x5 x9 true x179000 x179001 x179002 x179003 x179004)))
def spec_QueueOk.j5:Nat→List Bool→Int→Int→Bool→List (S97)→Int→Int→Int→Int→Option (Bool)
 | 0,_,_,_,_,_,_,_,_,_=>none
 | k + 1,x3,x5,x9,x107,x179000,x179001,x179002,x179003,x179004=>if x107=true then (some false) else (if 0≤x9 then (if x9 < (x179000.length:Int) then (if (rd_T97 x179000 x9).f3=true then (some false) else (if ((rd_T97 x179000 x9).f0)=0 then (if ((rd_T97 x179000 x9).f1)=(-1) then (if x9 < (x3.length:Int) then (spec_QueueOk.l1 k (x3.set (x9:Int).toNat true) (wrap64 (x5 + 1)) ((rd_T97 x179000 x9).f2) x179000 x179001 x179002 x179003 x179004) else (none)) else (some false)) else (some false))) else (none)) else (none))
def spec_QueueOk.j2:Nat→List Bool→List Int→Int→Int→Int→Bool→List (S97)→Int→Int→Int→Int→Option (Bool)
 | 0,_,_,_,_,_,_,_,_,_,_,_=>none
 | k + 1,x3,x4,x5,x6,x7,x41,x179000,x179001,x179002,x179003,x179004=>if x41=true then (some false) else (if 0≤x7 then (if x7 < (x179000.length:Int) then (if ((rd_T97 x179000 x7).f3=true) then (if ((rd_T97 x179000 x7).f1)=x6 then ((spec_l01In.f ((rd_T97 x179000 x7).f0) 1 1000000000).bind fun t190=>(if t190=true then ((spec_l01Has.f k x4 ((rd_T97 x179000 x7).f0)).bind fun t191=>(if t191=true then (some false) else (if x7 < (x3.length:Int) then (if x4.length < 17592186044416 then (spec_QueueOk.l0 k (x3.set (x7:Int).toNat true) (x4 ++ [(rd_T97 x179000 x7).f0]) (wrap64 (x5 + 1)) x7 ((rd_T97 x179000 x7).f2) x179000 x179001 x179002 x179003 x179004) else (none)) else (none)))) else (some false))) else (some false)) else (some false)) else (none)) else (none))
end
def spec_QueueOk.f (k:Nat) (l0_0:List (S97)) (a0_1:Int) (a0_2:Int) (a0_3:Int) (a0_4:Int):Option (Bool):=if (l0_0.length:Int)=60 then ((spec_l01In.f a0_4 0 60).bind fun t179=>(spec_QueueOk.j0 k (!t179) l0_0 a0_1 a0_2 a0_3 a0_4)) else (spec_QueueOk.j0 k true l0_0 a0_1 a0_2 a0_3 a0_4)
theorem spec_QueueOk.mono_l:∀ k,(∀ y0 y1 y2 y3 y4 y5,LeO (spec_QueueOk.j0 k y0 y1 y2 y3 y4 y5) (spec_QueueOk.j0 (k + 1) y0 y1 y2 y3 y4 y5))∧(∀ y0 y1 y2 y3 y4 y5 y6 y7 y8 y9,LeO (spec_QueueOk.l0 k y0 y1 y2 y3 y4 y5 y6 y7 y8 y9) (spec_QueueOk.l0 (k + 1) y0 y1 y2 y3 y4 y5 y6 y7 y8 y9))∧(∀ y0 y1 y2 y3 y4 y5 y6 y7,LeO (spec_QueueOk.j3 k y0 y1 y2 y3 y4 y5 y6 y7) (spec_QueueOk.j3 (k + 1) y0 y1 y2 y3 y4 y5 y6 y7))∧(∀ y0 y1 y2 y3 y4 y5 y6 y7,LeO (spec_QueueOk.l1 k y0 y1 y2 y3 y4 y5 y6 y7) (spec_QueueOk.l1 (k + 1) y0 y1 y2 y3 y4 y5 y6 y7))∧(∀ y0 y1 y2 y3 y4 y5 y6 y7 y8,LeO (spec_QueueOk.j5 k y0 y1 y2 y3 y4 y5 y6 y7 y8) (spec_QueueOk.j5 (k + 1) y0 y1 y2 y3 y4 y5 y6 y7 y8))∧(∀ y0 y1 y2 y3 y4 y5 y6 y7 y8 y9 y10,LeO (spec_QueueOk.j2 k y0 y1 y2 y3 y4 y5 y6 y7 y8 y9 y10) (spec_QueueOk.j2 (k + 1) y0 y1 y2 y3 y4 y5 y6 y7 y8 y9 y10))
 | 0=>⟨fun _ _ _ _ _ _ r h=>by simp [spec_QueueOk.j0] at h,fun _ _ _ _ _ _ _ _ _ _ r h=>by simp [spec_QueueOk.l0] at h,fun _ _ _ _ _ _ _ _ r h=>by simp [spec_QueueOk.j3] at h,fun _ _ _ _ _ _ _ _ r h=>by simp [spec_QueueOk.l1] at h,fun _ _ _ _ _ _ _ _ _ r h=>by simp [spec_QueueOk.j5] at h,fun _ _ _ _ _ _ _ _ _ _ _ r h=>by simp [spec_QueueOk.j2] at h⟩
 | k + 1=>by
  obtain ⟨ih0,ih1,ih2,ih3,ih4,ih5⟩:=spec_QueueOk.mono_l k
  refine ⟨?_,?_,?_,?_,?_,?_⟩
  ·intro y0 y1 y2 y3 y4 y5
   unfold spec_QueueOk.j0
   repeat' first
   | (with_reducible exact ih0 _ _ _ _ _ _)
   | (with_reducible exact ih1 _ _ _ _ _ _ _ _ _ _)
   | (with_reducible exact ih2 _ _ _ _ _ _ _ _)
   | (with_reducible exact ih3 _ _ _ _ _ _ _ _)
   | (with_reducible exact ih4 _ _ _ _ _ _ _ _ _)
   | (with_reducible exact ih5 _ _ _ _ _ _ _ _ _ _ _)
   | (with_reducible exact spec_l01Has.mono _ _ _)
   | (with_reducible exact LeO.refl _)
   | (with_reducible exact LeO.none _)
   | (with_reducible refine LeO.ite ?_ ?_)
   | (with_reducible refine LeO.bind ?_ (fun _=>?_))
   | exact ih0 _ _ _ _ _ _
   | exact ih1 _ _ _ _ _ _ _ _ _ _
   | exact ih2 _ _ _ _ _ _ _ _
   | exact ih3 _ _ _ _ _ _ _ _
   | exact ih4 _ _ _ _ _ _ _ _ _
   | exact ih5 _ _ _ _ _ _ _ _ _ _ _
   | exact spec_l01Has.mono _ _ _
   | exact LeO.none _
   | refine LeO.ite ?_ ?_
   | refine LeO.bind ?_ (fun _=>?_)
  ·intro y0 y1 y2 y3 y4 y5 y6 y7 y8 y9
   unfold spec_QueueOk.l0
   repeat' first
   | (with_reducible exact ih0 _ _ _ _ _ _)
   | (with_reducible exact ih1 _ _ _ _ _ _ _ _ _ _)
   | (with_reducible exact ih2 _ _ _ _ _ _ _ _)
   | (with_reducible exact ih3 _ _ _ _ _ _ _ _)
   | (with_reducible exact ih4 _ _ _ _ _ _ _ _ _)
   | (with_reducible exact ih5 _ _ _ _ _ _ _ _ _ _ _)
   | (with_reducible exact spec_l01Has.mono _ _ _)
   | (with_reducible exact LeO.refl _)
   | (with_reducible exact LeO.none _)
   | (with_reducible refine LeO.ite ?_ ?_)
   | (with_reducible refine LeO.bind ?_ (fun _=>?_))
   | exact ih0 _ _ _ _ _ _
   | exact ih1 _ _ _ _ _ _ _ _ _ _
   | exact ih2 _ _ _ _ _ _ _ _
   | exact ih3 _ _ _ _ _ _ _ _
   | exact ih4 _ _ _ _ _ _ _ _ _
   | exact ih5 _ _ _ _ _ _ _ _ _ _ _
   | exact spec_l01Has.mono _ _ _
   | exact LeO.none _
   | refine LeO.ite ?_ ?_
   | refine LeO.bind ?_ (fun _=>?_)
  ·intro y0 y1 y2 y3 y4 y5 y6 y7
   unfold spec_QueueOk.j3
   repeat' first
   | (with_reducible exact ih0 _ _ _ _ _ _)
   | (with_reducible exact ih1 _ _ _ _ _ _ _ _ _ _)
   | (with_reducible exact ih2 _ _ _ _ _ _ _ _)
   | (with_reducible exact ih3 _ _ _ _ _ _ _ _)
   | (with_reducible exact ih4 _ _ _ _ _ _ _ _ _)
   | (with_reducible exact ih5 _ _ _ _ _ _ _ _ _ _ _)
   | (with_reducible exact spec_l01Has.mono _ _ _)
   | (with_reducible exact LeO.refl _)
   | (with_reducible exact LeO.none _)
   | (with_reducible refine LeO.ite ?_ ?_)
   | (with_reducible refine LeO.bind ?_ (fun _=>?_))
   | exact ih0 _ _ _ _ _ _
   | exact ih1 _ _ _ _ _ _ _ _ _ _
   | exact ih2 _ _ _ _ _ _ _ _
   | exact ih3 _ _ _ _ _ _ _ _
   | exact ih4 _ _ _ _ _ _ _ _ _
   | exact ih5 _ _ _ _ _ _ _ _ _ _ _
   | exact spec_l01Has.mono _ _ _
   | exact LeO.none _
   | refine LeO.ite ?_ ?_
   | refine LeO.bind ?_ (fun _=>?_)
  ·intro y0 y1 y2 y3 y4 y5 y6 y7
   unfold spec_QueueOk.l1
   repeat' first
   | (with_reducible exact ih0 _ _ _ _ _ _)
   | (with_reducible exact ih1 _ _ _ _ _ _ _ _ _ _)
   | (with_reducible exact ih2 _ _ _ _ _ _ _ _)
   | (with_reducible exact ih3 _ _ _ _ _ _ _ _)
   | (with_reducible exact ih4 _ _ _ _ _ _ _ _ _)
   | (with_reducible exact ih5 _ _ _ _ _ _ _ _ _ _ _)
   | (with_reducible exact spec_l01Has.mono _ _ _)
   | (with_reducible exact LeO.refl _)
   | (with_reducible exact LeO.none _)
   | (with_reducible refine LeO.ite ?_ ?_)
   | (with_reducible refine LeO.bind ?_ (fun _=>?_))
   | exact ih0 _ _ _ _ _ _
   | exact ih1 _ _ _ _ _ _ _ _ _ _
   | exact ih2 _ _ _ _ _ _ _ _
   | exact ih3 _ _ _ _ _ _ _ _
   | exact ih4 _ _ _ _ _ _ _ _ _
   | exact ih5 _ _ _ _ _ _ _ _ _ _ _
   | exact spec_l01Has.mono _ _ _
   | exact LeO.none _
   | refine LeO.ite ?_ ?_
   | refine LeO.bind ?_ (fun _=>?_)
  ·intro y0 y1 y2 y3 y4 y5 y6 y7 y8
   unfold spec_QueueOk.j5
   repeat' first
   | (with_reducible exact ih0 _ _ _ _ _ _)
   | (with_reducible exact ih1 _ _ _ _ _ _ _ _ _ _)
   | (with_reducible exact ih2 _ _ _ _ _ _ _ _)
   | (with_reducible exact ih3 _ _ _ _ _ _ _ _)
   | (with_reducible exact ih4 _ _ _ _ _ _ _ _ _)
   | (with_reducible exact ih5 _ _ _ _ _ _ _ _ _ _ _)
   | (with_reducible exact spec_l01Has.mono _ _ _)
   | (with_reducible exact LeO.refl _)
   | (with_reducible exact LeO.none _)
   | (with_reducible refine LeO.ite ?_ ?_)
   | (with_reducible refine LeO.bind ?_ (fun _=>?_))
   | exact ih0 _ _ _ _ _ _
   | exact ih1 _ _ _ _ _ _ _ _ _ _
   | exact ih2 _ _ _ _ _ _ _ _
   | exact ih3 _ _ _ _ _ _ _ _
   | exact ih4 _ _ _ _ _ _ _ _ _
   | exact ih5 _ _ _ _ _ _ _ _ _ _ _
   | exact spec_l01Has.mono _ _ _
   | exact LeO.none _
   | refine LeO.ite ?_ ?_
   | refine LeO.bind ?_ (fun _=>?_)
  ·intro y0 y1 y2 y3 y4 y5 y6 y7 y8 y9 y10
   unfold spec_QueueOk.j2
   repeat' first
   | (with_reducible exact ih0 _ _ _ _ _ _)
   | (with_reducible exact ih1 _ _ _ _ _ _ _ _ _ _)
   | (with_reducible exact ih2 _ _ _ _ _ _ _ _)
   | (with_reducible exact ih3 _ _ _ _ _ _ _ _)
   | (with_reducible exact ih4 _ _ _ _ _ _ _ _ _)
   | (with_reducible exact ih5 _ _ _ _ _ _ _ _ _ _ _)
   | (with_reducible exact spec_l01Has.mono _ _ _)
   | (with_reducible exact LeO.refl _)
   | (with_reducible exact LeO.none _)
   | (with_reducible refine LeO.ite ?_ ?_)
   | (with_reducible refine LeO.bind ?_ (fun _=>?_))
   | exact ih0 _ _ _ _ _ _
   | exact ih1 _ _ _ _ _ _ _ _ _ _
   | exact ih2 _ _ _ _ _ _ _ _
   | exact ih3 _ _ _ _ _ _ _ _
   | exact ih4 _ _ _ _ _ _ _ _ _
   | exact ih5 _ _ _ _ _ _ _ _ _ _ _
   | exact spec_l01Has.mono _ _ _
   | exact LeO.none _
   | refine LeO.ite ?_ ?_
   | refine LeO.bind ?_ (fun _=>?_)
theorem spec_QueueOk.mono:∀ a0 a1 a2 a3 a4 k,LeO (spec_QueueOk.f k a0 a1 a2 a3 a4) (spec_QueueOk.f (k + 1) a0 a1 a2 a3 a4):=by
 intro a0 a1 a2 a3 a4 k
 obtain ⟨ih0,ih1,ih2,ih3,ih4,ih5⟩:=spec_QueueOk.mono_l k
 unfold spec_QueueOk.f
 repeat' first
   | (with_reducible exact ih0 _ _ _ _ _ _)
   | (with_reducible exact ih1 _ _ _ _ _ _ _ _ _ _)
   | (with_reducible exact ih2 _ _ _ _ _ _ _ _)
   | (with_reducible exact ih3 _ _ _ _ _ _ _ _)
   | (with_reducible exact ih4 _ _ _ _ _ _ _ _ _)
   | (with_reducible exact ih5 _ _ _ _ _ _ _ _ _ _ _)
   | (with_reducible exact spec_l01Has.mono _ _ _)
   | (with_reducible exact LeO.refl _)
   | (with_reducible exact LeO.none _)
   | (with_reducible refine LeO.ite ?_ ?_)
   | (with_reducible refine LeO.bind ?_ (fun _=>?_))
   | exact ih0 _ _ _ _ _ _
   | exact ih1 _ _ _ _ _ _ _ _ _ _
   | exact ih2 _ _ _ _ _ _ _ _
   | exact ih3 _ _ _ _ _ _ _ _
   | exact ih4 _ _ _ _ _ _ _ _ _
   | exact ih5 _ _ _ _ _ _ _ _ _ _ _
   | exact spec_l01Has.mono _ _ _
   | exact LeO.none _
   | refine LeO.ite ?_ ?_
   | refine LeO.bind ?_ (fun _=>?_)
set_option maxHeartbeats 8000000 in
set_option maxRecDepth 100000 in
theorem spec_QueueOk.calls (k:Nat) (A0_0:Option Addr) (c0_0:Nat) (l0_0:List (S97)) (a0_1:Int) (a0_2:Int) (a0_3:Int) (a0_4:Int) (r:Bool) (w:World) (hr0_0:Kd.C k97 w A0_0 l0_0.length l0_0) (hc0_0:l0_0.length≤c0_0) (h:spec_QueueOk.f k l0_0 a0_1 a0_2 a0_3 a0_4=some r) :
  Calls Try.prog 60 #[.agg #[.slice A0_0 l0_0.length c0_0,.int .i64 a0_1,.int .i64 a0_2,.int .i64 a0_3,.int .i64 a0_4]] w fun e w'=>e = .returned (.bool r)∧Below w.heap.size w w':=by
 have hu28:=Try.underlying28
 have hu97:=Try.underlying97
 have HR0_0:=Aside0.mk hr0_0
 have HC0_0:=Aside0.mk hc0_0
 clear hr0_0 hc0_0
 have HB:=Aside0.mk (Below.refl w.heap.size w)
 have H:(if (l0_0.length:Int)=60 then ((spec_l01In.f a0_4 0 60).bind fun t179=>(spec_QueueOk.j0 k (!t179) l0_0 a0_1 a0_2 a0_3 a0_4)) else (spec_QueueOk.j0 k true l0_0 a0_1 a0_2 a0_3 a0_4))=some r:=h
 clear h
 have HC2:=Aside0.mk H
 clear H
 go_enter Try.func60,Try.ntmps60
 go_upto_region 1 with (first|((with_reducible refine gate_dst (N:=1) rfl ?_);refine bx 1 #[.slice A0_0 l0_0.length c0_0,.int .i64 a0_1,.int .i64 a0_2,.int .i64 a0_3,.int .i64 a0_4] 28 ?_;intro gb178 hg w3 hbox hb;have BK178:=Aside0.mk (hbox);have GW178:=Aside0.mk (bz hg:w.heap.size≤gb178);have GE178:=GW178;replace HB:=Aside0.mk (below_step bl hb);clear hb hbox hg))
 (try simp only [Act.put,List.setIfInBounds_toArray,List.set_cons_zero,List.set_cons_succ])
 go_cut [20] (fun v20 wc=>∃ (kq:Nat) (x20_1:Bool),v20 = .bool x20_1∧Aside0 (spec_QueueOk.j0 kq x20_1 l0_0 a0_1 a0_2 a0_3 a0_4=some r)∧Aside0 (kq≤k)∧Aside0 (wc.heap[gb178]? = some (.cells #[(.slice A0_0 l0_0.length c0_0),.int .i64 a0_1,.int .i64 a0_2,.int .i64 a0_3,.int .i64 a0_4] 28 (0,0)))∧Aside0 (Below w.heap.size w wc))
 case first =>
  have H:=HC2.out
  clear HC2
  by_cases c4:(l0_0.length:Int)=60
  ·rw [if_pos c4] at H
   have c4b0:((l0_0.length:Int) == 60)=true:=beq_iff_eq.mpr c4
   have c4b1:((l0_0.length:Int) != 60)=false:=bne_eq_false_iff_eq.mpr c4
   clear c4
   (first|rw [c4b0]|(simp only [i64_w,i32_w];rw [c4b0])|skip)
   replace H:=Option.bind_eq_some_iff.mp H
   obtain ⟨t179,A50,H⟩:=H
   have A5:=Aside0.mk A50
   clear A50
   have H':=Aside0.mk H
   clear H
   obtain ⟨hcz6_0,hcz6_1,hcz6_2,hcz6_3,hcz6_4,hfz6_0,hfz6_1,hfz6_2,hfz6_3,hfz6_4⟩:=ck5 BK178.out
   go_wp2_with (first|(go_at_call 83;(with_reducible refine (spec_l01In.calls a0_4 0 60 t179 _ A5.out).mono ?_);rintro e w' ⟨rfl,⟨nd,rfl⟩⟩))
   go_meet
   case rel=>exact ⟨_,(!t179),(by first|rfl|(simp;done)|(simp [*];done)),H',⟨by first|omega|exact Nat.le_refl _⟩,⟨bk BK178⟩,⟨bl⟩⟩
  ·rw [if_neg c4] at H
   have c4b0:((l0_0.length:Int) == 60)=false:=beq_eq_false_iff_ne.mpr c4
   have c4b1:((l0_0.length:Int) != 60)=true:=bne_iff_ne.mpr c4
   (first|rw [c4b0]|(simp only [i64_w,i32_w];rw [c4b0])|skip)
   have H':=Aside0.mk H
   clear H
   obtain ⟨hcz7_0,hcz7_1,hcz7_2,hcz7_3,hcz7_4,hfz7_0,hfz7_1,hfz7_2,hfz7_3,hfz7_4⟩:=ck5 BK178.out
   go_wp2
   go_meet
   case rel=>exact ⟨_,(true),(by first|rfl|(simp;done)|(simp [*];done)),H',⟨by first|omega|exact Nat.le_refl _⟩,⟨bk BK178⟩,⟨bl⟩⟩
 case rest =>
  clear HC2
  try clear p2
  try clear c4
  try clear c4b0
  try clear c4b1
  try clear c6
  try clear hcz6_0
  try clear hcz6_1
  try clear hcz6_2
  try clear hcz6_3
  try clear hcz6_4
  try clear hcz7_0
  try clear hcz7_1
  try clear hcz7_2
  try clear hcz7_3
  try clear hcz7_4
  try clear hfz6_0
  try clear hfz6_1
  try clear hfz6_2
  try clear hfz6_3
  try clear hfz6_4
  try clear hfz7_0
  try clear hfz7_1
  try clear hfz7_2
  try clear hfz7_3
  try clear hfz7_4
  obtain ⟨kq,x20_1,rfl,HA,HJ1,BK178,HB⟩:=hcut
  cases kq with
  | zero=>exact absurd HA.out (by simp [spec_QueueOk.j0])
  | succ kj1 =>
   have H:=HA.out
   clear HA
   simp only [spec_QueueOk.j0] at H
   by_cases c8:x20_1=true
   ·subst c8
    rw [if_pos rfl] at H
    obtain rfl:=Option.some.inj H
    go_wp2
    go_ret
    exact ⟨er,bl⟩
   ·replace c8:=Bool.eq_false_iff.mpr c8
    subst c8
    rw [if_neg nft] at H
    by_cases c9:60≤281474976710656
    ·rw [if_pos c9] at H
     have c9b0:=eq_true c9
     have c9b1:decide (60≤281474976710656)=true:=decide_eq_true c9
     clear c9
     obtain ⟨y180,hy180⟩:∃ y_:List Bool,y_=(List.replicate 60 false):=⟨_,rfl⟩
     replace H:(spec_QueueOk.l0 kj1 y180 (([]:List Int)) 0 (-1) a0_1 l0_0 a0_1 a0_2 a0_3 a0_4)=some r:=by first|(rw [hy180];with_reducible exact H)|(have H2_:=(Option.bind_some _ _).symm.trans H;rw [hy180];with_reducible exact H2_)|(have H2_:=(Option.bind_some _ _).symm.trans H;with_reducible exact H2_)|with_reducible exact H|(rw [hy180];exact H)|exact H
     have Ny180:=Aside0.mk hy180
     clear hy180
     obtain ⟨y183,hy183⟩:∃ y_:List Int,y_=(([]:List Int)):=⟨_,rfl⟩
     replace H:(spec_QueueOk.l0 kj1 y180 y183 0 (-1) a0_1 l0_0 a0_1 a0_2 a0_3 a0_4)=some r:=by first|(rw [hy183];with_reducible exact H)|(have H2_:=(Option.bind_some _ _).symm.trans H;rw [hy183];with_reducible exact H2_)|(have H2_:=(Option.bind_some _ _).symm.trans H;with_reducible exact H2_)|with_reducible exact H|(rw [hy183];exact H)|exact H
     have Ny183:=Aside0.mk hy183
     clear hy183
     have H':=Aside0.mk H
     clear H
     go_wp2_with (first|((with_reducible refine gate_dst (N:=21) rfl ?_);refine Kd.R_make Kd.bool _ 4 rfl (N:=21) rfl 107 _ _ rfl 60 rfl rfl Try.underlying107 (.bool false) 1 info4 rfl (by decide) (by omega) false (ok:=fun _=>True) (okp:=fun _=>True) rfl (fun _ hk=>hk) trivial (by omega) (by omega) (Below.refl _ _) (Nat.le_refl _) ?_;intro v181 w10 ho11 hb hg_ hnew_;clear hg_ hnew_;(first|rw [← Ny180.out] at ho11|(simp only [Int.reduceToNat] at ho11;rw [← Ny180.out] at ho11));have HO182:=Aside0.mk (Kd.R_lower ho11 (below_size bl));replace BK178:=Aside0.mk (blk_below (bk BK178) hb);replace HB:=Aside0.mk (below_step bl hb);clear hb ho11)|((with_reducible refine gate_dst (N:=22) rfl ?_);refine Kd.R_lit (Kd.int .i64) _ 3 ?hg (N:=22) ?hd (xs:=([]:List Int)) (inner:=[]) (ok:=fun _=>True) (okp:=fun _=>True) ?hr ?hp (fun _ hk=>hk) trivial (Below.refl _ _) (Nat.le_refl _) (by simp) ?_;(case hd=>rfl);(case hg=>rfl);(case hr=>first|(go_simp;done)|(go_simp;rfl));(case hp=>exact (Reps.none _ _));intro v184 w12 ho13 hb hg_ hnew_;clear hg_ hnew_;(first|rw [← Ny183.out] at ho13|(simp only [Int.reduceToNat] at ho13;rw [← Ny183.out] at ho13));replace HO182:=Aside0.mk (Kd.R_below (kr HO182) hb);have HO185:=Aside0.mk (Kd.R_lower ho13 (below_size bl));replace BK178:=Aside0.mk (blk_below (bk BK178) hb);replace HB:=Aside0.mk (below_step bl hb);clear hb ho13;obtain ⟨hcz14_0,hcz14_1,hcz14_2,hcz14_3,hcz14_4,hfz14_0,hfz14_1,hfz14_2,hfz14_3,hfz14_4⟩:=ck5 BK178.out))
     go_loopg [4,5,6,7] kj1 (fun kq v4 v5 v6 v7 w'=>∃ (x3_2:List Bool) (x4_2:List Int) (x5_2:Int) (x6_2:Int) (x7_2:Int),v5 = .int .i64 x5_2∧v6 = .int .i64 x6_2∧v7 = .int .i64 x7_2∧Aside0 (spec_QueueOk.l0 kq x3_2 x4_2 x5_2 x6_2 x7_2 l0_0 a0_1 a0_2 a0_3 a0_4=some r)∧Aside0 (kq≤kj1)∧Aside0 (Kd.R Kd.bool 4 w' w.heap.size (fun _=>True) v181 x3_2)∧Aside0 (Kd.R (Kd.int .i64) 3 w' w.heap.size (fun _=>True) v4 x4_2)∧Aside0 (w'.heap[gb178]? = some (.cells #[(.slice A0_0 l0_0.length c0_0),.int .i64 a0_1,.int .i64 a0_2,.int .i64 a0_3,.int .i64 a0_4] 28 (0,0)))∧Aside0 (Below w.heap.size w w'))
     case atStart=>exact ⟨(y180),(y183),(0),((-1)),(a0_1),(by first|rfl|(simp;done)|(simp [*];done)),(by first|rfl|(simp;done)|(simp [*];done)),(by first|rfl|(simp;done)|(simp [*];done)),H',⟨Nat.le_refl _⟩,⟨kr HO182⟩,⟨kr HO185⟩,⟨bk BK178⟩,⟨bl⟩⟩
     case round =>
      clear H'
      try clear p2
      try clear c4
      try clear c4b0
      try clear c4b1
      try clear c6
      try clear c8
      try clear c9
      try clear c9b0
      try clear c9b1
      try clear hcz14_0
      try clear hcz14_1
      try clear hcz14_2
      try clear hcz14_3
      try clear hcz14_4
      try clear hcz6_0
      try clear hcz6_1
      try clear hcz6_2
      try clear hcz6_3
      try clear hcz6_4
      try clear hcz7_0
      try clear hcz7_1
      try clear hcz7_2
      try clear hcz7_3
      try clear hcz7_4
      try clear hfz14_0
      try clear hfz14_1
      try clear hfz14_2
      try clear hfz14_3
      try clear hfz14_4
      try clear hfz6_0
      try clear hfz6_1
      try clear hfz6_2
      try clear hfz6_3
      try clear hfz6_4
      try clear hfz7_0
      try clear hfz7_1
      try clear hfz7_2
      try clear hfz7_3
      try clear hfz7_4
      try clear p2
      obtain ⟨x3_2,x4_2,x5_2,x6_2,x7_2,rfl,rfl,rfl,HA,HK2,HO_3,HO_4,BK178,HB⟩:=hrel
      cases gk with
      | zero=>exact absurd HA.out (by simp [spec_QueueOk.l0])
      | succ k2 =>
       have H:=HA.out
       clear HA
       simp only [spec_QueueOk.l0] at H
       by_cases c15:x7_2=(-1)
       ·rw [if_pos c15] at H
        have c15b0:(x7_2 == (-1))=true:=beq_iff_eq.mpr c15
        have c15b1:(x7_2 != (-1))=false:=bne_eq_false_iff_eq.mpr c15
        clear c15
        have HC16:=Aside0.mk H
        clear H
        go_upto_region 19 with (fail)
        go_cut [88] (fun v88 wc=>∃ (kq:Nat) (x88_15:Bool),v88 = .bool x88_15∧Aside0 (spec_QueueOk.j3 kq x3_2 x5_2 x88_15 l0_0 a0_1 a0_2 a0_3 a0_4=some r)∧Aside0 (kq≤k2)∧Aside0 (Kd.R Kd.bool 4 wc w.heap.size (fun _=>True) v181 x3_2)∧Aside0 (wc.heap[gb178]? = some (.cells #[(.slice A0_0 l0_0.length c0_0),.int .i64 a0_1,.int .i64 a0_2,.int .i64 a0_3,.int .i64 a0_4] 28 (0,0)))∧Aside0 (Below w.heap.size w wc))
        case first =>
         have H:=HC16.out
         clear HC16
         by_cases c17:x5_2=a0_4
         ·rw [if_pos c17] at H
          have c17b0:(x5_2 == a0_4)=true:=beq_iff_eq.mpr c17
          have c17b1:(x5_2 != a0_4)=false:=bne_eq_false_iff_eq.mpr c17
          clear c17
          (first|rw [c17b0]|(simp only [i64_w,i32_w];rw [c17b0])|skip)
          have H':=Aside0.mk H
          clear H
          obtain ⟨hcz18_0,hcz18_1,hcz18_2,hcz18_3,hcz18_4,hfz18_0,hfz18_1,hfz18_2,hfz18_3,hfz18_4⟩:=ck5 BK178.out
          go_wp2
          go_meet
          case rel=>exact ⟨_,((a0_2 != x6_2)),(by first|rfl|(simp;done)|(simp [*];done)),H',⟨by have:=HJ1.out;have:=HK2.out;first|omega|exact Nat.le_refl _⟩,⟨kr HO_3⟩,⟨bk BK178⟩,⟨bl⟩⟩
         ·rw [if_neg c17] at H
          have c17b0:(x5_2 == a0_4)=false:=beq_eq_false_iff_ne.mpr c17
          have c17b1:(x5_2 != a0_4)=true:=bne_iff_ne.mpr c17
          (first|rw [c17b0]|(simp only [i64_w,i32_w];rw [c17b0])|skip)
          have H':=Aside0.mk H
          clear H
          obtain ⟨hcz19_0,hcz19_1,hcz19_2,hcz19_3,hcz19_4,hfz19_0,hfz19_1,hfz19_2,hfz19_3,hfz19_4⟩:=ck5 BK178.out
          go_wp2
          go_meet
          case rel=>exact ⟨_,(true),(by first|rfl|(simp;done)|(simp [*];done)),H',⟨by have:=HJ1.out;have:=HK2.out;first|omega|exact Nat.le_refl _⟩,⟨kr HO_3⟩,⟨bk BK178⟩,⟨bl⟩⟩
        case rest =>
         clear HC16
         try clear c1
         try clear p2
         try clear c4
         try clear c4b0
         try clear c4b1
         try clear c6
         try clear c8
         try clear c9
         try clear c9b0
         try clear c9b1
         try clear c15
         try clear c15b0
         try clear c15b1
         try clear c17
         try clear c17b0
         try clear c17b1
         try clear hcz14_0
         try clear hcz14_1
         try clear hcz14_2
         try clear hcz14_3
         try clear hcz14_4
         try clear hcz18_0
         try clear hcz18_1
         try clear hcz18_2
         try clear hcz18_3
         try clear hcz18_4
         try clear hcz19_0
         try clear hcz19_1
         try clear hcz19_2
         try clear hcz19_3
         try clear hcz19_4
         try clear hcz6_0
         try clear hcz6_1
         try clear hcz6_2
         try clear hcz6_3
         try clear hcz6_4
         try clear hcz7_0
         try clear hcz7_1
         try clear hcz7_2
         try clear hcz7_3
         try clear hcz7_4
         try clear hfz14_0
         try clear hfz14_1
         try clear hfz14_2
         try clear hfz14_3
         try clear hfz14_4
         try clear hfz18_0
         try clear hfz18_1
         try clear hfz18_2
         try clear hfz18_3
         try clear hfz18_4
         try clear hfz19_0
         try clear hfz19_1
         try clear hfz19_2
         try clear hfz19_3
         try clear hfz19_4
         try clear hfz6_0
         try clear hfz6_1
         try clear hfz6_2
         try clear hfz6_3
         try clear hfz6_4
         try clear hfz7_0
         try clear hfz7_1
         try clear hfz7_2
         try clear hfz7_3
         try clear hfz7_4
         try clear p2
         obtain ⟨kq,x88_15,rfl,HA,HJ15,HO_3,BK178,HB⟩:=hcut
         cases kq with
         | zero=>exact absurd HA.out (by simp [spec_QueueOk.j3])
         | succ kj15 =>
          have H:=HA.out
          clear HA
          simp only [spec_QueueOk.j3] at H
          by_cases c20:x88_15=true
          ·subst c20
           rw [if_pos rfl] at H
           obtain rfl:=Option.some.inj H
           go_wp2
           go_ret
           exact ⟨er,bl⟩
          ·replace c20:=Bool.eq_false_iff.mpr c20
           subst c20
           rw [if_neg nft] at H
           have H':=Aside0.mk H
           clear H
           obtain ⟨hcz21_0,hcz21_1,hcz21_2,hcz21_3,hcz21_4,hfz21_0,hfz21_1,hfz21_2,hfz21_3,hfz21_4⟩:=ck5 BK178.out
           go_wp2
           go_loopg [5,9] kj15 (fun kq v5 v9 w'=>∃ (x3_4:List Bool) (x5_4:Int) (x9_4:Int),v5 = .int .i64 x5_4∧v9 = .int .i64 x9_4∧Aside0 (spec_QueueOk.l1 kq x3_4 x5_4 x9_4 l0_0 a0_1 a0_2 a0_3 a0_4=some r)∧Aside0 (kq≤kj15)∧Aside0 (Kd.R Kd.bool 4 w' w.heap.size (fun _=>True) v181 x3_4)∧Aside0 (w'.heap[gb178]? = some (.cells #[(.slice A0_0 l0_0.length c0_0),.int .i64 a0_1,.int .i64 a0_2,.int .i64 a0_3,.int .i64 a0_4] 28 (0,0)))∧Aside0 (Below w.heap.size w w'))
           case atStart=>exact ⟨(x3_2),(x5_2),(a0_3),(by first|rfl|(simp;done)|(simp [*];done)),(by first|rfl|(simp;done)|(simp [*];done)),H',⟨Nat.le_refl _⟩,⟨kr HO_3⟩,⟨bk BK178⟩,⟨bl⟩⟩
           case round =>
            clear H'
            try clear c1
            try clear c2
            try clear p2
            try clear c4
            try clear c4b0
            try clear c4b1
            try clear c6
            try clear c8
            try clear c9
            try clear c9b0
            try clear c9b1
            try clear c15
            try clear c15b0
            try clear c15b1
            try clear c17
            try clear c17b0
            try clear c17b1
            try clear c20
            try clear hcz14_0
            try clear hcz14_1
            try clear hcz14_2
            try clear hcz14_3
            try clear hcz14_4
            try clear hcz18_0
            try clear hcz18_1
            try clear hcz18_2
            try clear hcz18_3
            try clear hcz18_4
            try clear hcz19_0
            try clear hcz19_1
            try clear hcz19_2
            try clear hcz19_3
            try clear hcz19_4
            try clear hcz21_0
            try clear hcz21_1
            try clear hcz21_2
            try clear hcz21_3
            try clear hcz21_4
            try clear hcz6_0
            try clear hcz6_1
            try clear hcz6_2
            try clear hcz6_3
            try clear hcz6_4
            try clear hcz7_0
            try clear hcz7_1
            try clear hcz7_2
            try clear hcz7_3
            try clear hcz7_4
            try clear hfz14_0
            try clear hfz14_1
            try clear hfz14_2
            try clear hfz14_3
            try clear hfz14_4
            try clear hfz18_0
            try clear hfz18_1
            try clear hfz18_2
            try clear hfz18_3
            try clear hfz18_4
            try clear hfz19_0
            try clear hfz19_1
            try clear hfz19_2
            try clear hfz19_3
            try clear hfz19_4
            try clear hfz21_0
            try clear hfz21_1
            try clear hfz21_2
            try clear hfz21_3
            try clear hfz21_4
            try clear hfz6_0
            try clear hfz6_1
            try clear hfz6_2
            try clear hfz6_3
            try clear hfz6_4
            try clear hfz7_0
            try clear hfz7_1
            try clear hfz7_2
            try clear hfz7_3
            try clear hfz7_4
            try clear p2
            obtain ⟨x3_4,x5_4,x9_4,rfl,rfl,HA,HK4,HO_3,BK178,HB⟩:=hrel
            cases gk with
            | zero=>exact absurd HA.out (by simp [spec_QueueOk.l1])
            | succ k4 =>
             have H:=HA.out
             clear HA
             simp only [spec_QueueOk.l1] at H
             by_cases c22:x9_4=(-1)
             ·rw [if_pos c22] at H
              have c22b0:(x9_4 == (-1))=true:=beq_iff_eq.mpr c22
              have c22b1:(x9_4 != (-1))=false:=bne_eq_false_iff_eq.mpr c22
              clear c22
              obtain rfl:=Option.some.inj H
              go_wp2
              go_ret
              exact ⟨er,bl⟩
             ·rw [if_neg c22] at H
              have c22b0:(x9_4 == (-1))=false:=beq_eq_false_iff_ne.mpr c22
              have c22b1:(x9_4 != (-1))=true:=bne_iff_ne.mpr c22
              have HC23:=Aside0.mk H
              clear H
              go_upto_region 24 with (fail)
              go_cut [107] (fun v107 wc=>∃ (kq:Nat) (x107_22:Bool),v107 = .bool x107_22∧Aside0 (spec_QueueOk.j5 kq x3_4 x5_4 x9_4 x107_22 l0_0 a0_1 a0_2 a0_3 a0_4=some r)∧Aside0 (kq≤k4)∧Aside0 (Kd.R Kd.bool 4 wc w.heap.size (fun _=>True) v181 x3_4)∧Aside0 (wc.heap[gb178]? = some (.cells #[(.slice A0_0 l0_0.length c0_0),.int .i64 a0_1,.int .i64 a0_2,.int .i64 a0_3,.int .i64 a0_4] 28 (0,0)))∧Aside0 (Below w.heap.size w wc))
              case first =>
               have H:=HC23.out
               clear HC23
               replace H:=Option.bind_eq_some_iff.mp H
               obtain ⟨t197,A240,H⟩:=H
               have A24:=Aside0.mk A240
               clear A240
               by_cases c25:t197=true
               ·subst c25
                rw [if_pos rfl] at H
                by_cases c26:0≤x9_4
                case neg =>
                 rw [if_neg c26] at H
                 exact absurd H (by simp)
                rw [if_pos c26] at H
                have c26b0:decide (0≤x9_4)=true:=decide_eq_true c26
                clear c26
                (first|rw [c26b0]|(simp only [i64_w,i32_w];rw [c26b0])|skip)
                by_cases c27:x9_4 < (x3_4.length:Int)
                case neg =>
                 rw [if_neg c27] at H
                 exact absurd H (by simp)
                rw [if_pos c27] at H
                have c27b0:decide (x9_4 < (x3_4.length:Int))=true:=decide_eq_true c27
                clear c27
                have H':=Aside0.mk H
                clear H
                go_wp2_with (first|((with_reducible refine gate_callee (f:=83) rfl ?_);refine gl (some 100) Try.func83 #[.int .i64 x9_4,.int .i64 0,.int .i64 59] ?_;(with_reducible refine (spec_l01In.calls x9_4 0 59 true _ A24.out).mono ?_);rintro e w' ⟨rfl,⟨nd,rfl⟩⟩;refine ⟨_,rfl,?_⟩;obtain ⟨Ao28,co28,eo28⟩:=Kd.R_slice HO_3.out;subst eo28;have p198:0≤(x9_4:Int):=od;have q198:x9_4 < (x3_4.length:Int):=od;obtain ⟨ad198,e198,hx198_0⟩:=Kd.at_bool (Kd.R_reads' HO_3.out).2.2 x9_4 p198 q198;cases e198;replace p198:=eq_true p198;replace q198:=eq_true q198))
                go_meet
                case rel=>exact ⟨_,(rdOf false x3_4 x9_4),(by first|rfl|(simp;done)|(simp [*];done)),H',⟨by have:=HJ1.out;have:=HK2.out;have:=HJ15.out;have:=HK4.out;first|omega|exact Nat.le_refl _⟩,⟨kr HO_3⟩,⟨bk BK178⟩,⟨bl⟩⟩
               ·replace c25:=Bool.eq_false_iff.mpr c25
                subst c25
                rw [if_neg nft] at H
                have H':=Aside0.mk H
                clear H
                go_wp2_with (first|((with_reducible refine gate_callee (f:=83) rfl ?_);refine gl (some 100) Try.func83 #[.int .i64 x9_4,.int .i64 0,.int .i64 59] ?_;(with_reducible refine (spec_l01In.calls x9_4 0 59 false _ A24.out).mono ?_);rintro e w' ⟨rfl,⟨nd,rfl⟩⟩;refine ⟨_,rfl,?_⟩))
                go_meet
                case rel=>exact ⟨_,(true),(by first|rfl|(simp;done)|(simp [*];done)),H',⟨by have:=HJ1.out;have:=HK2.out;have:=HJ15.out;have:=HK4.out;first|omega|exact Nat.le_refl _⟩,⟨kr HO_3⟩,⟨bk BK178⟩,⟨bl⟩⟩
              case rest =>
               clear HC23
               try clear c1
               try clear p1
               try clear q1
               try clear hx1
               try clear c2
               try clear p2
               try clear c4
               try clear c4b0
               try clear c4b1
               try clear c6
               try clear c8
               try clear c9
               try clear c9b0
               try clear c9b1
               try clear c15
               try clear c15b0
               try clear c15b1
               try clear c17
               try clear c17b0
               try clear c17b1
               try clear p19
               try clear q19
               try clear hx19
               try clear c20
               try clear c22
               try clear c22b0
               try clear c22b1
               try clear c25
               try clear c26
               try clear c26b0
               try clear c27
               try clear c27b0
               try clear hcz14_0
               try clear hcz14_1
               try clear hcz14_2
               try clear hcz14_3
               try clear hcz14_4
               try clear hcz18_0
               try clear hcz18_1
               try clear hcz18_2
               try clear hcz18_3
               try clear hcz18_4
               try clear hcz19_0
               try clear hcz19_1
               try clear hcz19_2
               try clear hcz19_3
               try clear hcz19_4
               try clear hcz21_0
               try clear hcz21_1
               try clear hcz21_2
               try clear hcz21_3
               try clear hcz21_4
               try clear hcz6_0
               try clear hcz6_1
               try clear hcz6_2
               try clear hcz6_3
               try clear hcz6_4
               try clear hcz7_0
               try clear hcz7_1
               try clear hcz7_2
               try clear hcz7_3
               try clear hcz7_4
               try clear hfz14_0
               try clear hfz14_1
               try clear hfz14_2
               try clear hfz14_3
               try clear hfz14_4
               try clear hfz18_0
               try clear hfz18_1
               try clear hfz18_2
               try clear hfz18_3
               try clear hfz18_4
               try clear hfz19_0
               try clear hfz19_1
               try clear hfz19_2
               try clear hfz19_3
               try clear hfz19_4
               try clear hfz21_0
               try clear hfz21_1
               try clear hfz21_2
               try clear hfz21_3
               try clear hfz21_4
               try clear hfz6_0
               try clear hfz6_1
               try clear hfz6_2
               try clear hfz6_3
               try clear hfz6_4
               try clear hfz7_0
               try clear hfz7_1
               try clear hfz7_2
               try clear hfz7_3
               try clear hfz7_4
               try clear hx198_0
               try clear p198
               try clear p2
               try clear q198
               obtain ⟨kq,x107_22,rfl,HA,HJ22,HO_3,BK178,HB⟩:=hcut
               cases kq with
               | zero=>exact absurd HA.out (by simp [spec_QueueOk.j5])
               | succ kj22 =>
                have H:=HA.out
                clear HA
                simp only [spec_QueueOk.j5] at H
                by_cases c29:x107_22=true
                ·subst c29
                 rw [if_pos rfl] at H
                 obtain rfl:=Option.some.inj H
                 go_wp2
                 go_ret
                 exact ⟨er,bl⟩
                ·replace c29:=Bool.eq_false_iff.mpr c29
                 subst c29
                 rw [if_neg nft] at H
                 by_cases c30:0≤x9_4
                 case neg =>
                  rw [if_neg c30] at H
                  exact absurd H (by simp)
                 rw [if_pos c30] at H
                 have c30b0:decide (0≤x9_4)=true:=decide_eq_true c30
                 clear c30
                 by_cases c31:x9_4 < (l0_0.length:Int)
                 case neg =>
                  rw [if_neg c31] at H
                  exact absurd H (by simp)
                 rw [if_pos c31] at H
                 have c31b0:decide (x9_4 < (l0_0.length:Int))=true:=decide_eq_true c31
                 clear c31
                 obtain ⟨bq32,hbq32⟩:∃ b_:Bool,b_=((rd_T97 l0_0 x9_4).f3):=⟨_,rfl⟩
                 replace H:(if bq32=true then (some false) else (if ((rd_T97 l0_0 x9_4).f0)=0 then (if ((rd_T97 l0_0 x9_4).f1)=(-1) then (if x9_4 < (x3_4.length:Int) then (spec_QueueOk.l1 kj22 (x3_4.set (x9_4:Int).toNat true) (wrap64 (x5_4 + 1)) ((rd_T97 l0_0 x9_4).f2) l0_0 a0_1 a0_2 a0_3 a0_4) else (none)) else (some false)) else (some false)))=some r:=by rw [← hbq32] at H;exact H
                 have Nbq32:=Aside0.mk hbq32
                 clear hbq32
                 by_cases c33:bq32=true
                 ·subst c33
                  rw [if_pos rfl] at H
                  obtain rfl:=Option.some.inj H
                  obtain ⟨hcz34_0,hcz34_1,hcz34_2,hcz34_3,hcz34_4,hfz34_0,hfz34_1,hfz34_2,hfz34_3,hfz34_4⟩:=ck5 BK178.out
                  have p199:0≤(x9_4:Int):=od
                  have q199:x9_4 < (l0_0.length:Int):=od
                  obtain ⟨ad199,e199,hx199_0,hx199_1,hx199_2,hx199_3⟩:=at_T97 HR0_0.out x9_4 p199 q199
                  (try rw [← Nbq32.out] at hx199_3)
                  cases e199
                  replace hx199_0:=cl HB hx199_0
                  replace hx199_1:=cl HB hx199_1
                  replace hx199_2:=cl HB hx199_2
                  replace hx199_3:=cl HB hx199_3
                  replace p199:=eq_true p199
                  replace q199:=eq_true q199
                  go_wp2_with (first|((with_reducible refine gate_dst (N:=10) rfl ?_);refine bx 10 #[.int .i64 0,.int .i64 0,.int .i64 0,.bool false] 97 ?_;intro gb200 hg w35 hbox hb;replace HO_3:=Aside0.mk (Kd.R_below (kr HO_3) hb);have BK200:=Aside0.mk (hbox);have GW200:=Aside0.mk (bz hg:w.heap.size≤gb200);have GE200:=GW200;replace HB:=Aside0.mk (below_step bl hb);have NB178_200:=Aside0.mk (nl hg BK178:gb178≠gb200);have NB200_178:=Aside0.mk (nr hg BK178:gb200≠gb178);replace BK178:=Aside0.mk (blk_below (bk BK178) hb);clear hb hbox hg;have hnb36:=NB200_178.out;have hnc36:=NB178_200.out;obtain ⟨hcz37_0,hcz37_1,hcz37_2,hcz37_3,hfz37_0,hfz37_1,hfz37_2,hfz37_3⟩:=ck4 BK200.out))
                  go_ret
                  exact ⟨er,bl⟩
                 ·replace c33:=Bool.eq_false_iff.mpr c33
                  subst c33
                  rw [if_neg nft] at H
                  by_cases c38:((rd_T97 l0_0 x9_4).f0)=0
                  ·rw [if_pos c38] at H
                   have c38b0:(((rd_T97 l0_0 x9_4).f0) == 0)=true:=beq_iff_eq.mpr c38
                   have c38b1:(((rd_T97 l0_0 x9_4).f0) != 0)=false:=bne_eq_false_iff_eq.mpr c38
                   clear c38
                   by_cases c39:((rd_T97 l0_0 x9_4).f1)=(-1)
                   ·rw [if_pos c39] at H
                    have c39b0:(((rd_T97 l0_0 x9_4).f1) == (-1))=true:=beq_iff_eq.mpr c39
                    have c39b1:(((rd_T97 l0_0 x9_4).f1) != (-1))=false:=bne_eq_false_iff_eq.mpr c39
                    clear c39
                    by_cases c40:x9_4 < (x3_4.length:Int)
                    case neg =>
                     rw [if_neg c40] at H
                     exact absurd H (by simp)
                    rw [if_pos c40] at H
                    have c40b0:decide (x9_4 < (x3_4.length:Int))=true:=decide_eq_true c40
                    clear c40
                    obtain ⟨y201,hy201⟩:∃ y_:List Bool,y_=(x3_4.set (x9_4:Int).toNat true):=⟨_,rfl⟩
                    replace H:(spec_QueueOk.l1 kj22 y201 (wrap64 (x5_4 + 1)) ((rd_T97 l0_0 x9_4).f2) l0_0 a0_1 a0_2 a0_3 a0_4)=some r:=by first|(rw [hy201];with_reducible exact H)|(have H2_:=(Option.bind_some _ _).symm.trans H;rw [hy201];with_reducible exact H2_)|(have H2_:=(Option.bind_some _ _).symm.trans H;with_reducible exact H2_)|with_reducible exact H|(rw [hy201];exact H)|exact H
                    have Ny201:=Aside0.mk hy201
                    clear hy201
                    have H':=Aside0.mk H
                    clear H
                    obtain ⟨hcz42_0,hcz42_1,hcz42_2,hcz42_3,hcz42_4,hfz42_0,hfz42_1,hfz42_2,hfz42_3,hfz42_4⟩:=ck5 BK178.out
                    have p199:0≤(x9_4:Int):=od
                    have q199:x9_4 < (l0_0.length:Int):=od
                    obtain ⟨ad199,e199,hx199_0,hx199_1,hx199_2,hx199_3⟩:=at_T97 HR0_0.out x9_4 p199 q199
                    (try rw [← Nbq32.out] at hx199_3)
                    cases e199
                    replace hx199_0:=cl HB hx199_0
                    replace hx199_1:=cl HB hx199_1
                    replace hx199_2:=cl HB hx199_2
                    replace hx199_3:=cl HB hx199_3
                    replace p199:=eq_true p199
                    replace q199:=eq_true q199
                    go_wp2_with (first|((with_reducible refine gate_dst (N:=10) rfl ?_);refine bx 10 #[.int .i64 0,.int .i64 0,.int .i64 0,.bool false] 97 ?_;intro gb200 hg w43 hbox hb;replace HO_3:=Aside0.mk (Kd.R_below (kr HO_3) hb);have BK200:=Aside0.mk (hbox);have GW200:=Aside0.mk (bz hg:w.heap.size≤gb200);have GE200:=GW200;replace HB:=Aside0.mk (below_step bl hb);have NB178_200:=Aside0.mk (nl hg BK178:gb178≠gb200);have NB200_178:=Aside0.mk (nr hg BK178:gb200≠gb178);replace BK178:=Aside0.mk (blk_below (bk BK178) hb);clear hb hbox hg;have hnb44:=NB200_178.out;have hnc44:=NB178_200.out;obtain ⟨hcz45_0,hcz45_1,hcz45_2,hcz45_3,hfz45_0,hfz45_1,hfz45_2,hfz45_3⟩:=ck4 BK200.out)|((with_reducible refine gate_store (t:=97) (p:=10) rfl ?_);refine sx 97 10 ((((w43.setCell ⟨gb200,0,none⟩ (.int .i64 ((rd_T97 l0_0 x9_4).f0))).setCell ⟨gb200,1,none⟩ (.int .i64 ((rd_T97 l0_0 x9_4).f1))).setCell ⟨gb200,2,none⟩ (.int .i64 ((rd_T97 l0_0 x9_4).f2))).setCell ⟨gb200,3,none⟩ (.bool false)) ?_;intro w46 hw;have n0_:Aside0 (Kd.R Kd.bool 4 w46 w.heap.size (fun _=>True) v181 x3_4):=⟨(by rw [hw];exact (by (with_reducible repeat (first|apply Kd.R_alloc|apply Kd.R_drewN|apply Kd.R_drew));exact Kd.R_mono (Kd.R_far (p:=⟨gb200,3,none⟩) (Kd.R_far (p:=⟨gb200,2,none⟩) (Kd.R_far (p:=⟨gb200,1,none⟩) (Kd.R_far (p:=⟨gb200,0,none⟩) (Kd.R_types HO_3.out BK200.out (by decide)) (fun _ hk=>hk.2) (.int .i64 ((rd_T97 l0_0 x9_4).f0))) (fun _ hk=>hk.2) (.int .i64 ((rd_T97 l0_0 x9_4).f1))) (fun _ hk=>hk.2) (.int .i64 ((rd_T97 l0_0 x9_4).f2))) (fun _ hk=>hk.2) (.bool false)) (fun _ hk=>trivial)))⟩;have n1_:Aside0 (w46.heap[gb178]? = some (.cells #[.slice (some ad199) l0_0.length c0_0,.int .i64 a0_1,.int .i64 a0_2,.int .i64 a0_3,.int .i64 a0_4] 28 (0,0))):=⟨(by rw [hw];exact (bf BK178))⟩;have n2_:Aside0 (w46.heap[gb200]? = some (.cells #[.int .i64 ((rd_T97 l0_0 x9_4).f0),.int .i64 ((rd_T97 l0_0 x9_4).f1),.int .i64 ((rd_T97 l0_0 x9_4).f2),.bool false] 97 (0,0))):=⟨(by rw [hw];exact (by (with_reducible repeat (first|refine blk_drewN ?_ _|refine blk_drew ?_|refine blk_alloc ?_ _));refine blk_put (cs:=#[.int .i64 ((rd_T97 l0_0 x9_4).f0),.int .i64 ((rd_T97 l0_0 x9_4).f1),.int .i64 ((rd_T97 l0_0 x9_4).f2),.bool false]) ?_ 3 _ rfl;(with_reducible repeat (first|refine blk_drewN ?_ _|refine blk_drew ?_|refine blk_alloc ?_ _));refine blk_put (cs:=#[.int .i64 ((rd_T97 l0_0 x9_4).f0),.int .i64 ((rd_T97 l0_0 x9_4).f1),.int .i64 0,.bool false]) ?_ 2 _ rfl;(with_reducible repeat (first|refine blk_drewN ?_ _|refine blk_drew ?_|refine blk_alloc ?_ _));refine blk_put (cs:=#[.int .i64 ((rd_T97 l0_0 x9_4).f0),.int .i64 0,.int .i64 0,.bool false]) ?_ 1 _ rfl;(with_reducible repeat (first|refine blk_drewN ?_ _|refine blk_drew ?_|refine blk_alloc ?_ _));refine blk_put (cs:=#[.int .i64 0,.int .i64 0,.int .i64 0,.bool false]) ?_ 0 _ rfl;(with_reducible repeat (first|refine blk_drewN ?_ _|refine blk_drew ?_|refine blk_alloc ?_ _));exact BK200.out))⟩;have n3_:Aside0 (Below w.heap.size w w46):=⟨(by rw [hw];exact bl)⟩;clear hw;clear HO_3;clear BK178;clear BK200;clear HB;have HO_3:=n0_;have BK178:=n1_;have BK200:=n2_;have HB:=n3_;clear n0_ n1_ n2_ n3_;obtain ⟨hcz47_0,hcz47_1,hcz47_2,hcz47_3,hfz47_0,hfz47_1,hfz47_2,hfz47_3⟩:=ck4 BK200.out;have p41:0≤(x9_4:Int):=od;have q41:(x9_4:Int) < ((x3_4.length:Int):Int):=od;obtain ⟨go41,co41,eo41,gb41,gl41,cl41,HG41⟩:=Kd.R_form HO_3.out (by omega);(first|cases eo41|(injection eo41 with ea_ en_ ec_;(first|subst ea_|(injection ea_ with ea_;subst ea_));subst ec_;clear en_));have GB41:=Aside0.mk gb41;have GG41:=Aside0.mk HG41;clear gb41 gl41 HG41;obtain ⟨hx41_0,hf41_0⟩:=Kd.R_celln false HO_3.out (x9_4:Int) p41 q41;replace p41:=eq_true p41;replace q41:=eq_true q41;obtain ⟨hy48_,hz48_⟩:=Kd.R_celln false HO_3.out (x9_4:Int) od od;have HP48:=Kd.R_putg HO_3.out (x9_4:Int) true)|((with_reducible refine gate_store (t:=4) (p:=127) rfl ?_);refine sx 4 127 (w46.setCell ⟨go41,(x9_4:Int).toNat,none⟩ (.bool true)) ?_;intro w49 hw;have hg:w46.grownBy w49 (some go41):=(by rw [hw];exact HP48.2);have hp_:Kd.R Kd.bool 4 w49 w.heap.size (fun _=>True) (.slice (some ⟨go41,0,none⟩) x3_4.length co41) y201:=(by rw [hw,Ny201.out];exact HP48.1);clear HP48;replace BK178:=Aside0.mk (blk_grown (bk BK178) hg (Kd.R_ne HO_3.out BK178.out (by decide)));replace BK200:=Aside0.mk (blk_grown (bk BK200) hg (Kd.R_ne HO_3.out BK200.out (by decide)));replace HO_3:=Aside0.mk (hp_);replace HB:=Aside0.mk ((by rw [hw];exact below_set (HB.out) GB41.out:Below w.heap.size w w49));clear hg hw hp_;obtain ⟨hcz50_0,hcz50_1,hcz50_2,hcz50_3,hcz50_4,hfz50_0,hfz50_1,hfz50_2,hfz50_3,hfz50_4⟩:=ck5 BK178.out;have p202:0≤(x9_4:Int):=od;have q202:x9_4 < (l0_0.length:Int):=od;obtain ⟨ad202,e202,hx202_0,hx202_1,hx202_2,hx202_3⟩:=at_T97 HR0_0.out x9_4 p202 q202;(try rw [← Nbq32.out] at hx202_3);obtain rfl:ad199=ad202:=(by injection e202);replace hx202_0:=cl HB hx202_0;replace hx202_1:=cl HB hx202_1;replace hx202_2:=cl HB hx202_2;replace hx202_3:=cl HB hx202_3;replace p202:=eq_true p202;replace q202:=eq_true q202))
                    go_roundg kj22
                    case measure=>have:=HJ1.out;have:=HK2.out;have:=HJ15.out;have:=HK4.out;have:=HJ22.out;omega
                    case rel=>exact ⟨(y201),(wrap64 (x5_4 + 1)),((rd_T97 l0_0 x9_4).f2),(by first|rfl|(simp;done)|(simp [*];done)),(by first|rfl|(simp;done)|(simp [*];done)),H',⟨by have:=HJ1.out;have:=HK2.out;have:=HJ15.out;have:=HK4.out;have:=HJ22.out;omega⟩,⟨kr HO_3⟩,⟨bk BK178⟩,⟨bl⟩⟩
                   ·rw [if_neg c39] at H
                    have c39b0:(((rd_T97 l0_0 x9_4).f1) == (-1))=false:=beq_eq_false_iff_ne.mpr c39
                    have c39b1:(((rd_T97 l0_0 x9_4).f1) != (-1))=true:=bne_iff_ne.mpr c39
                    obtain rfl:=Option.some.inj H
                    obtain ⟨hcz51_0,hcz51_1,hcz51_2,hcz51_3,hcz51_4,hfz51_0,hfz51_1,hfz51_2,hfz51_3,hfz51_4⟩:=ck5 BK178.out
                    have p199:0≤(x9_4:Int):=od
                    have q199:x9_4 < (l0_0.length:Int):=od
                    obtain ⟨ad199,e199,hx199_0,hx199_1,hx199_2,hx199_3⟩:=at_T97 HR0_0.out x9_4 p199 q199
                    (try rw [← Nbq32.out] at hx199_3)
                    cases e199
                    replace hx199_0:=cl HB hx199_0
                    replace hx199_1:=cl HB hx199_1
                    replace hx199_2:=cl HB hx199_2
                    replace hx199_3:=cl HB hx199_3
                    replace p199:=eq_true p199
                    replace q199:=eq_true q199
                    go_wp2_with (first|((with_reducible refine gate_dst (N:=10) rfl ?_);refine bx 10 #[.int .i64 0,.int .i64 0,.int .i64 0,.bool false] 97 ?_;intro gb200 hg w52 hbox hb;replace HO_3:=Aside0.mk (Kd.R_below (kr HO_3) hb);have BK200:=Aside0.mk (hbox);have GW200:=Aside0.mk (bz hg:w.heap.size≤gb200);have GE200:=GW200;replace HB:=Aside0.mk (below_step bl hb);have NB178_200:=Aside0.mk (nl hg BK178:gb178≠gb200);have NB200_178:=Aside0.mk (nr hg BK178:gb200≠gb178);replace BK178:=Aside0.mk (blk_below (bk BK178) hb);clear hb hbox hg;have hnb53:=NB200_178.out;have hnc53:=NB178_200.out;obtain ⟨hcz54_0,hcz54_1,hcz54_2,hcz54_3,hfz54_0,hfz54_1,hfz54_2,hfz54_3⟩:=ck4 BK200.out))
                    go_ret
                    exact ⟨er,bl⟩
                  ·rw [if_neg c38] at H
                   have c38b0:(((rd_T97 l0_0 x9_4).f0) == 0)=false:=beq_eq_false_iff_ne.mpr c38
                   have c38b1:(((rd_T97 l0_0 x9_4).f0) != 0)=true:=bne_iff_ne.mpr c38
                   obtain rfl:=Option.some.inj H
                   obtain ⟨hcz55_0,hcz55_1,hcz55_2,hcz55_3,hcz55_4,hfz55_0,hfz55_1,hfz55_2,hfz55_3,hfz55_4⟩:=ck5 BK178.out
                   have p199:0≤(x9_4:Int):=od
                   have q199:x9_4 < (l0_0.length:Int):=od
                   obtain ⟨ad199,e199,hx199_0,hx199_1,hx199_2,hx199_3⟩:=at_T97 HR0_0.out x9_4 p199 q199
                   (try rw [← Nbq32.out] at hx199_3)
                   cases e199
                   replace hx199_0:=cl HB hx199_0
                   replace hx199_1:=cl HB hx199_1
                   replace hx199_2:=cl HB hx199_2
                   replace hx199_3:=cl HB hx199_3
                   replace p199:=eq_true p199
                   replace q199:=eq_true q199
                   go_wp2_with (first|((with_reducible refine gate_dst (N:=10) rfl ?_);refine bx 10 #[.int .i64 0,.int .i64 0,.int .i64 0,.bool false] 97 ?_;intro gb200 hg w56 hbox hb;replace HO_3:=Aside0.mk (Kd.R_below (kr HO_3) hb);have BK200:=Aside0.mk (hbox);have GW200:=Aside0.mk (bz hg:w.heap.size≤gb200);have GE200:=GW200;replace HB:=Aside0.mk (below_step bl hb);have NB178_200:=Aside0.mk (nl hg BK178:gb178≠gb200);have NB200_178:=Aside0.mk (nr hg BK178:gb200≠gb178);replace BK178:=Aside0.mk (blk_below (bk BK178) hb);clear hb hbox hg;have hnb57:=NB200_178.out;have hnc57:=NB178_200.out;obtain ⟨hcz58_0,hcz58_1,hcz58_2,hcz58_3,hfz58_0,hfz58_1,hfz58_2,hfz58_3⟩:=ck4 BK200.out))
                   go_ret
                   exact ⟨er,bl⟩
       ·rw [if_neg c15] at H
        have c15b0:(x7_2 == (-1))=false:=beq_eq_false_iff_ne.mpr c15
        have c15b1:(x7_2 != (-1))=true:=bne_iff_ne.mpr c15
        have HC59:=Aside0.mk H
        clear H
        go_upto_region 10 with (fail)
        go_cut [41] (fun v41 wc=>∃ (kq:Nat) (x41_58:Bool),v41 = .bool x41_58∧Aside0 (spec_QueueOk.j2 kq x3_2 x4_2 x5_2 x6_2 x7_2 x41_58 l0_0 a0_1 a0_2 a0_3 a0_4=some r)∧Aside0 (kq≤k2)∧Aside0 (Kd.R Kd.bool 4 wc w.heap.size (fun _=>True) v181 x3_2)∧Aside0 (Kd.R (Kd.int .i64) 3 wc w.heap.size (fun _=>True) u4 x4_2)∧Aside0 (wc.heap[gb178]? = some (.cells #[(.slice A0_0 l0_0.length c0_0),.int .i64 a0_1,.int .i64 a0_2,.int .i64 a0_3,.int .i64 a0_4] 28 (0,0)))∧Aside0 (Below w.heap.size w wc))
        case first =>
         have H:=HC59.out
         clear HC59
         replace H:=Option.bind_eq_some_iff.mp H
         obtain ⟨t186,A600,H⟩:=H
         have A60:=Aside0.mk A600
         clear A600
         by_cases c61:t186=true
         ·subst c61
          rw [if_pos rfl] at H
          by_cases c62:0≤x7_2
          case neg =>
           rw [if_neg c62] at H
           exact absurd H (by simp)
          rw [if_pos c62] at H
          have c62b0:decide (0≤x7_2)=true:=decide_eq_true c62
          clear c62
          (first|rw [c62b0]|(simp only [i64_w,i32_w];rw [c62b0])|skip)
          by_cases c63:x7_2 < (x3_2.length:Int)
          case neg =>
           rw [if_neg c63] at H
           exact absurd H (by simp)
          rw [if_pos c63] at H
          have c63b0:decide (x7_2 < (x3_2.length:Int))=true:=decide_eq_true c63
          clear c63
          have H':=Aside0.mk H
          clear H
          go_wp2_with (first|((with_reducible refine gate_callee (f:=83) rfl ?_);refine gl (some 34) Try.func83 #[.int .i64 x7_2,.int .i64 0,.int .i64 59] ?_;(with_reducible refine (spec_l01In.calls x7_2 0 59 true _ A60.out).mono ?_);rintro e w' ⟨rfl,⟨nd,rfl⟩⟩;refine ⟨_,rfl,?_⟩;obtain ⟨Ao64,co64,eo64⟩:=Kd.R_slice HO_3.out;subst eo64;have p187:0≤(x7_2:Int):=od;have q187:x7_2 < (x3_2.length:Int):=od;obtain ⟨ad187,e187,hx187_0⟩:=Kd.at_bool (Kd.R_reads' HO_3.out).2.2 x7_2 p187 q187;cases e187;replace p187:=eq_true p187;replace q187:=eq_true q187))
          go_meet
          case rel=>exact ⟨_,(rdOf false x3_2 x7_2),(by first|rfl|(simp;done)|(simp [*];done)),H',⟨by have:=HJ1.out;have:=HK2.out;first|omega|exact Nat.le_refl _⟩,⟨kr HO_3⟩,⟨kr HO_4⟩,⟨bk BK178⟩,⟨bl⟩⟩
         ·replace c61:=Bool.eq_false_iff.mpr c61
          subst c61
          rw [if_neg nft] at H
          have H':=Aside0.mk H
          clear H
          go_wp2_with (first|((with_reducible refine gate_callee (f:=83) rfl ?_);refine gl (some 34) Try.func83 #[.int .i64 x7_2,.int .i64 0,.int .i64 59] ?_;(with_reducible refine (spec_l01In.calls x7_2 0 59 false _ A60.out).mono ?_);rintro e w' ⟨rfl,⟨nd,rfl⟩⟩;refine ⟨_,rfl,?_⟩))
          go_meet
          case rel=>exact ⟨_,(true),(by first|rfl|(simp;done)|(simp [*];done)),H',⟨by have:=HJ1.out;have:=HK2.out;first|omega|exact Nat.le_refl _⟩,⟨kr HO_3⟩,⟨kr HO_4⟩,⟨bk BK178⟩,⟨bl⟩⟩
        case rest =>
         clear HC59
         try clear c1
         try clear p1
         try clear q1
         try clear hx1
         try clear c2
         try clear p2
         try clear q2
         try clear hx2
         try clear c3
         try clear q3
         try clear c4
         try clear c4b0
         try clear c4b1
         try clear p4
         try clear q4
         try clear hx4
         try clear hf4
         try clear c5
         try clear c6
         try clear p6
         try clear c8
         try clear c9
         try clear c9b0
         try clear c9b1
         try clear c15
         try clear c15b0
         try clear c15b1
         try clear c17
         try clear c17b0
         try clear c17b1
         try clear p18
         try clear q18
         try clear hx18
         try clear p19
         try clear q19
         try clear hx19
         try clear c20
         try clear p20
         try clear q20
         try clear hx20
         try clear c22
         try clear c22b0
         try clear c22b1
         try clear c25
         try clear c26
         try clear c26b0
         try clear c27
         try clear c27b0
         try clear c29
         try clear c30
         try clear c30b0
         try clear c31
         try clear c31b0
         try clear q32
         try clear c33
         try clear c36
         try clear c38
         try clear c38b0
         try clear c38b1
         try clear c39
         try clear c39b0
         try clear c39b1
         try clear c40
         try clear c40b0
         try clear p41
         try clear q41
         try clear hx41
         try clear hf41
         try clear c44
         try clear c53
         try clear c57
         try clear c61
         try clear c62
         try clear c62b0
         try clear c63
         try clear c63b0
         try clear p64
         try clear hcz14_0
         try clear hcz14_1
         try clear hcz14_2
         try clear hcz14_3
         try clear hcz14_4
         try clear hcz18_0
         try clear hcz18_1
         try clear hcz18_2
         try clear hcz18_3
         try clear hcz18_4
         try clear hcz19_0
         try clear hcz19_1
         try clear hcz19_2
         try clear hcz19_3
         try clear hcz19_4
         try clear hcz21_0
         try clear hcz21_1
         try clear hcz21_2
         try clear hcz21_3
         try clear hcz21_4
         try clear hcz34_0
         try clear hcz34_1
         try clear hcz34_2
         try clear hcz34_3
         try clear hcz34_4
         try clear hcz37_0
         try clear hcz37_1
         try clear hcz37_2
         try clear hcz37_3
         try clear hcz42_0
         try clear hcz42_1
         try clear hcz42_2
         try clear hcz42_3
         try clear hcz42_4
         try clear hcz45_0
         try clear hcz45_1
         try clear hcz45_2
         try clear hcz45_3
         try clear hcz47_0
         try clear hcz47_1
         try clear hcz47_2
         try clear hcz47_3
         try clear hcz50_0
         try clear hcz50_1
         try clear hcz50_2
         try clear hcz50_3
         try clear hcz50_4
         try clear hcz51_0
         try clear hcz51_1
         try clear hcz51_2
         try clear hcz51_3
         try clear hcz51_4
         try clear hcz54_0
         try clear hcz54_1
         try clear hcz54_2
         try clear hcz54_3
         try clear hcz55_0
         try clear hcz55_1
         try clear hcz55_2
         try clear hcz55_3
         try clear hcz55_4
         try clear hcz58_0
         try clear hcz58_1
         try clear hcz58_2
         try clear hcz58_3
         try clear hcz6_0
         try clear hcz6_1
         try clear hcz6_2
         try clear hcz6_3
         try clear hcz6_4
         try clear hcz7_0
         try clear hcz7_1
         try clear hcz7_2
         try clear hcz7_3
         try clear hcz7_4
         try clear hfz14_0
         try clear hfz14_1
         try clear hfz14_2
         try clear hfz14_3
         try clear hfz14_4
         try clear hfz18_0
         try clear hfz18_1
         try clear hfz18_2
         try clear hfz18_3
         try clear hfz18_4
         try clear hfz19_0
         try clear hfz19_1
         try clear hfz19_2
         try clear hfz19_3
         try clear hfz19_4
         try clear hfz21_0
         try clear hfz21_1
         try clear hfz21_2
         try clear hfz21_3
         try clear hfz21_4
         try clear hfz34_0
         try clear hfz34_1
         try clear hfz34_2
         try clear hfz34_3
         try clear hfz34_4
         try clear hfz37_0
         try clear hfz37_1
         try clear hfz37_2
         try clear hfz37_3
         try clear hfz42_0
         try clear hfz42_1
         try clear hfz42_2
         try clear hfz42_3
         try clear hfz42_4
         try clear hfz45_0
         try clear hfz45_1
         try clear hfz45_2
         try clear hfz45_3
         try clear hfz47_0
         try clear hfz47_1
         try clear hfz47_2
         try clear hfz47_3
         try clear hfz50_0
         try clear hfz50_1
         try clear hfz50_2
         try clear hfz50_3
         try clear hfz50_4
         try clear hfz51_0
         try clear hfz51_1
         try clear hfz51_2
         try clear hfz51_3
         try clear hfz51_4
         try clear hfz54_0
         try clear hfz54_1
         try clear hfz54_2
         try clear hfz54_3
         try clear hfz55_0
         try clear hfz55_1
         try clear hfz55_2
         try clear hfz55_3
         try clear hfz55_4
         try clear hfz58_0
         try clear hfz58_1
         try clear hfz58_2
         try clear hfz58_3
         try clear hfz6_0
         try clear hfz6_1
         try clear hfz6_2
         try clear hfz6_3
         try clear hfz6_4
         try clear hfz7_0
         try clear hfz7_1
         try clear hfz7_2
         try clear hfz7_3
         try clear hfz7_4
         try clear hx187_0
         try clear hx198_0
         try clear hx199_0
         try clear hx199_1
         try clear hx199_2
         try clear hx199_3
         try clear hx202_0
         try clear hx202_1
         try clear hx202_2
         try clear hx202_3
         try clear hx41_0
         try clear p1
         try clear p187
         try clear p19
         try clear p198
         try clear p199
         try clear p2
         try clear p202
         try clear p41
         try clear q1
         try clear q187
         try clear q19
         try clear q198
         try clear q199
         try clear q202
         try clear q41
         obtain ⟨kq,x41_58,rfl,HA,HJ58,HO_3,HO_4,BK178,HB⟩:=hcut
         cases kq with
         | zero=>exact absurd HA.out (by simp [spec_QueueOk.j2])
         | succ kj58 =>
          have H:=HA.out
          clear HA
          simp only [spec_QueueOk.j2] at H
          by_cases c65:x41_58=true
          ·subst c65
           rw [if_pos rfl] at H
           obtain rfl:=Option.some.inj H
           go_wp2
           go_ret
           exact ⟨er,bl⟩
          ·replace c65:=Bool.eq_false_iff.mpr c65
           subst c65
           rw [if_neg nft] at H
           by_cases c66:0≤x7_2
           case neg =>
            rw [if_neg c66] at H
            exact absurd H (by simp)
           rw [if_pos c66] at H
           have c66b0:decide (0≤x7_2)=true:=decide_eq_true c66
           clear c66
           by_cases c67:x7_2 < (l0_0.length:Int)
           case neg =>
            rw [if_neg c67] at H
            exact absurd H (by simp)
           rw [if_pos c67] at H
           have c67b0:decide (x7_2 < (l0_0.length:Int))=true:=decide_eq_true c67
           clear c67
           obtain ⟨bq68,hbq68⟩:∃ b_:Bool,b_=((rd_T97 l0_0 x7_2).f3):=⟨_,rfl⟩
           replace H:(if (bq68=true) then (if ((rd_T97 l0_0 x7_2).f1)=x6_2 then ((spec_l01In.f ((rd_T97 l0_0 x7_2).f0) 1 1000000000).bind fun t190=>(if t190=true then ((spec_l01Has.f kj58 x4_2 ((rd_T97 l0_0 x7_2).f0)).bind fun t191=>(if t191=true then (some false) else (if x7_2 < (x3_2.length:Int) then (if x4_2.length < 17592186044416 then (spec_QueueOk.l0 kj58 (x3_2.set (x7_2:Int).toNat true) (x4_2 ++ [(rd_T97 l0_0 x7_2).f0]) (wrap64 (x5_2 + 1)) x7_2 ((rd_T97 l0_0 x7_2).f2) l0_0 a0_1 a0_2 a0_3 a0_4) else (none)) else (none)))) else (some false))) else (some false)) else (some false))=some r:=by rw [← hbq68] at H;exact H
           have Nbq68:=Aside0.mk hbq68
           clear hbq68
           by_cases c69:(bq68=true)
           ·subst c69
            rw [if_pos rfl] at H
            by_cases c70:((rd_T97 l0_0 x7_2).f1)=x6_2
            ·rw [if_pos c70] at H
             have c70b0:(((rd_T97 l0_0 x7_2).f1) == x6_2)=true:=beq_iff_eq.mpr c70
             have c70b1:(((rd_T97 l0_0 x7_2).f1) != x6_2)=false:=bne_eq_false_iff_eq.mpr c70
             clear c70
             replace H:=Option.bind_eq_some_iff.mp H
             obtain ⟨t190,A710,H⟩:=H
             have A71:=Aside0.mk A710
             clear A710
             by_cases c72:t190=true
             ·subst c72
              rw [if_pos rfl] at H
              replace H:=Option.bind_eq_some_iff.mp H
              obtain ⟨t191,A730,H⟩:=H
              have A73:=Aside0.mk A730
              clear A730
              by_cases c74:t191=true
              ·subst c74
               rw [if_pos rfl] at H
               obtain rfl:=Option.some.inj H
               obtain ⟨hcz75_0,hcz75_1,hcz75_2,hcz75_3,hcz75_4,hfz75_0,hfz75_1,hfz75_2,hfz75_3,hfz75_4⟩:=ck5 BK178.out
               have p188:0≤(x7_2:Int):=od
               have q188:x7_2 < (l0_0.length:Int):=od
               obtain ⟨ad188,e188,hx188_0,hx188_1,hx188_2,hx188_3⟩:=at_T97 HR0_0.out x7_2 p188 q188
               (try rw [← Nbq68.out] at hx188_3)
               cases e188
               replace hx188_0:=cl HB hx188_0
               replace hx188_1:=cl HB hx188_1
               replace hx188_2:=cl HB hx188_2
               replace hx188_3:=cl HB hx188_3
               replace p188:=eq_true p188
               replace q188:=eq_true q188
               go_wp2_with (first|((with_reducible refine gate_dst (N:=8) rfl ?_);refine bx 8 #[.int .i64 0,.int .i64 0,.int .i64 0,.bool false] 97 ?_;intro gb189 hg w76 hbox hb;replace HO_3:=Aside0.mk (Kd.R_below (kr HO_3) hb);replace HO_4:=Aside0.mk (Kd.R_below (kr HO_4) hb);have BK189:=Aside0.mk (hbox);have GW189:=Aside0.mk (bz hg:w.heap.size≤gb189);have GE189:=GW189;replace HB:=Aside0.mk (below_step bl hb);have NB178_189:=Aside0.mk (nl hg BK178:gb178≠gb189);have NB189_178:=Aside0.mk (nr hg BK178:gb189≠gb178);replace BK178:=Aside0.mk (blk_below (bk BK178) hb);clear hb hbox hg;have hnb77:=NB189_178.out;have hnc77:=NB178_189.out;obtain ⟨hcz78_0,hcz78_1,hcz78_2,hcz78_3,hfz78_0,hfz78_1,hfz78_2,hfz78_3⟩:=ck4 BK189.out)|(go_at_call 83;(with_reducible refine (spec_l01In.calls ((rd_T97 l0_0 x7_2).f0) 1 1000000000 true _ A71.out).mono ?_);rintro e w' ⟨rfl,⟨nd,rfl⟩⟩;obtain ⟨Ao79,co79,eo79⟩:=Kd.R_slice HO_4.out;subst eo79)|(go_at_call 92;(with_reducible refine (spec_l01Has.calls kj58 _ _ x4_2 ((rd_T97 l0_0 x7_2).f0) true _ ?side1 ?side2 A73.out).mono ?_);(case side1=>refine (Kd.R_reads' (e:=3) (base:=w.heap.size) (ok:=fun k_=>True) (n:=x4_2.length) (c:=co79) ?_).2.2;exact (by (with_reducible repeat (first|apply Kd.R_alloc|apply Kd.R_drewN|apply Kd.R_drew));exact (Kd.R_mono (Kd.R_far (p:=⟨gb189,3,none⟩) (Kd.R_far (p:=⟨gb189,2,none⟩) (Kd.R_far (p:=⟨gb189,1,none⟩) (Kd.R_far (p:=⟨gb189,0,none⟩) (Kd.R_types HO_4.out BK189.out (by decide)) (fun _ hk=>hk.2) (.int .i64 ((rd_T97 l0_0 x7_2).f0))) (fun _ hk=>hk.2) (.int .i64 ((rd_T97 l0_0 x7_2).f1))) (fun _ hk=>hk.2) (.int .i64 ((rd_T97 l0_0 x7_2).f2))) (fun _ hk=>hk.2) (.bool true)) (fun _ h_=>h_.1))));(case side2=>exact (Kd.R_reads' HO_4.out).2.1);rintro e w' ⟨rfl,⟨nd,rfl⟩⟩))
               go_ret
               exact ⟨er,bl⟩
              ·replace c74:=Bool.eq_false_iff.mpr c74
               subst c74
               rw [if_neg nft] at H
               by_cases c80:x7_2 < (x3_2.length:Int)
               case neg =>
                rw [if_neg c80] at H
                exact absurd H (by simp)
               rw [if_pos c80] at H
               have c80b0:decide (x7_2 < (x3_2.length:Int))=true:=decide_eq_true c80
               clear c80
               obtain ⟨y192,hy192⟩:∃ y_:List Bool,y_=(x3_2.set (x7_2:Int).toNat true):=⟨_,rfl⟩
               replace H:(if x4_2.length < 17592186044416 then (spec_QueueOk.l0 kj58 y192 (x4_2 ++ [(rd_T97 l0_0 x7_2).f0]) (wrap64 (x5_2 + 1)) x7_2 ((rd_T97 l0_0 x7_2).f2) l0_0 a0_1 a0_2 a0_3 a0_4) else (none))=some r:=by first|(rw [hy192];with_reducible exact H)|(have H2_:=(Option.bind_some _ _).symm.trans H;rw [hy192];with_reducible exact H2_)|(have H2_:=(Option.bind_some _ _).symm.trans H;with_reducible exact H2_)|with_reducible exact H|(rw [hy192];exact H)|exact H
               have Ny192:=Aside0.mk hy192
               clear hy192
               by_cases c82:x4_2.length < 17592186044416
               case neg =>
                rw [if_neg c82] at H
                exact absurd H (by simp)
               rw [if_pos c82] at H
               have LMc82:=Aside0.mk c82
               clear c82
               obtain ⟨y193,hy193⟩:∃ y_:List Int,y_=(x4_2 ++ [(rd_T97 l0_0 x7_2).f0]):=⟨_,rfl⟩
               replace H:(spec_QueueOk.l0 kj58 y192 y193 (wrap64 (x5_2 + 1)) x7_2 ((rd_T97 l0_0 x7_2).f2) l0_0 a0_1 a0_2 a0_3 a0_4)=some r:=by first|(rw [hy193];with_reducible exact H)|(have H2_:=(Option.bind_some _ _).symm.trans H;rw [hy193];with_reducible exact H2_)|(have H2_:=(Option.bind_some _ _).symm.trans H;with_reducible exact H2_)|with_reducible exact H|(rw [hy193];exact H)|exact H
               have Ny193:=Aside0.mk hy193
               clear hy193
               have H':=Aside0.mk H
               clear H
               obtain ⟨hcz83_0,hcz83_1,hcz83_2,hcz83_3,hcz83_4,hfz83_0,hfz83_1,hfz83_2,hfz83_3,hfz83_4⟩:=ck5 BK178.out
               have p188:0≤(x7_2:Int):=od
               have q188:x7_2 < (l0_0.length:Int):=od
               obtain ⟨ad188,e188,hx188_0,hx188_1,hx188_2,hx188_3⟩:=at_T97 HR0_0.out x7_2 p188 q188
               (try rw [← Nbq68.out] at hx188_3)
               cases e188
               replace hx188_0:=cl HB hx188_0
               replace hx188_1:=cl HB hx188_1
               replace hx188_2:=cl HB hx188_2
               replace hx188_3:=cl HB hx188_3
               replace p188:=eq_true p188
               replace q188:=eq_true q188
               go_wp2_with (first|((with_reducible refine gate_dst (N:=8) rfl ?_);refine bx 8 #[.int .i64 0,.int .i64 0,.int .i64 0,.bool false] 97 ?_;intro gb189 hg w84 hbox hb;replace HO_3:=Aside0.mk (Kd.R_below (kr HO_3) hb);replace HO_4:=Aside0.mk (Kd.R_below (kr HO_4) hb);have BK189:=Aside0.mk (hbox);have GW189:=Aside0.mk (bz hg:w.heap.size≤gb189);have GE189:=GW189;replace HB:=Aside0.mk (below_step bl hb);have NB178_189:=Aside0.mk (nl hg BK178:gb178≠gb189);have NB189_178:=Aside0.mk (nr hg BK178:gb189≠gb178);replace BK178:=Aside0.mk (blk_below (bk BK178) hb);clear hb hbox hg;have hnb85:=NB189_178.out;have hnc85:=NB178_189.out;obtain ⟨hcz86_0,hcz86_1,hcz86_2,hcz86_3,hfz86_0,hfz86_1,hfz86_2,hfz86_3⟩:=ck4 BK189.out)|((with_reducible refine gate_store (t:=97) (p:=8) rfl ?_);refine sx 97 8 ((((w84.setCell ⟨gb189,0,none⟩ (.int .i64 ((rd_T97 l0_0 x7_2).f0))).setCell ⟨gb189,1,none⟩ (.int .i64 ((rd_T97 l0_0 x7_2).f1))).setCell ⟨gb189,2,none⟩ (.int .i64 ((rd_T97 l0_0 x7_2).f2))).setCell ⟨gb189,3,none⟩ (.bool true)) ?_;intro w87 hw;have n0_:Aside0 (Kd.R Kd.bool 4 w87 w.heap.size (fun _=>True) v181 x3_2):=⟨(by rw [hw];exact (by (with_reducible repeat (first|apply Kd.R_alloc|apply Kd.R_drewN|apply Kd.R_drew));exact Kd.R_mono (Kd.R_far (p:=⟨gb189,3,none⟩) (Kd.R_far (p:=⟨gb189,2,none⟩) (Kd.R_far (p:=⟨gb189,1,none⟩) (Kd.R_far (p:=⟨gb189,0,none⟩) (Kd.R_types HO_3.out BK189.out (by decide)) (fun _ hk=>hk.2) (.int .i64 ((rd_T97 l0_0 x7_2).f0))) (fun _ hk=>hk.2) (.int .i64 ((rd_T97 l0_0 x7_2).f1))) (fun _ hk=>hk.2) (.int .i64 ((rd_T97 l0_0 x7_2).f2))) (fun _ hk=>hk.2) (.bool true)) (fun _ hk=>trivial)))⟩;have n1_:Aside0 (Kd.R (Kd.int .i64) 3 w87 w.heap.size (fun _=>True) u4 x4_2):=⟨(by rw [hw];exact (by (with_reducible repeat (first|apply Kd.R_alloc|apply Kd.R_drewN|apply Kd.R_drew));exact Kd.R_mono (Kd.R_far (p:=⟨gb189,3,none⟩) (Kd.R_far (p:=⟨gb189,2,none⟩) (Kd.R_far (p:=⟨gb189,1,none⟩) (Kd.R_far (p:=⟨gb189,0,none⟩) (Kd.R_types HO_4.out BK189.out (by decide)) (fun _ hk=>hk.2) (.int .i64 ((rd_T97 l0_0 x7_2).f0))) (fun _ hk=>hk.2) (.int .i64 ((rd_T97 l0_0 x7_2).f1))) (fun _ hk=>hk.2) (.int .i64 ((rd_T97 l0_0 x7_2).f2))) (fun _ hk=>hk.2) (.bool true)) (fun _ hk=>trivial)))⟩;have n2_:Aside0 (w87.heap[gb178]? = some (.cells #[.slice (some ad188) l0_0.length c0_0,.int .i64 a0_1,.int .i64 a0_2,.int .i64 a0_3,.int .i64 a0_4] 28 (0,0))):=⟨(by rw [hw];exact (bf BK178))⟩;have n3_:Aside0 (w87.heap[gb189]? = some (.cells #[.int .i64 ((rd_T97 l0_0 x7_2).f0),.int .i64 ((rd_T97 l0_0 x7_2).f1),.int .i64 ((rd_T97 l0_0 x7_2).f2),.bool true] 97 (0,0))):=⟨(by rw [hw];exact (by (with_reducible repeat (first|refine blk_drewN ?_ _|refine blk_drew ?_|refine blk_alloc ?_ _));refine blk_put (cs:=#[.int .i64 ((rd_T97 l0_0 x7_2).f0),.int .i64 ((rd_T97 l0_0 x7_2).f1),.int .i64 ((rd_T97 l0_0 x7_2).f2),.bool false]) ?_ 3 _ rfl;(with_reducible repeat (first|refine blk_drewN ?_ _|refine blk_drew ?_|refine blk_alloc ?_ _));refine blk_put (cs:=#[.int .i64 ((rd_T97 l0_0 x7_2).f0),.int .i64 ((rd_T97 l0_0 x7_2).f1),.int .i64 0,.bool false]) ?_ 2 _ rfl;(with_reducible repeat (first|refine blk_drewN ?_ _|refine blk_drew ?_|refine blk_alloc ?_ _));refine blk_put (cs:=#[.int .i64 ((rd_T97 l0_0 x7_2).f0),.int .i64 0,.int .i64 0,.bool false]) ?_ 1 _ rfl;(with_reducible repeat (first|refine blk_drewN ?_ _|refine blk_drew ?_|refine blk_alloc ?_ _));refine blk_put (cs:=#[.int .i64 0,.int .i64 0,.int .i64 0,.bool false]) ?_ 0 _ rfl;(with_reducible repeat (first|refine blk_drewN ?_ _|refine blk_drew ?_|refine blk_alloc ?_ _));exact BK189.out))⟩;have n4_:Aside0 (Below w.heap.size w w87):=⟨(by rw [hw];exact bl)⟩;clear hw;clear HO_3;clear HO_4;clear BK178;clear BK189;clear HB;have HO_3:=n0_;have HO_4:=n1_;have BK178:=n2_;have BK189:=n3_;have HB:=n4_;clear n0_ n1_ n2_ n3_ n4_;obtain ⟨hcz88_0,hcz88_1,hcz88_2,hcz88_3,hfz88_0,hfz88_1,hfz88_2,hfz88_3⟩:=ck4 BK189.out)|(go_at_call 83;(with_reducible refine (spec_l01In.calls ((rd_T97 l0_0 x7_2).f0) 1 1000000000 true _ A71.out).mono ?_);rintro e w' ⟨rfl,⟨nd,rfl⟩⟩;(try (rw [drewN_self w87];generalize hq_:World.drewN w87 _=w87;have n0_:Aside0 (Kd.R Kd.bool 4 w87 w.heap.size (fun _=>True) v181 x3_2):=⟨by rw [← hq_];exact (kr HO_3)⟩;have n1_:Aside0 (Kd.R (Kd.int .i64) 3 w87 w.heap.size (fun _=>True) u4 x4_2):=⟨by rw [← hq_];exact (kr HO_4)⟩;have n2_:Aside0 (w87.heap[gb178]? = some (.cells #[.slice (some ad188) l0_0.length c0_0,.int .i64 a0_1,.int .i64 a0_2,.int .i64 a0_3,.int .i64 a0_4] 28 (0,0))):=⟨by rw [← hq_];exact (bk BK178)⟩;have n3_:Aside0 (w87.heap[gb189]? = some (.cells #[.int .i64 ((rd_T97 l0_0 x7_2).f0),.int .i64 ((rd_T97 l0_0 x7_2).f1),.int .i64 ((rd_T97 l0_0 x7_2).f2),.bool true] 97 (0,0))):=⟨by rw [← hq_];exact (bk BK189)⟩;have n4_:Aside0 (Below w.heap.size w w87):=⟨by rw [← hq_];exact bl⟩;clear HO_3 HO_4 BK178 BK189 HB hq_;have HO_3:=n0_;have HO_4:=n1_;have BK178:=n2_;have BK189:=n3_;have HB:=n4_;clear n0_ n1_ n2_ n3_ n4_;have hcqgb178_0:w87.cell? ⟨gb178,0,none⟩=some (.slice (some ad188) l0_0.length c0_0):=(blk_cell BK178.out 0).trans rfl;have hfqgb178_0:=blk_frozen BK178.out 0;have hcqgb178_1:w87.cell? ⟨gb178,1,none⟩=some (.int .i64 a0_1):=(blk_cell BK178.out 1).trans rfl;have hfqgb178_1:=blk_frozen BK178.out 1;have hcqgb178_2:w87.cell? ⟨gb178,2,none⟩=some (.int .i64 a0_2):=(blk_cell BK178.out 2).trans rfl;have hfqgb178_2:=blk_frozen BK178.out 2;have hcqgb178_3:w87.cell? ⟨gb178,3,none⟩=some (.int .i64 a0_3):=(blk_cell BK178.out 3).trans rfl;have hfqgb178_3:=blk_frozen BK178.out 3;have hcqgb178_4:w87.cell? ⟨gb178,4,none⟩=some (.int .i64 a0_4):=(blk_cell BK178.out 4).trans rfl;have hfqgb178_4:=blk_frozen BK178.out 4;have hcqgb189_0:w87.cell? ⟨gb189,0,none⟩=some (.int .i64 ((rd_T97 l0_0 x7_2).f0)):=(blk_cell BK189.out 0).trans rfl;have hfqgb189_0:=blk_frozen BK189.out 0;have hcqgb189_1:w87.cell? ⟨gb189,1,none⟩=some (.int .i64 ((rd_T97 l0_0 x7_2).f1)):=(blk_cell BK189.out 1).trans rfl;have hfqgb189_1:=blk_frozen BK189.out 1;have hcqgb189_2:w87.cell? ⟨gb189,2,none⟩=some (.int .i64 ((rd_T97 l0_0 x7_2).f2)):=(blk_cell BK189.out 2).trans rfl;have hfqgb189_2:=blk_frozen BK189.out 2;have hcqgb189_3:w87.cell? ⟨gb189,3,none⟩=some (.bool true):=(blk_cell BK189.out 3).trans rfl;have hfqgb189_3:=blk_frozen BK189.out 3));obtain ⟨Ao89,co89,eo89⟩:=Kd.R_slice HO_4.out;subst eo89)|(go_at_call 92;(with_reducible refine (spec_l01Has.calls kj58 _ _ x4_2 ((rd_T97 l0_0 x7_2).f0) false _ ?side1 ?side2 A73.out).mono ?_);(case side1=>repeat (first|exact (Kd.R_reads' HO_4.out).2.2|(with_reducible refine Kd.C_alloc ?_ _)|(with_reducible refine Kd.C_drewN ?_ _)|(with_reducible refine Kd.C_drew ?_)));(case side2=>exact (Kd.R_reads' HO_4.out).2.1);rintro e w' ⟨rfl,⟨nd,rfl⟩⟩;(try (rw [drewN_self w87];generalize hq_:World.drewN w87 _=w87;have n0_:Aside0 (Kd.R Kd.bool 4 w87 w.heap.size (fun _=>True) v181 x3_2):=⟨by rw [← hq_];exact (kr HO_3)⟩;have n1_:Aside0 (Kd.R (Kd.int .i64) 3 w87 w.heap.size (fun _=>True) (.slice Ao89 x4_2.length co89) x4_2):=⟨by rw [← hq_];exact (kr HO_4)⟩;have n2_:Aside0 (w87.heap[gb178]? = some (.cells #[.slice (some ad188) l0_0.length c0_0,.int .i64 a0_1,.int .i64 a0_2,.int .i64 a0_3,.int .i64 a0_4] 28 (0,0))):=⟨by rw [← hq_];exact (bk BK178)⟩;have n3_:Aside0 (w87.heap[gb189]? = some (.cells #[.int .i64 ((rd_T97 l0_0 x7_2).f0),.int .i64 ((rd_T97 l0_0 x7_2).f1),.int .i64 ((rd_T97 l0_0 x7_2).f2),.bool true] 97 (0,0))):=⟨by rw [← hq_];exact (bk BK189)⟩;have n4_:Aside0 (Below w.heap.size w w87):=⟨by rw [← hq_];exact bl⟩;clear HO_3 HO_4 BK178 BK189 HB hq_;have HO_3:=n0_;have HO_4:=n1_;have BK178:=n2_;have BK189:=n3_;have HB:=n4_;clear n0_ n1_ n2_ n3_ n4_;have hcqgb178_0:w87.cell? ⟨gb178,0,none⟩=some (.slice (some ad188) l0_0.length c0_0):=(blk_cell BK178.out 0).trans rfl;have hfqgb178_0:=blk_frozen BK178.out 0;have hcqgb178_1:w87.cell? ⟨gb178,1,none⟩=some (.int .i64 a0_1):=(blk_cell BK178.out 1).trans rfl;have hfqgb178_1:=blk_frozen BK178.out 1;have hcqgb178_2:w87.cell? ⟨gb178,2,none⟩=some (.int .i64 a0_2):=(blk_cell BK178.out 2).trans rfl;have hfqgb178_2:=blk_frozen BK178.out 2;have hcqgb178_3:w87.cell? ⟨gb178,3,none⟩=some (.int .i64 a0_3):=(blk_cell BK178.out 3).trans rfl;have hfqgb178_3:=blk_frozen BK178.out 3;have hcqgb178_4:w87.cell? ⟨gb178,4,none⟩=some (.int .i64 a0_4):=(blk_cell BK178.out 4).trans rfl;have hfqgb178_4:=blk_frozen BK178.out 4;have hcqgb189_0:w87.cell? ⟨gb189,0,none⟩=some (.int .i64 ((rd_T97 l0_0 x7_2).f0)):=(blk_cell BK189.out 0).trans rfl;have hfqgb189_0:=blk_frozen BK189.out 0;have hcqgb189_1:w87.cell? ⟨gb189,1,none⟩=some (.int .i64 ((rd_T97 l0_0 x7_2).f1)):=(blk_cell BK189.out 1).trans rfl;have hfqgb189_1:=blk_frozen BK189.out 1;have hcqgb189_2:w87.cell? ⟨gb189,2,none⟩=some (.int .i64 ((rd_T97 l0_0 x7_2).f2)):=(blk_cell BK189.out 2).trans rfl;have hfqgb189_2:=blk_frozen BK189.out 2;have hcqgb189_3:w87.cell? ⟨gb189,3,none⟩=some (.bool true):=(blk_cell BK189.out 3).trans rfl;have hfqgb189_3:=blk_frozen BK189.out 3));have p81:0≤(x7_2:Int):=od;have q81:(x7_2:Int) < ((x3_2.length:Int):Int):=od;obtain ⟨go81,co81,eo81,gb81,gl81,cl81,HG81⟩:=Kd.R_form HO_3.out (by omega);(first|cases eo81|(injection eo81 with ea_ en_ ec_;(first|subst ea_|(injection ea_ with ea_;subst ea_));subst ec_;clear en_));have GB81:=Aside0.mk gb81;have GG81:=Aside0.mk HG81;clear gb81 gl81 HG81;obtain ⟨hx81_0,hf81_0⟩:=Kd.R_celln false HO_3.out (x7_2:Int) p81 q81;replace p81:=eq_true p81;replace q81:=eq_true q81;obtain ⟨hy90_,hz90_⟩:=Kd.R_celln false HO_3.out (x7_2:Int) od od;have HP90:=Kd.R_putg HO_3.out (x7_2:Int) true)|((with_reducible refine gate_store (t:=4) (p:=70) rfl ?_);refine sx 4 70 (w87.setCell ⟨go81,(x7_2:Int).toNat,none⟩ (.bool true)) ?_;intro w91 hw;have hg:w87.grownBy w91 (some go81):=(by rw [hw];exact HP90.2);have hp_:Kd.R Kd.bool 4 w91 w.heap.size (fun _=>True) (.slice (some ⟨go81,0,none⟩) x3_2.length co81) y192:=(by rw [hw,Ny192.out];exact HP90.1);clear HP90;replace HO_4:=Aside0.mk (Kd.R_over' (v:=(.slice (some ⟨go81,0,none⟩) x3_2.length co81)) (kr HO_4) (Kd.R_typed HO_3.out) (by decide) hg);replace BK178:=Aside0.mk (blk_grown (bk BK178) hg (Kd.R_ne HO_3.out BK178.out (by decide)));replace BK189:=Aside0.mk (blk_grown (bk BK189) hg (Kd.R_ne HO_3.out BK189.out (by decide)));replace HO_3:=Aside0.mk (hp_);replace HB:=Aside0.mk ((by rw [hw];exact below_set (HB.out) GB81.out:Below w.heap.size w w91));clear hg hw hp_;obtain ⟨hcz92_0,hcz92_1,hcz92_2,hcz92_3,hfz92_0,hfz92_1,hfz92_2,hfz92_3⟩:=ck4 BK189.out)|((with_reducible refine gate_builtin (b:=.append) (xs:=#[.tmp 71,.tmp 74]) rfl ?_);at_builtin;refine Kd.R_append (Kd.int .i64) (w0:=w) w.heap.size rfl (.tmp 71) (.tmp 74) 51 3 (.int .i64 0) 8 rfl Try.underlying51 info3 rfl (by decide) (by omega) (.slice Ao89 x4_2.length co89) x4_2 ((rd_T97 l0_0 x7_2).f0) [.int .i64 ((rd_T97 l0_0 x7_2).f0)] (fun _=>True) (fun _=>False) rfl rfl ?aP (fun _ hk=>hk.elim) ?aF ?aO ?aB ?aS ?aL ?_;(case aP=>exact rfl);(case aB=>exact bl);(case aF=>exact (fun _ _=>trivial));(case aO=>exact (kr HO_4));(case aS=>exact (below_size bl));(case aL=>have:=LMc82.out;omega);intro v194 w93 ho hb hg hat;rw [← Ny193.out] at ho;replace HO_3:=Aside0.mk (Kd.R_over' (kr HO_3) (Kd.R_typed (kr HO_4)) (by decide) hg);replace BK178:=Aside0.mk (blk_grown (bk BK178) hg (Kd.R_ne HO_4.out BK178.out (by decide)));replace BK189:=Aside0.mk (blk_grown (bk BK189) hg (Kd.R_ne HO_4.out BK189.out (by decide)));replace HB:=Aside0.mk (hb);have HO195:=Aside0.mk (ho);clear HO_4;clear ho hb hg hat;obtain ⟨hcz94_0,hcz94_1,hcz94_2,hcz94_3,hcz94_4,hfz94_0,hfz94_1,hfz94_2,hfz94_3,hfz94_4⟩:=ck5 BK178.out;have p196:0≤(x7_2:Int):=od;have q196:x7_2 < (l0_0.length:Int):=od;obtain ⟨ad196,e196,hx196_0,hx196_1,hx196_2,hx196_3⟩:=at_T97 HR0_0.out x7_2 p196 q196;(try rw [← Nbq68.out] at hx196_3);obtain rfl:ad188=ad196:=(by injection e196);replace hx196_0:=cl HB hx196_0;replace hx196_1:=cl HB hx196_1;replace hx196_2:=cl HB hx196_2;replace hx196_3:=cl HB hx196_3;replace p196:=eq_true p196;replace q196:=eq_true q196))
               go_roundg kj58
               case measure=>have:=HJ1.out;have:=HK2.out;have:=HJ58.out;omega
               case rel=>exact ⟨(y192),(y193),(wrap64 (x5_2 + 1)),(x7_2),((rd_T97 l0_0 x7_2).f2),(by first|rfl|(simp;done)|(simp [*];done)),(by first|rfl|(simp;done)|(simp [*];done)),(by first|rfl|(simp;done)|(simp [*];done)),H',⟨by have:=HJ1.out;have:=HK2.out;have:=HJ58.out;omega⟩,⟨kr HO_3⟩,⟨kr HO195⟩,⟨bk BK178⟩,⟨bl⟩⟩
             ·replace c72:=Bool.eq_false_iff.mpr c72
              subst c72
              rw [if_neg nft] at H
              obtain rfl:=Option.some.inj H
              obtain ⟨hcz95_0,hcz95_1,hcz95_2,hcz95_3,hcz95_4,hfz95_0,hfz95_1,hfz95_2,hfz95_3,hfz95_4⟩:=ck5 BK178.out
              have p188:0≤(x7_2:Int):=od
              have q188:x7_2 < (l0_0.length:Int):=od
              obtain ⟨ad188,e188,hx188_0,hx188_1,hx188_2,hx188_3⟩:=at_T97 HR0_0.out x7_2 p188 q188
              (try rw [← Nbq68.out] at hx188_3)
              cases e188
              replace hx188_0:=cl HB hx188_0
              replace hx188_1:=cl HB hx188_1
              replace hx188_2:=cl HB hx188_2
              replace hx188_3:=cl HB hx188_3
              replace p188:=eq_true p188
              replace q188:=eq_true q188
              go_wp2_with (first|((with_reducible refine gate_dst (N:=8) rfl ?_);refine bx 8 #[.int .i64 0,.int .i64 0,.int .i64 0,.bool false] 97 ?_;intro gb189 hg w96 hbox hb;replace HO_3:=Aside0.mk (Kd.R_below (kr HO_3) hb);replace HO_4:=Aside0.mk (Kd.R_below (kr HO_4) hb);have BK189:=Aside0.mk (hbox);have GW189:=Aside0.mk (bz hg:w.heap.size≤gb189);have GE189:=GW189;replace HB:=Aside0.mk (below_step bl hb);have NB178_189:=Aside0.mk (nl hg BK178:gb178≠gb189);have NB189_178:=Aside0.mk (nr hg BK178:gb189≠gb178);replace BK178:=Aside0.mk (blk_below (bk BK178) hb);clear hb hbox hg;have hnb97:=NB189_178.out;have hnc97:=NB178_189.out;obtain ⟨hcz98_0,hcz98_1,hcz98_2,hcz98_3,hfz98_0,hfz98_1,hfz98_2,hfz98_3⟩:=ck4 BK189.out)|(go_at_call 83;(with_reducible refine (spec_l01In.calls ((rd_T97 l0_0 x7_2).f0) 1 1000000000 false _ A71.out).mono ?_);rintro e w' ⟨rfl,⟨nd,rfl⟩⟩))
              go_ret
              exact ⟨er,bl⟩
            ·rw [if_neg c70] at H
             have c70b0:(((rd_T97 l0_0 x7_2).f1) == x6_2)=false:=beq_eq_false_iff_ne.mpr c70
             have c70b1:(((rd_T97 l0_0 x7_2).f1) != x6_2)=true:=bne_iff_ne.mpr c70
             obtain rfl:=Option.some.inj H
             obtain ⟨hcz99_0,hcz99_1,hcz99_2,hcz99_3,hcz99_4,hfz99_0,hfz99_1,hfz99_2,hfz99_3,hfz99_4⟩:=ck5 BK178.out
             have p188:0≤(x7_2:Int):=od
             have q188:x7_2 < (l0_0.length:Int):=od
             obtain ⟨ad188,e188,hx188_0,hx188_1,hx188_2,hx188_3⟩:=at_T97 HR0_0.out x7_2 p188 q188
             (try rw [← Nbq68.out] at hx188_3)
             cases e188
             replace hx188_0:=cl HB hx188_0
             replace hx188_1:=cl HB hx188_1
             replace hx188_2:=cl HB hx188_2
             replace hx188_3:=cl HB hx188_3
             replace p188:=eq_true p188
             replace q188:=eq_true q188
             go_wp2_with (first|((with_reducible refine gate_dst (N:=8) rfl ?_);refine bx 8 #[.int .i64 0,.int .i64 0,.int .i64 0,.bool false] 97 ?_;intro gb189 hg w100 hbox hb;replace HO_3:=Aside0.mk (Kd.R_below (kr HO_3) hb);replace HO_4:=Aside0.mk (Kd.R_below (kr HO_4) hb);have BK189:=Aside0.mk (hbox);have GW189:=Aside0.mk (bz hg:w.heap.size≤gb189);have GE189:=GW189;replace HB:=Aside0.mk (below_step bl hb);have NB178_189:=Aside0.mk (nl hg BK178:gb178≠gb189);have NB189_178:=Aside0.mk (nr hg BK178:gb189≠gb178);replace BK178:=Aside0.mk (blk_below (bk BK178) hb);clear hb hbox hg;have hnb101:=NB189_178.out;have hnc101:=NB178_189.out;obtain ⟨hcz102_0,hcz102_1,hcz102_2,hcz102_3,hfz102_0,hfz102_1,hfz102_2,hfz102_3⟩:=ck4 BK189.out))
             go_ret
             exact ⟨er,bl⟩
           ·replace c69:=Bool.eq_false_iff.mpr c69
            subst c69
            rw [if_neg nft] at H
            obtain rfl:=Option.some.inj H
            obtain ⟨hcz103_0,hcz103_1,hcz103_2,hcz103_3,hcz103_4,hfz103_0,hfz103_1,hfz103_2,hfz103_3,hfz103_4⟩:=ck5 BK178.out
            have p188:0≤(x7_2:Int):=od
            have q188:x7_2 < (l0_0.length:Int):=od
            obtain ⟨ad188,e188,hx188_0,hx188_1,hx188_2,hx188_3⟩:=at_T97 HR0_0.out x7_2 p188 q188
            (try rw [← Nbq68.out] at hx188_3)
            cases e188
            replace hx188_0:=cl HB hx188_0
            replace hx188_1:=cl HB hx188_1
            replace hx188_2:=cl HB hx188_2
            replace hx188_3:=cl HB hx188_3
            replace p188:=eq_true p188
            replace q188:=eq_true q188
            go_wp2_with (first|((with_reducible refine gate_dst (N:=8) rfl ?_);refine bx 8 #[.int .i64 0,.int .i64 0,.int .i64 0,.bool false] 97 ?_;intro gb189 hg w104 hbox hb;replace HO_3:=Aside0.mk (Kd.R_below (kr HO_3) hb);replace HO_4:=Aside0.mk (Kd.R_below (kr HO_4) hb);have BK189:=Aside0.mk (hbox);have GW189:=Aside0.mk (bz hg:w.heap.size≤gb189);have GE189:=GW189;replace HB:=Aside0.mk (below_step bl hb);have NB178_189:=Aside0.mk (nl hg BK178:gb178≠gb189);have NB189_178:=Aside0.mk (nr hg BK178:gb189≠gb178);replace BK178:=Aside0.mk (blk_below (bk BK178) hb);clear hb hbox hg;have hnb105:=NB189_178.out;have hnc105:=NB178_189.out;obtain ⟨hcz106_0,hcz106_1,hcz106_2,hcz106_3,hfz106_0,hfz106_1,hfz106_2,hfz106_3⟩:=ck4 BK189.out))
            go_ret
            exact ⟨er,bl⟩
    ·rw [if_neg c9] at H
     exact absurd H (by simp)

end Go.Proofs.Ytnkpjpfmjkiidaa.PFnExactNextExpiry
