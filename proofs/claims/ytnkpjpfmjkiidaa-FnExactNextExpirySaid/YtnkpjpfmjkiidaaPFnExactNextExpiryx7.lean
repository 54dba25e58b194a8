/- Contracts of functions of the given program: what each call answers. Written by a program of this session, out of the text of the functions. -/
import Derived.Test.YtnkpjpfmjkiidaaPFnExactNextExpiryx0
import Derived.Test.YtnkpjpfmjkiidaaPFnExactNextExpiryx3
import Derived.Test.YtnkpjpfmjkiidaaPFnExactNextExpiryx5
import Derived.Test.YtnkpjpfmjkiidaaPFnExactNextExpiryx6
import Derived.Test.YtnkpjpfmjkiidaaZFnExactNextExpiry
namespace Go.Proofs.Ytnkpjpfmjkiidaa.PFnExactNextExpiry
open Go.RowKit Go.Proofs.YtnkpjpfmjkiidaaW.PrintWords Go.Proofs.YtnkpjpfmjkiidaaW.PrintLast Go.Proofs.YtnkpjpfmjkiidaaW.PrintMore Go.Proofs.Ytnkpjpfmjkiidaa.Giv Go.Proofs.Ytnkpjpfmjkiidaa.Prs
attribute [local go_sem] max2_int min2_int max_two min_two max_three min_three max_four min_four   -- for this text's walks alone
set_option linter.unusedVariables false
set_option linter.unusedSimpArgs false

/-! ### spec_LineOk: function 20 -/
mutual
def spec_LineOk.j0:Nat→Bool→List (S97)→Int→Int→Int→Int→List (S86)→Int→Option (Bool)
 | 0,_,_,_,_,_,_,_,_=>none
 | k + 1,x24,x230000,x230001,x230002,x230003,x230004,x230005,x230006=>if x24=true then (some false) else ((spec_ListQueue.f k x230000 x230001 x230002 x230003 x230004).bind fun t232=>(spec_LineOk.l0 k t232 0 x230000 x230001 x230002 x230003 x230004 x230005 x230006))
def spec_LineOk.l0:Nat→List Int→Int→List (S97)→Int→Int→Int→Int→List (S86)→Int→Option (Bool)
 | 0,_,_,_,_,_,_,_,_,_=>none
 | k + 1,x3,x4,x230000,x230001,x230002,x230003,x230004,x230005,x230006=>if x4 < (x3.length:Int) then (if 0≤x4 then ((spec_l03Find.f k x230005 x230006 (rd x3 x4)).bind fun t236=>(if t236 < 0 then (some false) else (spec_LineOk.l0 k x3 (wrap64 (x4 + 1)) x230000 x230001 x230002 x230003 x230004 x230005 x230006))) else (none)) else (some true)
end
def spec_LineOk.f (k:Nat) (l0_0:List (S97)) (a0_1:Int) (a0_2:Int) (a0_3:Int) (a0_4:Int) (l0_5:List (S86)) (a0_6:Int):Option (Bool):=(spec_QueueOk.f k l0_0 a0_1 a0_2 a0_3 a0_4).bind fun t230=>(if t230=true then ((spec_HeapOk.f k l0_5 a0_6).bind fun t231=>(if t231=true then (spec_LineOk.j0 k (a0_4 != (l0_5.length:Int)) l0_0 a0_1 a0_2 a0_3 a0_4 l0_5 a0_6) else (spec_LineOk.j0 k true l0_0 a0_1 a0_2 a0_3 a0_4 l0_5 a0_6))) else (spec_LineOk.j0 k true l0_0 a0_1 a0_2 a0_3 a0_4 l0_5 a0_6))
theorem spec_LineOk.mono_l:∀ k,(∀ y0 y1 y2 y3 y4 y5 y6 y7,LeO (spec_LineOk.j0 k y0 y1 y2 y3 y4 y5 y6 y7) (spec_LineOk.j0 (k + 1) y0 y1 y2 y3 y4 y5 y6 y7))∧(∀ y0 y1 y2 y3 y4 y5 y6 y7 y8,LeO (spec_LineOk.l0 k y0 y1 y2 y3 y4 y5 y6 y7 y8) (spec_LineOk.l0 (k + 1) y0 y1 y2 y3 y4 y5 y6 y7 y8))
 | 0=>⟨fun _ _ _ _ _ _ _ _ r h=>by simp [spec_LineOk.j0] at h,fun _ _ _ _ _ _ _ _ _ r h=>by simp [spec_LineOk.l0] at h⟩
 | k + 1=>by
  obtain ⟨ih0,ih1⟩:=spec_LineOk.mono_l k
  refine ⟨?_,?_⟩
  ·intro y0 y1 y2 y3 y4 y5 y6 y7
   unfold spec_LineOk.j0
   repeat' first
   | (with_reducible exact ih0 _ _ _ _ _ _ _ _)
   | (with_reducible exact ih1 _ _ _ _ _ _ _ _ _)
   | (with_reducible exact spec_HeapOk.mono _ _ _)
   | (with_reducible exact spec_ListQueue.mono _ _ _ _ _ _)
   | (with_reducible exact spec_QueueOk.mono _ _ _ _ _ _)
   | (with_reducible exact spec_l03Find.mono _ _ _ _)
   | (with_reducible exact LeO.refl _)
   | (with_reducible exact LeO.none _)
   | (with_reducible refine LeO.ite ?_ ?_)
   | (with_reducible refine LeO.bind ?_ (fun _=>?_))
   | exact ih0 _ _ _ _ _ _ _ _
   | exact ih1 _ _ _ _ _ _ _ _ _
   | exact spec_HeapOk.mono _ _ _
   | exact spec_ListQueue.mono _ _ _ _ _ _
   | exact spec_QueueOk.mono _ _ _ _ _ _
   | exact spec_l03Find.mono _ _ _ _
   | exact LeO.none _
   | refine LeO.ite ?_ ?_
   | refine LeO.bind ?_ (fun _=>?_)
  ·intro y0 y1 y2 y3 y4 y5 y6 y7 y8
   unfold spec_LineOk.l0
   repeat' first
   | (with_reducible exact ih0 _ _ _ _ _ _ _ _)
   | (with_reducible exact ih1 _ _ _ _ _ _ _ _ _)
   | (with_reducible exact spec_HeapOk.mono _ _ _)
   | (with_reducible exact spec_ListQueue.mono _ _ _ _ _ _)
   | (with_reducible exact spec_QueueOk.mono _ _ _ _ _ _)
   | (with_reducible exact spec_l03Find.mono _ _ _ _)
   | (with_reducible exact LeO.refl _)
   | (with_reducible exact LeO.none _)
   | (with_reducible refine LeO.ite ?_ ?_)
   | (with_reducible refine LeO.bind ?_ (fun _=>?_))
   | exact ih0 _ _ _ _ _ _ _ _
   | exact ih1 _ _ _ _ _ _ _ _ _
   | exact spec_HeapOk.mono _ _ _
   | exact spec_ListQueue.mono _ _ _ _ _ _
   | exact spec_QueueOk.mono _ _ _ _ _ _
   | exact spec_l03Find.mono _ _ _ _
   | exact LeO.none _
   | refine LeO.ite ?_ ?_
   | refine LeO.bind ?_ (fun _=>?_)
theorem spec_LineOk.mono:∀ a0 a1 a2 a3 a4 a5 a6 k,LeO (spec_LineOk.f k a0 a1 a2 a3 a4 a5 a6) (spec_LineOk.f (k + 1) a0 a1 a2 a3 a4 a5 a6):=by
 intro a0 a1 a2 a3 a4 a5 a6 k
 obtain ⟨ih0,ih1⟩:=spec_LineOk.mono_l k
 unfold spec_LineOk.f
 repeat' first
   | (with_reducible exact ih0 _ _ _ _ _ _ _ _)
   | (with_reducible exact ih1 _ _ _ _ _ _ _ _ _)
   | (with_reducible exact spec_HeapOk.mono _ _ _)
   | (with_reducible exact spec_ListQueue.mono _ _ _ _ _ _)
   | (with_reducible exact spec_QueueOk.mono _ _ _ _ _ _)
   | (with_reducible exact spec_l03Find.mono _ _ _ _)
   | (with_reducible exact LeO.refl _)
   | (with_reducible exact LeO.none _)
   | (with_reducible refine LeO.ite ?_ ?_)
   | (with_reducible refine LeO.bind ?_ (fun _=>?_))
   | exact ih0 _ _ _ _ _ _ _ _
   | exact ih1 _ _ _ _ _ _ _ _ _
   | exact spec_HeapOk.mono _ _ _
   | exact spec_ListQueue.mono _ _ _ _ _ _
   | exact spec_QueueOk.mono _ _ _ _ _ _
   | exact spec_l03Find.mono _ _ _ _
   | exact LeO.none _
   | refine LeO.ite ?_ ?_
   | refine LeO.bind ?_ (fun _=>?_)
def spec_LineOk.T7:Bool × List (List Nat × List Nat):=(true,[([],[]),([0],[0]),([],[]),([],[]),([2,3],[2,3]),([4],[4]),([1,5],[1,5]),([6],[6])])
def spec_LineOk.B7:List Nat:=[0,1,0,0,12,28,63,127]
theorem spec_LineOk.tab7:rtab .any (opsOf Try.f20 7)=spec_LineOk.T7:=by kernel_rfl
theorem spec_LineOk.bits7:waitsOk spec_LineOk.T7.2 spec_LineOk.B7=true:=by kernel_rfl
set_option maxHeartbeats 8000000 in
set_option maxRecDepth 100000 in
theorem spec_LineOk.calls (k:Nat) (A0_0:Option Addr) (c0_0:Nat) (l0_0:List (S97)) (a0_1:Int) (a0_2:Int) (a0_3:Int) (a0_4:Int) (A0_5:Option Addr) (c0_5:Nat) (l0_5:List (S86)) (a0_6:Int) (r:Bool) (w:World) (hr0_0:Kd.C k97 w A0_0 l0_0.length l0_0) (hc0_0:l0_0.length≤c0_0) (hr0_5:Kd.C k86 w A0_5 l0_5.length l0_5) (hc0_5:l0_5.length≤c0_5) (h:spec_LineOk.f k l0_0 a0_1 a0_2 a0_3 a0_4 l0_5 a0_6=some r) :
  Calls Try.prog 20 #[.agg #[.slice A0_0 l0_0.length c0_0,.int .i64 a0_1,.int .i64 a0_2,.int .i64 a0_3,.int .i64 a0_4,.slice A0_5 l0_5.length c0_5,.int .i64 a0_6]] w fun e w'=>e = .returned (.bool r)∧Below w.heap.size w w':=by
 have hu46:=Try.underlying46
 have hu28:=Try.underlying28
 have hu44:=Try.underlying44
 have HR0_0:=Aside0.mk hr0_0
 have HC0_0:=Aside0.mk hc0_0
 clear hr0_0 hc0_0
 have HR0_5:=Aside0.mk hr0_5
 have HC0_5:=Aside0.mk hc0_5
 clear hr0_5 hc0_5
 have HB:=Aside0.mk (Below.refl w.heap.size w)
 have H:((spec_QueueOk.f k l0_0 a0_1 a0_2 a0_3 a0_4).bind fun t230=>(if t230=true then ((spec_HeapOk.f k l0_5 a0_6).bind fun t231=>(if t231=true then (spec_LineOk.j0 k (a0_4 != (l0_5.length:Int)) l0_0 a0_1 a0_2 a0_3 a0_4 l0_5 a0_6) else (spec_LineOk.j0 k true l0_0 a0_1 a0_2 a0_3 a0_4 l0_5 a0_6))) else (spec_LineOk.j0 k true l0_0 a0_1 a0_2 a0_3 a0_4 l0_5 a0_6)))=some r:=h
 clear h
 have HC2:=Aside0.mk H
 clear H
 go_enter Try.func20,Try.ntmps20
 go_upto_region 1 with (first|((with_reducible refine gate_dst (N:=1) rfl ?_);(try (refine gate_guard (by rfl) ?_;dsimp only));refine bx 1 #[.slice A0_0 l0_0.length c0_0,.int .i64 a0_1,.int .i64 a0_2,.int .i64 a0_3,.int .i64 a0_4,.slice A0_5 l0_5.length c0_5,.int .i64 a0_6] 46 ?_;intro gb229 hg w3 hbox hb;have BK229:=Aside0.mk (hbox);have GW229:=Aside0.mk (bz hg:w.heap.size≤gb229);have GE229:=GW229;replace HB:=Aside0.mk (below_step bl hb);clear hb hbox hg))
 (try simp only [Act.put,List.setIfInBounds_toArray,List.set_cons_zero,List.set_cons_succ])
 go_cut [24] (fun v24 wc=>∃ (kq:Nat) (x24_1:Bool),v24 = .bool x24_1∧Aside0 (spec_LineOk.j0 kq x24_1 l0_0 a0_1 a0_2 a0_3 a0_4 l0_5 a0_6=some r)∧Aside0 (kq≤k)∧Aside0 (wc.heap[gb229]? = some (.cells #[(.slice A0_0 l0_0.length c0_0),.int .i64 a0_1,.int .i64 a0_2,.int .i64 a0_3,.int .i64 a0_4,(.slice A0_5 l0_5.length c0_5),.int .i64 a0_6] 46 (0,0)))∧Aside0 (Below w.heap.size w wc))
 case first =>
  have H:=HC2.out
  clear HC2
  replace H:=Option.bind_eq_some_iff.mp H
  obtain ⟨t230,A40,H⟩:=H
  have A4:=Aside0.mk A40
  clear A40
  by_cases c5:t230=true
  ·subst c5
   rw [if_pos rfl] at H
   replace H:=Option.bind_eq_some_iff.mp H
   obtain ⟨t231,A60,H⟩:=H
   have A6:=Aside0.mk A60
   clear A60
   by_cases c7:t231=true
   ·subst c7
    rw [if_pos rfl] at H
    have H':=Aside0.mk H
    clear H
    obtain ⟨hcz8_0,hcz8_1,hcz8_2,hcz8_3,hcz8_4,hcz8_5,hcz8_6,hfz8_0,hfz8_1,hfz8_2,hfz8_3,hfz8_4,hfz8_5,hfz8_6⟩:=ck7 BK229.out
    go_wp2_with (first|((with_reducible refine gate_callee (f:=60) rfl ?_);refine gl (some 7) Try.func60 #[.agg #[.slice A0_0 l0_0.length c0_0,.int .i64 a0_1,.int .i64 a0_2,.int .i64 a0_3,.int .i64 a0_4]] ?_;(with_reducible refine (spec_QueueOk.calls k _ _ l0_0 a0_1 a0_2 a0_3 a0_4 true _ ?side1 ?side2 A4.out).mono ?_);(case side1=>exact kc HR0_0);(case side2=>exact HC0_0.out);rintro e w9 ⟨rfl,hb⟩;refine ⟨_,rfl,?_⟩;replace BK229:=Aside0.mk (blk_below (bk BK229) hb);replace HB:=Aside0.mk (below_step bl hb);(try clear hb);(try clear hb2);(try clear hk);(try clear hi);obtain ⟨hcz10_0,hcz10_1,hcz10_2,hcz10_3,hcz10_4,hcz10_5,hcz10_6,hfz10_0,hfz10_1,hfz10_2,hfz10_3,hfz10_4,hfz10_5,hfz10_6⟩:=ck7 BK229.out)|(go_at_call 61;(with_reducible refine (spec_HeapOk.calls k _ _ l0_5 a0_6 true _ ?side1 ?side2 A6.out).mono ?_);(case side1=>exact kc HR0_5);(case side2=>exact HC0_5.out);rintro e w11 ⟨rfl,hb⟩;replace BK229:=Aside0.mk (blk_below (bk BK229) hb);replace HB:=Aside0.mk (below_step bl hb);(try clear hb);(try clear hb2);(try clear hk);(try clear hi);obtain ⟨hcz12_0,hcz12_1,hcz12_2,hcz12_3,hcz12_4,hcz12_5,hcz12_6,hfz12_0,hfz12_1,hfz12_2,hfz12_3,hfz12_4,hfz12_5,hfz12_6⟩:=ck7 BK229.out))
    go_meet
    case rel=>exact ⟨_,((a0_4 != (l0_5.length:Int))),(by first|rfl|(simp;done)|(simp [*];done)),H',⟨by first|omega|exact Nat.le_refl _⟩,⟨bk BK229⟩,⟨bl⟩⟩
   ·replace c7:=Bool.eq_false_iff.mpr c7
    subst c7
    rw [if_neg nft] at H
    have H':=Aside0.mk H
    clear H
    obtain ⟨hcz13_0,hcz13_1,hcz13_2,hcz13_3,hcz13_4,hcz13_5,hcz13_6,hfz13_0,hfz13_1,hfz13_2,hfz13_3,hfz13_4,hfz13_5,hfz13_6⟩:=ck7 BK229.out
    go_wp2_with (first|((with_reducible refine gate_callee (f:=60) rfl ?_);refine gl (some 7) Try.func60 #[.agg #[.slice A0_0 l0_0.length c0_0,.int .i64 a0_1,.int .i64 a0_2,.int .i64 a0_3,.int .i64 a0_4]] ?_;(with_reducible refine (spec_QueueOk.calls k _ _ l0_0 a0_1 a0_2 a0_3 a0_4 true _ ?side1 ?side2 A4.out).mono ?_);(case side1=>exact kc HR0_0);(case side2=>exact HC0_0.out);rintro e w14 ⟨rfl,hb⟩;refine ⟨_,rfl,?_⟩;replace BK229:=Aside0.mk (blk_below (bk BK229) hb);replace HB:=Aside0.mk (below_step bl hb);(try clear hb);(try clear hb2);(try clear hk);(try clear hi);obtain ⟨hcz15_0,hcz15_1,hcz15_2,hcz15_3,hcz15_4,hcz15_5,hcz15_6,hfz15_0,hfz15_1,hfz15_2,hfz15_3,hfz15_4,hfz15_5,hfz15_6⟩:=ck7 BK229.out)|(go_at_call 61;(with_reducible refine (spec_HeapOk.calls k _ _ l0_5 a0_6 false _ ?side1 ?side2 A6.out).mono ?_);(case side1=>exact kc HR0_5);(case side2=>exact HC0_5.out);rintro e w16 ⟨rfl,hb⟩;replace BK229:=Aside0.mk (blk_below (bk BK229) hb);replace HB:=Aside0.mk (below_step bl hb);(try clear hb);(try clear hb2);(try clear hk);(try clear hi)))
    go_meet
    case rel=>exact ⟨_,(true),(by first|rfl|(simp;done)|(simp [*];done)),H',⟨by first|omega|exact Nat.le_refl _⟩,⟨bk BK229⟩,⟨bl⟩⟩
  ·replace c5:=Bool.eq_false_iff.mpr c5
   subst c5
   rw [if_neg nft] at H
   have H':=Aside0.mk H
   clear H
   obtain ⟨hcz17_0,hcz17_1,hcz17_2,hcz17_3,hcz17_4,hcz17_5,hcz17_6,hfz17_0,hfz17_1,hfz17_2,hfz17_3,hfz17_4,hfz17_5,hfz17_6⟩:=ck7 BK229.out
   go_wp2_with (first|((with_reducible refine gate_callee (f:=60) rfl ?_);refine gl (some 7) Try.func60 #[.agg #[.slice A0_0 l0_0.length c0_0,.int .i64 a0_1,.int .i64 a0_2,.int .i64 a0_3,.int .i64 a0_4]] ?_;(with_reducible refine (spec_QueueOk.calls k _ _ l0_0 a0_1 a0_2 a0_3 a0_4 false _ ?side1 ?side2 A4.out).mono ?_);(case side1=>exact kc HR0_0);(case side2=>exact HC0_0.out);rintro e w18 ⟨rfl,hb⟩;refine ⟨_,rfl,?_⟩;replace BK229:=Aside0.mk (blk_below (bk BK229) hb);replace HB:=Aside0.mk (below_step bl hb);(try clear hb);(try clear hb2);(try clear hk);(try clear hi)))
   go_meet
   case rel=>exact ⟨_,(true),(by first|rfl|(simp;done)|(simp [*];done)),H',⟨by first|omega|exact Nat.le_refl _⟩,⟨bk BK229⟩,⟨bl⟩⟩
 case rest =>
  clear HC2
  try clear c2
  try clear p2
  try clear c5
  try clear c6
  try clear c7
  try clear hcz10_0
  try clear hcz10_1
  try clear hcz10_2
  try clear hcz10_3
  try clear hcz10_4
  try clear hcz10_5
  try clear hcz10_6
  try clear hcz12_0
  try clear hcz12_1
  try clear hcz12_2
  try clear hcz12_3
  try clear hcz12_4
  try clear hcz12_5
  try clear hcz12_6
  try clear hcz13_0
  try clear hcz13_1
  try clear hcz13_2
  try clear hcz13_3
  try clear hcz13_4
  try clear hcz13_5
  try clear hcz13_6
  try clear hcz15_0
  try clear hcz15_1
  try clear hcz15_2
  try clear hcz15_3
  try clear hcz15_4
  try clear hcz15_5
  try clear hcz15_6
  try clear hcz17_0
  try clear hcz17_1
  try clear hcz17_2
  try clear hcz17_3
  try clear hcz17_4
  try clear hcz17_5
  try clear hcz17_6
  try clear hcz8_0
  try clear hcz8_1
  try clear hcz8_2
  try clear hcz8_3
  try clear hcz8_4
  try clear hcz8_5
  try clear hcz8_6
  try clear hfz10_0
  try clear hfz10_1
  try clear hfz10_2
  try clear hfz10_3
  try clear hfz10_4
  try clear hfz10_5
  try clear hfz10_6
  try clear hfz12_0
  try clear hfz12_1
  try clear hfz12_2
  try clear hfz12_3
  try clear hfz12_4
  try clear hfz12_5
  try clear hfz12_6
  try clear hfz13_0
  try clear hfz13_1
  try clear hfz13_2
  try clear hfz13_3
  try clear hfz13_4
  try clear hfz13_5
  try clear hfz13_6
  try clear hfz15_0
  try clear hfz15_1
  try clear hfz15_2
  try clear hfz15_3
  try clear hfz15_4
  try clear hfz15_5
  try clear hfz15_6
  try clear hfz17_0
  try clear hfz17_1
  try clear hfz17_2
  try clear hfz17_3
  try clear hfz17_4
  try clear hfz17_5
  try clear hfz17_6
  try clear hfz8_0
  try clear hfz8_1
  try clear hfz8_2
  try clear hfz8_3
  try clear hfz8_4
  try clear hfz8_5
  try clear hfz8_6
  obtain ⟨kq,x24_1,rfl,HA,HJ1,BK229,HB⟩:=hcut
  cases kq with
  | zero=>exact absurd HA.out (by simp [spec_LineOk.j0])
  | succ kj1 =>
   have H:=HA.out
   clear HA
   simp only [spec_LineOk.j0] at H
   by_cases c19:x24_1=true
   ·subst c19
    rw [if_pos rfl] at H
    obtain rfl:=Option.some.inj H
    go_wp2
    go_ret
    exact ⟨er,bl⟩
   ·replace c19:=Bool.eq_false_iff.mpr c19
    subst c19
    rw [if_neg nft] at H
    replace H:=Option.bind_eq_some_iff.mp H
    obtain ⟨t232,A200,H⟩:=H
    have A20:=Aside0.mk A200
    clear A200
    have H':=Aside0.mk H
    clear H
    obtain ⟨hcz21_0,hcz21_1,hcz21_2,hcz21_3,hcz21_4,hcz21_5,hcz21_6,hfz21_0,hfz21_1,hfz21_2,hfz21_3,hfz21_4,hfz21_5,hfz21_6⟩:=ck7 BK229.out
    go_wp2_with (first|((with_reducible refine gate_callee (f:=62) rfl ?_);refine gl (some 27) Try.func62 #[.agg #[.slice A0_0 l0_0.length c0_0,.int .i64 a0_1,.int .i64 a0_2,.int .i64 a0_3,.int .i64 a0_4]] ?_;(with_reducible refine (spec_ListQueue.calls kj1 _ _ l0_0 a0_1 a0_2 a0_3 a0_4 t232 _ ?side1 ?side2 A20.out).mono ?_);(case side1=>exact kc HR0_0);(case side2=>exact HC0_0.out);rintro e w22 ⟨v233,rfl,ho0,hb⟩;refine ⟨_,rfl,?_⟩;have HO234:=Aside0.mk (Kd.R_lower ho0 (below_size bl));replace BK229:=Aside0.mk (blk_below (bk BK229) hb);replace HB:=Aside0.mk (below_step bl hb);(try clear hb);(try clear hb2);(try clear hk);(try clear hi);(try clear ho0)))
    go_loopg [4] kj1 (fun kq v4 w'=>∃ (x4_2:Int),v4 = .int .i64 x4_2∧Aside0 (spec_LineOk.l0 kq t232 x4_2 l0_0 a0_1 a0_2 a0_3 a0_4 l0_5 a0_6=some r)∧Aside0 (kq≤kj1)∧Aside0 (Kd.R (Kd.int .i64) 3 w' w.heap.size (fun _=>True) v233 t232)∧Aside0 (w'.heap[gb229]? = some (.cells #[(.slice A0_0 l0_0.length c0_0),.int .i64 a0_1,.int .i64 a0_2,.int .i64 a0_3,.int .i64 a0_4,(.slice A0_5 l0_5.length c0_5),.int .i64 a0_6] 46 (0,0)))∧Aside0 (Below w.heap.size w w'))
    case atStart=>exact ⟨(0),(by first|rfl|(simp;done)|(simp [*];done)),H',⟨Nat.le_refl _⟩,⟨kr HO234⟩,⟨bk BK229⟩,⟨bl⟩⟩
    case round =>
     clear H'
     try clear c1
     try clear c2
     try clear p2
     try clear c5
     try clear c6
     try clear c7
     try clear c19
     try clear c20
     try clear hcz10_0
     try clear hcz10_1
     try clear hcz10_2
     try clear hcz10_3
     try clear hcz10_4
     try clear hcz10_5
     try clear hcz10_6
     try clear hcz12_0
     try clear hcz12_1
     try clear hcz12_2
     try clear hcz12_3
     try clear hcz12_4
     try clear hcz12_5
     try clear hcz12_6
     try clear hcz13_0
     try clear hcz13_1
     try clear hcz13_2
     try clear hcz13_3
     try clear hcz13_4
     try clear hcz13_5
     try clear hcz13_6
     try clear hcz15_0
     try clear hcz15_1
     try clear hcz15_2
     try clear hcz15_3
     try clear hcz15_4
     try clear hcz15_5
     try clear hcz15_6
     try clear hcz17_0
     try clear hcz17_1
     try clear hcz17_2
     try clear hcz17_3
     try clear hcz17_4
     try clear hcz17_5
     try clear hcz17_6
     try clear hcz21_0
     try clear hcz21_1
     try clear hcz21_2
     try clear hcz21_3
     try clear hcz21_4
     try clear hcz21_5
     try clear hcz21_6
     try clear hcz8_0
     try clear hcz8_1
     try clear hcz8_2
     try clear hcz8_3
     try clear hcz8_4
     try clear hcz8_5
     try clear hcz8_6
     try clear hfz10_0
     try clear hfz10_1
     try clear hfz10_2
     try clear hfz10_3
     try clear hfz10_4
     try clear hfz10_5
     try clear hfz10_6
     try clear hfz12_0
     try clear hfz12_1
     try clear hfz12_2
     try clear hfz12_3
     try clear hfz12_4
     try clear hfz12_5
     try clear hfz12_6
     try clear hfz13_0
     try clear hfz13_1
     try clear hfz13_2
     try clear hfz13_3
     try clear hfz13_4
     try clear hfz13_5
     try clear hfz13_6
     try clear hfz15_0
     try clear hfz15_1
     try clear hfz15_2
     try clear hfz15_3
     try clear hfz15_4
     try clear hfz15_5
     try clear hfz15_6
     try clear hfz17_0
     try clear hfz17_1
     try clear hfz17_2
     try clear hfz17_3
     try clear hfz17_4
     try clear hfz17_5
     try clear hfz17_6
     try clear hfz21_0
     try clear hfz21_1
     try clear hfz21_2
     try clear hfz21_3
     try clear hfz21_4
     try clear hfz21_5
     try clear hfz21_6
     try clear hfz8_0
     try clear hfz8_1
     try clear hfz8_2
     try clear hfz8_3
     try clear hfz8_4
     try clear hfz8_5
     try clear hfz8_6
     try clear p2
     obtain ⟨x4_2,rfl,HA,HK2,HO_3,BK229,HB⟩:=hrel
     cases gk with
     | zero=>exact absurd HA.out (by simp [spec_LineOk.l0])
     | succ k2 =>
      have H:=HA.out
      clear HA
      simp only [spec_LineOk.l0] at H
      by_cases c23:x4_2 < (t232.length:Int)
      ·rw [if_pos c23] at H
       have c23b0:decide (x4_2 < (t232.length:Int))=true:=decide_eq_true c23
       clear c23
       by_cases c24:0≤x4_2
       case neg =>
        rw [if_neg c24] at H
        exact absurd H (by simp)
       rw [if_pos c24] at H
       have c24b0:decide (0≤x4_2)=true:=decide_eq_true c24
       clear c24
       replace H:=Option.bind_eq_some_iff.mp H
       obtain ⟨t236,A250,H⟩:=H
       have A25:=Aside0.mk A250
       clear A250
       by_cases c26:t236 < 0
       ·rw [if_pos c26] at H
        have c26b0:decide (t236 < 0)=true:=decide_eq_true c26
        clear c26
        obtain rfl:=Option.some.inj H
        obtain ⟨Ao27,co27,eo27⟩:=Kd.R_slice HO_3.out
        subst eo27
        try go_wp2
        replace HO_3:=Aside0.mk (Kd.R_drew HO_3.out)
        replace BK229:=Aside0.mk (blk_drew BK229.out)
        replace HB:=Aside0.mk (below_drew1 HB.out)
        have p235:0≤(x4_2:Int):=od
        have q235:x4_2 < (t232.length:Int):=od
        obtain ⟨ad235,e235,hx235_0⟩:=Kd.at_int (Kd.R_reads' HO_3.out).2.2 x4_2 p235 q235
        cases e235
        replace p235:=eq_true p235
        replace q235:=eq_true q235
        refine start_ (n:=8) (S:=fun w'=>w'.cell? ⟨gb229,0,none⟩=some (.slice A0_0 l0_0.length c0_0)∧w'.cell? ⟨gb229,1,none⟩=some (.int .i64 a0_1)∧w'.cell? ⟨gb229,2,none⟩=some (.int .i64 a0_2)∧w'.cell? ⟨gb229,3,none⟩=some (.int .i64 a0_3)∧w'.cell? ⟨gb229,4,none⟩=some (.int .i64 a0_4)∧w'.cell? ⟨gb229,5,none⟩=some (.slice A0_5 l0_5.length c0_5)∧w'.cell? ⟨gb229,6,none⟩=some (.int .i64 a0_6)∧w'.cell? (ad235.add (x4_2).toNat)=some (.int .i64 (rd t232 x4_2))) (ds:=[]) (bs 8 0) (by kernel_rfl) rfl rfl ⟨bc BK229 0,bc BK229 1,bc BK229 2,bc BK229 3,bc BK229 4,bc BK229 5,bc BK229 6,hx235_0⟩ (fun hHeld=>?_);refine with_tabW spec_LineOk.tab7 spec_LineOk.bits7 (fun HT_ HW_=>?_)
        generalize wr.drew=w28 at HO_3 BK229 HB hx235_0 hHeld ⊢
        refine pq 0 34 (bs 8 1) HT_ ?_
        refine pq 2 36 (bs 8 5) HT_ ?_
        refine pq 3 37 (bs 8 13) HT_ ?_
        refine pq 4 38 (bs 8 29) HT_ ?_
        refine tq 1 35 (bs 8 31) HT_ HW_ hHeld ?_
        refine tq 5 39 (bs 8 63) HT_ HW_ hHeld ?_
        refine one_ (i:=6) (N:=some 40) (bs 8 127) rfl rfl (one_of HT_.out (by kernel_rfl)) (by decide) (fun K hK=>?_)
        refine goes_ Try.func63 (by kernel_rfl) rfl #[.agg #[.slice A0_5 l0_5.length c0_5,.int .i64 a0_6],.int .i64 (rd t232 x4_2)] (by rfl) rfl rfl (by (try simp only [List.map_toArray,List.map_cons,List.map_nil]);first|done|rfl|(simp only [List.length_drop,List.length_take];rfl)) ?_
        with_reducible refine (spec_l03Find.calls k2 _ _ l0_5 a0_6 (rd t232 x4_2) t236 _ ?side1 ?side2 A25.out).mono ?_
        (case side1=>exact kc HR0_5)
        (case side2=>exact HC0_5.out)
        rintro e w29 ⟨rfl,hb⟩
        have HS7_:=(hb.cell (World.block_lt_of_cell? _ _ (hHeld.2.2.2.2.2.2.2))).trans (hHeld.2.2.2.2.2.2.2)
        refine ⟨_,rfl,?_⟩
        replace HO_3:=Aside0.mk (Kd.R_below (kr HO_3) hb)
        replace BK229:=Aside0.mk (blk_below (bk BK229) hb)
        replace HB:=Aside0.mk (below_step bl hb)
        (try clear hb)
        (try clear hb2)
        (try clear hk)
        (try clear hi)
        refine hK.out _ _ ⟨bc BK229 0,bc BK229 1,bc BK229 2,bc BK229 3,bc BK229 4,bc BK229 5,bc BK229 6,HS7_⟩ (fun hHeld=>?_)
        clear hK K
        refine nrm ?_
        refine pq 7 41 (bs 8 255) HT_ ?_
        refine done_ (done_of HT_.out (by kernel_rfl)) ?_
        try go_wp2
        go_ret
        exact ⟨er,bl⟩
       ·rw [if_neg c26] at H
        have c26b0:decide (t236 < 0)=false:=decide_eq_false c26
        clear c26
        have H':=Aside0.mk H
        clear H
        obtain ⟨Ao30,co30,eo30⟩:=Kd.R_slice HO_3.out
        subst eo30
        try go_wp2
        replace HO_3:=Aside0.mk (Kd.R_drew HO_3.out)
        replace BK229:=Aside0.mk (blk_drew BK229.out)
        replace HB:=Aside0.mk (below_drew1 HB.out)
        have p235:0≤(x4_2:Int):=od
        have q235:x4_2 < (t232.length:Int):=od
        obtain ⟨ad235,e235,hx235_0⟩:=Kd.at_int (Kd.R_reads' HO_3.out).2.2 x4_2 p235 q235
        cases e235
        replace p235:=eq_true p235
        replace q235:=eq_true q235
        refine start_ (n:=8) (S:=fun w'=>w'.cell? ⟨gb229,0,none⟩=some (.slice A0_0 l0_0.length c0_0)∧w'.cell? ⟨gb229,1,none⟩=some (.int .i64 a0_1)∧w'.cell? ⟨gb229,2,none⟩=some (.int .i64 a0_2)∧w'.cell? ⟨gb229,3,none⟩=some (.int .i64 a0_3)∧w'.cell? ⟨gb229,4,none⟩=some (.int .i64 a0_4)∧w'.cell? ⟨gb229,5,none⟩=some (.slice A0_5 l0_5.length c0_5)∧w'.cell? ⟨gb229,6,none⟩=some (.int .i64 a0_6)∧w'.cell? (ad235.add (x4_2).toNat)=some (.int .i64 (rd t232 x4_2))) (ds:=[]) (bs 8 0) (by kernel_rfl) rfl rfl ⟨bc BK229 0,bc BK229 1,bc BK229 2,bc BK229 3,bc BK229 4,bc BK229 5,bc BK229 6,hx235_0⟩ (fun hHeld=>?_);refine with_tabW spec_LineOk.tab7 spec_LineOk.bits7 (fun HT_ HW_=>?_)
        generalize wr.drew=w31 at HO_3 BK229 HB hx235_0 hHeld ⊢
        refine pq 0 34 (bs 8 1) HT_ ?_
        refine pq 2 36 (bs 8 5) HT_ ?_
        refine pq 3 37 (bs 8 13) HT_ ?_
        refine pq 4 38 (bs 8 29) HT_ ?_
        refine tq 1 35 (bs 8 31) HT_ HW_ hHeld ?_
        refine tq 5 39 (bs 8 63) HT_ HW_ hHeld ?_
        refine one_ (i:=6) (N:=some 40) (bs 8 127) rfl rfl (one_of HT_.out (by kernel_rfl)) (by decide) (fun K hK=>?_)
        refine goes_ Try.func63 (by kernel_rfl) rfl #[.agg #[.slice A0_5 l0_5.length c0_5,.int .i64 a0_6],.int .i64 (rd t232 x4_2)] (by rfl) rfl rfl (by (try simp only [List.map_toArray,List.map_cons,List.map_nil]);first|done|rfl|(simp only [List.length_drop,List.length_take];rfl)) ?_
        with_reducible refine (spec_l03Find.calls k2 _ _ l0_5 a0_6 (rd t232 x4_2) t236 _ ?side1 ?side2 A25.out).mono ?_
        (case side1=>exact kc HR0_5)
        (case side2=>exact HC0_5.out)
        rintro e w32 ⟨rfl,hb⟩
        have HS7_:=(hb.cell (World.block_lt_of_cell? _ _ (hHeld.2.2.2.2.2.2.2))).trans (hHeld.2.2.2.2.2.2.2)
        refine ⟨_,rfl,?_⟩
        replace HO_3:=Aside0.mk (Kd.R_below (kr HO_3) hb)
        replace BK229:=Aside0.mk (blk_below (bk BK229) hb)
        replace HB:=Aside0.mk (below_step bl hb)
        (try clear hb)
        (try clear hb2)
        (try clear hk)
        (try clear hi)
        refine hK.out _ _ ⟨bc BK229 0,bc BK229 1,bc BK229 2,bc BK229 3,bc BK229 4,bc BK229 5,bc BK229 6,HS7_⟩ (fun hHeld=>?_)
        clear hK K
        refine nrm ?_
        refine pq 7 41 (bs 8 255) HT_ ?_
        refine done_ (done_of HT_.out (by kernel_rfl)) ?_
        try go_wp2
        go_roundg k2
        case measure=>have:=HJ1.out;have:=HK2.out;omega
        case rel=>exact ⟨(wrap64 (x4_2 + 1)),(by first|rfl|(simp;done)|(simp [*];done)),H',⟨by have:=HJ1.out;have:=HK2.out;omega⟩,⟨kr HO_3⟩,⟨bk BK229⟩,⟨bl⟩⟩
      ·rw [if_neg c23] at H
       have c23b0:decide (x4_2 < (t232.length:Int))=false:=decide_eq_false c23
       clear c23
       obtain rfl:=Option.some.inj H
       obtain ⟨Ao33,co33,eo33⟩:=Kd.R_slice HO_3.out
       subst eo33
       go_wp2
       go_ret
       exact ⟨er,bl⟩

/-! ### spec_NextDue: function 70 -/
def spec_NextDue.f (k:Nat) (l0_0:List (S86)) (a0_1:Int):Option (Int × Int × Int × Bool):=(spec_HeapOk.f k l0_0 a0_1).bind fun t239=>(if t239=true then (if (l0_0.length:Int)=0 then (some (0,0,0,false)) else (if 0 < (l0_0.length:Int) then (some ((rd_T86 l0_0 0).f0,(rd_T86 l0_0 0).f1,(rd_T86 l0_0 0).f2,true)) else (none))) else (some (0,0,0,false)))
theorem spec_NextDue.mono:∀ a0 a1 k,LeO (spec_NextDue.f k a0 a1) (spec_NextDue.f (k + 1) a0 a1):=by
 intro a0 a1 k
 unfold spec_NextDue.f
 repeat' first
   | (with_reducible exact spec_HeapOk.mono _ _ _)
   | (with_reducible exact LeO.refl _)
   | (with_reducible exact LeO.none _)
   | (with_reducible refine LeO.ite ?_ ?_)
   | (with_reducible refine LeO.bind ?_ (fun _=>?_))
   | exact spec_HeapOk.mono _ _ _
   | exact LeO.none _
   | refine LeO.ite ?_ ?_
   | refine LeO.bind ?_ (fun _=>?_)
set_option maxHeartbeats 8000000 in
set_option maxRecDepth 100000 in
theorem spec_NextDue.calls (k:Nat) (A0_0:Option Addr) (c0_0:Nat) (l0_0:List (S86)) (a0_1:Int) (r1:Int) (r2:Int) (r3:Int) (r4:Bool) (w:World) (hr0_0:Kd.C k86 w A0_0 l0_0.length l0_0) (hc0_0:l0_0.length≤c0_0) (h:spec_NextDue.f k l0_0 a0_1=some (r1,r2,r3,r4)) :
  Calls Try.prog 70 #[.agg #[.slice A0_0 l0_0.length c0_0,.int .i64 a0_1]] w fun e w'=>e = .returned (.tuple #[.agg #[.int .i64 r1,.int .i64 r2,.int .i64 r3],.bool r4])∧Below w.heap.size w w':=by
 have hu44:=Try.underlying44
 have hu86:=Try.underlying86
 have HR0_0:=Aside0.mk hr0_0
 have HC0_0:=Aside0.mk hc0_0
 clear hr0_0 hc0_0
 have HB:=Aside0.mk (Below.refl w.heap.size w)
 have H:((spec_HeapOk.f k l0_0 a0_1).bind fun t239=>(if t239=true then (if (l0_0.length:Int)=0 then (some (0,0,0,false)) else (if 0 < (l0_0.length:Int) then (some ((rd_T86 l0_0 0).f0,(rd_T86 l0_0 0).f1,(rd_T86 l0_0 0).f2,true)) else (none))) else (some (0,0,0,false))))=some (r1,r2,r3,r4):=h
 clear h
 replace H:=Option.bind_eq_some_iff.mp H
 obtain ⟨t239,A20,H⟩:=H
 have A2:=Aside0.mk A20
 clear A20
 by_cases c3:t239=true
 ·subst c3
  rw [if_pos rfl] at H
  by_cases c4:(l0_0.length:Int)=0
  ·rw [if_pos c4] at H
   have c4b0:((l0_0.length:Int) == 0)=true:=beq_iff_eq.mpr c4
   have c4b1:((l0_0.length:Int) != 0)=false:=bne_eq_false_iff_eq.mpr c4
   clear c4
   simp only [Option.some.injEq,Prod.mk.injEq] at H
   obtain ⟨rfl,rfl,rfl,rfl⟩:=H
   go_enter Try.func70,Try.ntmps70
   go_wp2_with (first|((with_reducible refine gate_dst (N:=1) rfl ?_);(try (refine gate_guard (by rfl) ?_;dsimp only));refine bx 1 #[.slice A0_0 l0_0.length c0_0,.int .i64 a0_1] 44 ?_;intro gb237 hg w5 hbox hb;have BK237:=Aside0.mk (hbox);have GW237:=Aside0.mk (bz hg:w.heap.size≤gb237);have GE237:=GW237;replace HB:=Aside0.mk (below_step bl hb);clear hb hbox hg)|((with_reducible refine gate_dst (N:=2) rfl ?_);(try (refine gate_guard (by rfl) ?_;dsimp only));refine bx 2 #[.int .i64 0,.int .i64 0,.int .i64 0] 86 ?_;intro gb238 hg w6 hbox hb;have BK238:=Aside0.mk (hbox);have GW238:=Aside0.mk (bz hg:w.heap.size≤gb238);have GE238:=GW238;replace HB:=Aside0.mk (below_step bl hb);have NB237_238:=Aside0.mk (nl hg BK237:gb237≠gb238);have NB238_237:=Aside0.mk (nr hg BK237:gb238≠gb237);replace BK237:=Aside0.mk (blk_below (bk BK237) hb);clear hb hbox hg;have hnb7:=NB237_238.out;have hnc7:=NB238_237.out;obtain ⟨hcz8_0,hcz8_1,hfz8_0,hfz8_1⟩:=ck2 BK237.out)|((with_reducible refine gate_callee (f:=61) rfl ?_);refine gl (some 5) Try.func61 #[.agg #[.slice A0_0 l0_0.length c0_0,.int .i64 a0_1]] ?_;(with_reducible refine (spec_HeapOk.calls k _ _ l0_0 a0_1 true _ ?side1 ?side2 A2.out).mono ?_);(case side1=>exact kc HR0_0);(case side2=>exact HC0_0.out);rintro e w9 ⟨rfl,hb⟩;refine ⟨_,rfl,?_⟩;replace BK237:=Aside0.mk (blk_below (bk BK237) hb);replace BK238:=Aside0.mk (blk_below (bk BK238) hb);replace HB:=Aside0.mk (below_step bl hb);(try clear hb);(try clear hb2);(try clear hk);(try clear hi);obtain ⟨hcz10_0,hcz10_1,hfz10_0,hfz10_1⟩:=ck2 BK237.out;obtain ⟨hcz11_0,hcz11_1,hcz11_2,hfz11_0,hfz11_1,hfz11_2⟩:=ck3 BK238.out))
   refine bodyPost_ret (results_ct rfl _ _ gb238 86 #[.int .i64 0,.int .i64 0,.int .i64 0] (0,0) _ rfl (by (with_reducible repeat (first|refine blk_drewN ?_ _|refine blk_drew ?_|refine blk_alloc ?_ _));refine blk_put (cs:=#[.int .i64 0,.int .i64 0,.int .i64 0]) ?_ 2 _ rfl;(with_reducible repeat (first|refine blk_drewN ?_ _|refine blk_drew ?_|refine blk_alloc ?_ _));refine blk_put (cs:=#[.int .i64 0,.int .i64 0,.int .i64 0]) ?_ 1 _ rfl;(with_reducible repeat (first|refine blk_drewN ?_ _|refine blk_drew ?_|refine blk_alloc ?_ _));refine blk_put (cs:=#[.int .i64 0,.int .i64 0,.int .i64 0]) ?_ 0 _ rfl;(with_reducible repeat (first|refine blk_drewN ?_ _|refine blk_drew ?_|refine blk_alloc ?_ _));exact BK238.out) Try.underlying86 rfl (by kernel_rfl)) rfl ?_
   exact ⟨er,bl⟩
  ·rw [if_neg c4] at H
   have c4b0:((l0_0.length:Int) == 0)=false:=beq_eq_false_iff_ne.mpr c4
   have c4b1:((l0_0.length:Int) != 0)=true:=bne_iff_ne.mpr c4
   have c4b2:¬ (l0_0 = []):=fun h_=>c4 (by rw [h_];rfl)
   by_cases c12:0 < (l0_0.length:Int)
   case neg =>
    rw [if_neg c12] at H
    exact absurd H (by simp)
   rw [if_pos c12] at H
   have c12b0:decide (0 < (l0_0.length:Int))=true:=decide_eq_true c12
   have c12b1:decide (0 < l0_0.length)=true:=decide_eq_true (by omega)
   clear c12
   simp only [Option.some.injEq,Prod.mk.injEq] at H
   obtain ⟨rfl,rfl,rfl,rfl⟩:=H
   go_enter Try.func70,Try.ntmps70
   go_wp2_with (first|((with_reducible refine gate_dst (N:=1) rfl ?_);(try (refine gate_guard (by rfl) ?_;dsimp only));refine bx 1 #[.slice A0_0 l0_0.length c0_0,.int .i64 a0_1] 44 ?_;intro gb237 hg w13 hbox hb;have BK237:=Aside0.mk (hbox);have GW237:=Aside0.mk (bz hg:w.heap.size≤gb237);have GE237:=GW237;replace HB:=Aside0.mk (below_step bl hb);clear hb hbox hg)|((with_reducible refine gate_dst (N:=2) rfl ?_);(try (refine gate_guard (by rfl) ?_;dsimp only));refine bx 2 #[.int .i64 0,.int .i64 0,.int .i64 0] 86 ?_;intro gb238 hg w14 hbox hb;have BK238:=Aside0.mk (hbox);have GW238:=Aside0.mk (bz hg:w.heap.size≤gb238);have GE238:=GW238;replace HB:=Aside0.mk (below_step bl hb);have NB237_238:=Aside0.mk (nl hg BK237:gb237≠gb238);have NB238_237:=Aside0.mk (nr hg BK237:gb238≠gb237);replace BK237:=Aside0.mk (blk_below (bk BK237) hb);clear hb hbox hg;have hnb15:=NB237_238.out;have hnc15:=NB238_237.out;obtain ⟨hcz16_0,hcz16_1,hfz16_0,hfz16_1⟩:=ck2 BK237.out)|((with_reducible refine gate_callee (f:=61) rfl ?_);refine gl (some 5) Try.func61 #[.agg #[.slice A0_0 l0_0.length c0_0,.int .i64 a0_1]] ?_;(with_reducible refine (spec_HeapOk.calls k _ _ l0_0 a0_1 true _ ?side1 ?side2 A2.out).mono ?_);(case side1=>exact kc HR0_0);(case side2=>exact HC0_0.out);rintro e w17 ⟨rfl,hb⟩;refine ⟨_,rfl,?_⟩;replace BK237:=Aside0.mk (blk_below (bk BK237) hb);replace BK238:=Aside0.mk (blk_below (bk BK238) hb);replace HB:=Aside0.mk (below_step bl hb);(try clear hb);(try clear hb2);(try clear hk);(try clear hi);obtain ⟨hcz18_0,hcz18_1,hfz18_0,hfz18_1⟩:=ck2 BK237.out;have p240:0≤(0:Int):=(by omega);have q240:0 < (l0_0.length:Int):=od;obtain ⟨ad240,e240,hx240_0,hx240_1,hx240_2⟩:=at_T86 HR0_0.out 0 p240 q240;cases e240;have qi240:(0 < l0_0.length)=True:=eq_true (by omega);(try rw [show ((0:Int)).toNat=0 from rfl] at hx240_0);(try rw [show 0 * 3=0 from rfl] at hx240_0);(try rw [Addr.add_zero'] at hx240_0);(try rw [show ((0:Int)).toNat=0 from rfl] at hx240_1);(try rw [show 0 * 3=0 from rfl] at hx240_1);(try rw [Addr.add_zero'] at hx240_1);(try rw [show ((0:Int)).toNat=0 from rfl] at hx240_2);(try rw [show 0 * 3=0 from rfl] at hx240_2);(try rw [Addr.add_zero'] at hx240_2);replace hx240_0:=cl HB hx240_0;replace hx240_1:=cl HB hx240_1;replace hx240_2:=cl HB hx240_2;replace p240:=eq_true p240;replace q240:=eq_true q240;obtain ⟨hcz19_0,hcz19_1,hcz19_2,hfz19_0,hfz19_1,hfz19_2⟩:=ck3 BK238.out))
   refine bodyPost_ret (results_ct rfl _ _ gb238 86 #[.int .i64 ((rd_T86 l0_0 0).f0),.int .i64 ((rd_T86 l0_0 0).f1),.int .i64 ((rd_T86 l0_0 0).f2)] (0,0) _ rfl (by (with_reducible repeat (first|refine blk_drewN ?_ _|refine blk_drew ?_|refine blk_alloc ?_ _));refine blk_put (cs:=#[.int .i64 ((rd_T86 l0_0 0).f0),.int .i64 ((rd_T86 l0_0 0).f1),.int .i64 0]) ?_ 2 _ rfl;(with_reducible repeat (first|refine blk_drewN ?_ _|refine blk_drew ?_|refine blk_alloc ?_ _));refine blk_put (cs:=#[.int .i64 ((rd_T86 l0_0 0).f0),.int .i64 0,.int .i64 0]) ?_ 1 _ rfl;(with_reducible repeat (first|refine blk_drewN ?_ _|refine blk_drew ?_|refine blk_alloc ?_ _));refine blk_put (cs:=#[.int .i64 0,.int .i64 0,.int .i64 0]) ?_ 0 _ rfl;(with_reducible repeat (first|refine blk_drewN ?_ _|refine blk_drew ?_|refine blk_alloc ?_ _));exact BK238.out) Try.underlying86 rfl (by kernel_rfl)) rfl ?_
   exact ⟨er,bl⟩
 ·replace c3:=Bool.eq_false_iff.mpr c3
  subst c3
  rw [if_neg nft] at H
  simp only [Option.some.injEq,Prod.mk.injEq] at H
  obtain ⟨rfl,rfl,rfl,rfl⟩:=H
  go_enter Try.func70,Try.ntmps70
  go_wp2_with (first|((with_reducible refine gate_dst (N:=1) rfl ?_);(try (refine gate_guard (by rfl) ?_;dsimp only));refine bx 1 #[.slice A0_0 l0_0.length c0_0,.int .i64 a0_1] 44 ?_;intro gb237 hg w20 hbox hb;have BK237:=Aside0.mk (hbox);have GW237:=Aside0.mk (bz hg:w.heap.size≤gb237);have GE237:=GW237;replace HB:=Aside0.mk (below_step bl hb);clear hb hbox hg)|((with_reducible refine gate_dst (N:=2) rfl ?_);(try (refine gate_guard (by rfl) ?_;dsimp only));refine bx 2 #[.int .i64 0,.int .i64 0,.int .i64 0] 86 ?_;intro gb238 hg w21 hbox hb;have BK238:=Aside0.mk (hbox);have GW238:=Aside0.mk (bz hg:w.heap.size≤gb238);have GE238:=GW238;replace HB:=Aside0.mk (below_step bl hb);have NB237_238:=Aside0.mk (nl hg BK237:gb237≠gb238);have NB238_237:=Aside0.mk (nr hg BK237:gb238≠gb237);replace BK237:=Aside0.mk (blk_below (bk BK237) hb);clear hb hbox hg;have hnb22:=NB237_238.out;have hnc22:=NB238_237.out;obtain ⟨hcz23_0,hcz23_1,hfz23_0,hfz23_1⟩:=ck2 BK237.out)|((with_reducible refine gate_callee (f:=61) rfl ?_);refine gl (some 5) Try.func61 #[.agg #[.slice A0_0 l0_0.length c0_0,.int .i64 a0_1]] ?_;(with_reducible refine (spec_HeapOk.calls k _ _ l0_0 a0_1 false _ ?side1 ?side2 A2.out).mono ?_);(case side1=>exact kc HR0_0);(case side2=>exact HC0_0.out);rintro e w24 ⟨rfl,hb⟩;refine ⟨_,rfl,?_⟩;replace BK237:=Aside0.mk (blk_below (bk BK237) hb);replace BK238:=Aside0.mk (blk_below (bk BK238) hb);replace HB:=Aside0.mk (below_step bl hb);(try clear hb);(try clear hb2);(try clear hk);(try clear hi);obtain ⟨hcz25_0,hcz25_1,hcz25_2,hfz25_0,hfz25_1,hfz25_2⟩:=ck3 BK238.out))
  refine bodyPost_ret (results_ct rfl _ _ gb238 86 #[.int .i64 0,.int .i64 0,.int .i64 0] (0,0) _ rfl (by (with_reducible repeat (first|refine blk_drewN ?_ _|refine blk_drew ?_|refine blk_alloc ?_ _));refine blk_put (cs:=#[.int .i64 0,.int .i64 0,.int .i64 0]) ?_ 2 _ rfl;(with_reducible repeat (first|refine blk_drewN ?_ _|refine blk_drew ?_|refine blk_alloc ?_ _));refine blk_put (cs:=#[.int .i64 0,.int .i64 0,.int .i64 0]) ?_ 1 _ rfl;(with_reducible repeat (first|refine blk_drewN ?_ _|refine blk_drew ?_|refine blk_alloc ?_ _));refine blk_put (cs:=#[.int .i64 0,.int .i64 0,.int .i64 0]) ?_ 0 _ rfl;(with_reducible repeat (first|refine blk_drewN ?_ _|refine blk_drew ?_|refine blk_alloc ?_ _));exact BK238.out) Try.underlying86 rfl (by kernel_rfl)) rfl ?_
  exact ⟨er,bl⟩

/-! ### spec_NextExpiry: function 24 -/
def spec_NextExpiry.f (k:Nat) (l0_0:List (S97)) (a0_1:Int) (a0_2:Int) (a0_3:Int) (a0_4:Int) (l0_5:List (S86)) (a0_6:Int):Option (Int):=(spec_LineOk.f k l0_0 a0_1 a0_2 a0_3 a0_4 l0_5 a0_6).bind fun t242=>(if t242=true then ((spec_NextDue.f k l0_5 a0_6).bind fun bt243=>(if bt243.2.2.2=true then (some bt243.1) else (some (-1)))) else (some (-1)))
theorem spec_NextExpiry.mono:∀ a0 a1 a2 a3 a4 a5 a6 k,LeO (spec_NextExpiry.f k a0 a1 a2 a3 a4 a5 a6) (spec_NextExpiry.f (k + 1) a0 a1 a2 a3 a4 a5 a6):=by
 intro a0 a1 a2 a3 a4 a5 a6 k
 unfold spec_NextExpiry.f
 repeat' first
   | (with_reducible exact spec_LineOk.mono _ _ _ _ _ _ _ _)
   | (with_reducible exact spec_NextDue.mono _ _ _)
   | (with_reducible exact LeO.refl _)
   | (with_reducible exact LeO.none _)
   | (with_reducible refine LeO.ite ?_ ?_)
   | (with_reducible refine LeO.bind ?_ (fun _=>?_))
   | exact spec_LineOk.mono _ _ _ _ _ _ _ _
   | exact spec_NextDue.mono _ _ _
   | exact LeO.none _
   | refine LeO.ite ?_ ?_
   | refine LeO.bind ?_ (fun _=>?_)
set_option maxHeartbeats 8000000 in
set_option maxRecDepth 100000 in
theorem spec_NextExpiry.calls (k:Nat) (A0_0:Option Addr) (c0_0:Nat) (l0_0:List (S97)) (a0_1:Int) (a0_2:Int) (a0_3:Int) (a0_4:Int) (A0_5:Option Addr) (c0_5:Nat) (l0_5:List (S86)) (a0_6:Int) (r:Int) (w:World) (hr0_0:Kd.C k97 w A0_0 l0_0.length l0_0) (hc0_0:l0_0.length≤c0_0) (hr0_5:Kd.C k86 w A0_5 l0_5.length l0_5) (hc0_5:l0_5.length≤c0_5) (h:spec_NextExpiry.f k l0_0 a0_1 a0_2 a0_3 a0_4 l0_5 a0_6=some r) :
  Calls Try.prog 24 #[.agg #[.slice A0_0 l0_0.length c0_0,.int .i64 a0_1,.int .i64 a0_2,.int .i64 a0_3,.int .i64 a0_4,.slice A0_5 l0_5.length c0_5,.int .i64 a0_6]] w fun e w'=>e = .returned (.int .i64 r)∧Below w.heap.size w w':=by
 have hu46:=Try.underlying46
 have hu44:=Try.underlying44
 have hu86:=Try.underlying86
 have HR0_0:=Aside0.mk hr0_0
 have HC0_0:=Aside0.mk hc0_0
 clear hr0_0 hc0_0
 have HR0_5:=Aside0.mk hr0_5
 have HC0_5:=Aside0.mk hc0_5
 clear hr0_5 hc0_5
 have HB:=Aside0.mk (Below.refl w.heap.size w)
 have H:((spec_LineOk.f k l0_0 a0_1 a0_2 a0_3 a0_4 l0_5 a0_6).bind fun t242=>(if t242=true then ((spec_NextDue.f k l0_5 a0_6).bind fun bt243=>(if bt243.2.2.2=true then (some bt243.1) else (some (-1)))) else (some (-1))))=some r:=h
 clear h
 replace H:=Option.bind_eq_some_iff.mp H
 obtain ⟨t242,A20,H⟩:=H
 have A2:=Aside0.mk A20
 clear A20
 by_cases c3:t242=true
 ·subst c3
  rw [if_pos rfl] at H
  replace H:=Option.bind_eq_some_iff.mp H
  obtain ⟨⟨t243,t244,t245,t246⟩,A40,H⟩:=H
  replace H:(if t246=true then (some t243) else (some (-1)))=some r:=H
  have A4:=Aside0.mk A40
  clear A40
  by_cases c5:t246=true
  ·subst c5
   rw [if_pos rfl] at H
   obtain rfl:=Option.some.inj H
   go_enter Try.func24,Try.ntmps24
   go_wp2_with (first|((with_reducible refine gate_dst (N:=1) rfl ?_);refine bx 1 #[.slice A0_0 l0_0.length c0_0,.int .i64 a0_1,.int .i64 a0_2,.int .i64 a0_3,.int .i64 a0_4,.slice A0_5 l0_5.length c0_5,.int .i64 a0_6] 46 ?_;intro gb241 hg w6 hbox hb;have BK241:=Aside0.mk (hbox);have GW241:=Aside0.mk (bz hg:w.heap.size≤gb241);have GE241:=GW241;replace HB:=Aside0.mk (below_step bl hb);clear hb hbox hg;obtain ⟨hcz7_0,hcz7_1,hcz7_2,hcz7_3,hcz7_4,hcz7_5,hcz7_6,hfz7_0,hfz7_1,hfz7_2,hfz7_3,hfz7_4,hfz7_5,hfz7_6⟩:=ck7 BK241.out)|((with_reducible refine gate_callee (f:=20) rfl ?_);refine gl (some 6) Try.func20 #[.agg #[.slice A0_0 l0_0.length c0_0,.int .i64 a0_1,.int .i64 a0_2,.int .i64 a0_3,.int .i64 a0_4,.slice A0_5 l0_5.length c0_5,.int .i64 a0_6]] ?_;(with_reducible refine (spec_LineOk.calls k _ _ l0_0 a0_1 a0_2 a0_3 a0_4 _ _ l0_5 a0_6 true _ ?side1 ?side2 ?side3 ?side4 A2.out).mono ?_);(case side1=>exact kc HR0_0);(case side2=>exact HC0_0.out);(case side3=>exact kc HR0_5);(case side4=>exact HC0_5.out);rintro e w8 ⟨rfl,hb⟩;refine ⟨_,rfl,?_⟩;replace BK241:=Aside0.mk (blk_below (bk BK241) hb);replace HB:=Aside0.mk (below_step bl hb);(try clear hb);(try clear hb2);(try clear hk);(try clear hi);obtain ⟨hcz9_0,hcz9_1,hcz9_2,hcz9_3,hcz9_4,hcz9_5,hcz9_6,hfz9_0,hfz9_1,hfz9_2,hfz9_3,hfz9_4,hfz9_5,hfz9_6⟩:=ck7 BK241.out)|((with_reducible refine gate_callee (f:=70) rfl ?_);refine gl (some 11) Try.func70 #[.agg #[.slice A0_5 l0_5.length c0_5,.int .i64 a0_6]] ?_;(with_reducible refine (spec_NextDue.calls k _ _ l0_5 a0_6 t243 t244 t245 true _ ?side1 ?side2 A4.out).mono ?_);(case side1=>exact kc HR0_5);(case side2=>exact HC0_5.out);rintro e w10 ⟨rfl,hb⟩;refine ⟨_,rfl,?_⟩;replace BK241:=Aside0.mk (blk_below (bk BK241) hb);replace HB:=Aside0.mk (below_step bl hb);(try clear hb);(try clear hb2);(try clear hk);(try clear hi))|((with_reducible refine gate_dst (N:=3) rfl ?_);refine bx 3 #[.int .i64 0,.int .i64 0,.int .i64 0] 86 ?_;intro gb247 hg w11 hbox hb;have BK247:=Aside0.mk (hbox);have GW247:=Aside0.mk (bz hg:w.heap.size≤gb247);have GE247:=GW247;replace HB:=Aside0.mk (below_step bl hb);have NB241_247:=Aside0.mk (nl hg BK241:gb241≠gb247);have NB247_241:=Aside0.mk (nr hg BK241:gb247≠gb241);replace BK241:=Aside0.mk (blk_below (bk BK241) hb);clear hb hbox hg;have hnb12:=NB247_241.out;have hnc12:=NB241_247.out;obtain ⟨hcz13_0,hcz13_1,hcz13_2,hfz13_0,hfz13_1,hfz13_2⟩:=ck3 BK247.out))
   go_ret
   exact ⟨er,bl⟩
  ·replace c5:=Bool.eq_false_iff.mpr c5
   subst c5
   rw [if_neg nft] at H
   obtain rfl:=Option.some.inj H
   go_enter Try.func24,Try.ntmps24
   go_wp2_with (first|((with_reducible refine gate_dst (N:=1) rfl ?_);refine bx 1 #[.slice A0_0 l0_0.length c0_0,.int .i64 a0_1,.int .i64 a0_2,.int .i64 a0_3,.int .i64 a0_4,.slice A0_5 l0_5.length c0_5,.int .i64 a0_6] 46 ?_;intro gb241 hg w14 hbox hb;have BK241:=Aside0.mk (hbox);have GW241:=Aside0.mk (bz hg:w.heap.size≤gb241);have GE241:=GW241;replace HB:=Aside0.mk (below_step bl hb);clear hb hbox hg;obtain ⟨hcz15_0,hcz15_1,hcz15_2,hcz15_3,hcz15_4,hcz15_5,hcz15_6,hfz15_0,hfz15_1,hfz15_2,hfz15_3,hfz15_4,hfz15_5,hfz15_6⟩:=ck7 BK241.out)|((with_reducible refine gate_callee (f:=20) rfl ?_);refine gl (some 6) Try.func20 #[.agg #[.slice A0_0 l0_0.length c0_0,.int .i64 a0_1,.int .i64 a0_2,.int .i64 a0_3,.int .i64 a0_4,.slice A0_5 l0_5.length c0_5,.int .i64 a0_6]] ?_;(with_reducible refine (spec_LineOk.calls k _ _ l0_0 a0_1 a0_2 a0_3 a0_4 _ _ l0_5 a0_6 true _ ?side1 ?side2 ?side3 ?side4 A2.out).mono ?_);(case side1=>exact kc HR0_0);(case side2=>exact HC0_0.out);(case side3=>exact kc HR0_5);(case side4=>exact HC0_5.out);rintro e w16 ⟨rfl,hb⟩;refine ⟨_,rfl,?_⟩;replace BK241:=Aside0.mk (blk_below (bk BK241) hb);replace HB:=Aside0.mk (below_step bl hb);(try clear hb);(try clear hb2);(try clear hk);(try clear hi);obtain ⟨hcz17_0,hcz17_1,hcz17_2,hcz17_3,hcz17_4,hcz17_5,hcz17_6,hfz17_0,hfz17_1,hfz17_2,hfz17_3,hfz17_4,hfz17_5,hfz17_6⟩:=ck7 BK241.out)|((with_reducible refine gate_callee (f:=70) rfl ?_);refine gl (some 11) Try.func70 #[.agg #[.slice A0_5 l0_5.length c0_5,.int .i64 a0_6]] ?_;(with_reducible refine (spec_NextDue.calls k _ _ l0_5 a0_6 t243 t244 t245 false _ ?side1 ?side2 A4.out).mono ?_);(case side1=>exact kc HR0_5);(case side2=>exact HC0_5.out);rintro e w18 ⟨rfl,hb⟩;refine ⟨_,rfl,?_⟩;replace BK241:=Aside0.mk (blk_below (bk BK241) hb);replace HB:=Aside0.mk (below_step bl hb);(try clear hb);(try clear hb2);(try clear hk);(try clear hi))|((with_reducible refine gate_dst (N:=3) rfl ?_);refine bx 3 #[.int .i64 0,.int .i64 0,.int .i64 0] 86 ?_;intro gb247 hg w19 hbox hb;have BK247:=Aside0.mk (hbox);have GW247:=Aside0.mk (bz hg:w.heap.size≤gb247);have GE247:=GW247;replace HB:=Aside0.mk (below_step bl hb);have NB241_247:=Aside0.mk (nl hg BK241:gb241≠gb247);have NB247_241:=Aside0.mk (nr hg BK241:gb247≠gb241);replace BK241:=Aside0.mk (blk_below (bk BK241) hb);clear hb hbox hg;have hnb20:=NB247_241.out;have hnc20:=NB241_247.out;obtain ⟨hcz21_0,hcz21_1,hcz21_2,hfz21_0,hfz21_1,hfz21_2⟩:=ck3 BK247.out))
   go_ret
   exact ⟨er,bl⟩
 ·replace c3:=Bool.eq_false_iff.mpr c3
  subst c3
  rw [if_neg nft] at H
  obtain rfl:=Option.some.inj H
  go_enter Try.func24,Try.ntmps24
  go_wp2_with (first|((with_reducible refine gate_dst (N:=1) rfl ?_);refine bx 1 #[.slice A0_0 l0_0.length c0_0,.int .i64 a0_1,.int .i64 a0_2,.int .i64 a0_3,.int .i64 a0_4,.slice A0_5 l0_5.length c0_5,.int .i64 a0_6] 46 ?_;intro gb241 hg w22 hbox hb;have BK241:=Aside0.mk (hbox);have GW241:=Aside0.mk (bz hg:w.heap.size≤gb241);have GE241:=GW241;replace HB:=Aside0.mk (below_step bl hb);clear hb hbox hg;obtain ⟨hcz23_0,hcz23_1,hcz23_2,hcz23_3,hcz23_4,hcz23_5,hcz23_6,hfz23_0,hfz23_1,hfz23_2,hfz23_3,hfz23_4,hfz23_5,hfz23_6⟩:=ck7 BK241.out)|((with_reducible refine gate_callee (f:=20) rfl ?_);refine gl (some 6) Try.func20 #[.agg #[.slice A0_0 l0_0.length c0_0,.int .i64 a0_1,.int .i64 a0_2,.int .i64 a0_3,.int .i64 a0_4,.slice A0_5 l0_5.length c0_5,.int .i64 a0_6]] ?_;(with_reducible refine (spec_LineOk.calls k _ _ l0_0 a0_1 a0_2 a0_3 a0_4 _ _ l0_5 a0_6 false _ ?side1 ?side2 ?side3 ?side4 A2.out).mono ?_);(case side1=>exact kc HR0_0);(case side2=>exact HC0_0.out);(case side3=>exact kc HR0_5);(case side4=>exact HC0_5.out);rintro e w24 ⟨rfl,hb⟩;refine ⟨_,rfl,?_⟩;replace BK241:=Aside0.mk (blk_below (bk BK241) hb);replace HB:=Aside0.mk (below_step bl hb);(try clear hb);(try clear hb2);(try clear hk);(try clear hi)))
  go_ret
  exact ⟨er,bl⟩

/-! ### impl_in: function 88 -/
def impl_in.f (a0:Int) (a1:Int) (a2:Int):Option (Bool):=if a0 ≥ a1 then (some (decide (a0≤a2))) else (some false)
set_option maxHeartbeats 8000000 in
set_option maxRecDepth 100000 in
theorem impl_in.calls (a0:Int) (a1:Int) (a2:Int) (r:Bool) (w:World) (h:impl_in.f a0 a1 a2=some r) :
  Calls Try.prog 88 #[.int .i64 a0,.int .i64 a1,.int .i64 a2] w fun e w'=>e = .returned (.bool r)∧Drawn0 w w':=by
 have H:(if a0 ≥ a1 then (some (decide (a0≤a2))) else (some false))=some r:=h
 clear h
 by_cases c4:a0 ≥ a1
 ·rw [if_pos c4] at H
  have c4b0:decide (a1≤a0)=true:=decide_eq_true c4
  clear c4
  obtain rfl:=Option.some.inj H
  go_enter Try.func88,Try.ntmps88
  go_wp2
  go_ret
  exact ⟨by first|rfl|(simp;done)|(simp [*];done),by repeat (first|exact Drawn0.refl _|apply Drawn0.step)⟩
 ·rw [if_neg c4] at H
  have c4b0:decide (a1≤a0)=false:=decide_eq_false c4
  clear c4
  obtain rfl:=Option.some.inj H
  go_enter Try.func88,Try.ntmps88
  go_wp2
  go_ret
  exact ⟨by first|rfl|(simp;done)|(simp [*];done),by repeat (first|exact Drawn0.refl _|apply Drawn0.step)⟩

end Go.Proofs.Ytnkpjpfmjkiidaa.PFnExactNextExpiry
