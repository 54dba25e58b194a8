/- Contracts of functions of the given program: what each call answers. Written by a program of this session, out of the text of the functions. -/
import Derived.Test.YtdffkcbaijbhoaaPFnExactSchedulex0
import Derived.Test.YtdffkcbaijbhoaaPFnExactSchedulex1
import Derived.Test.YtdffkcbaijbhoaaPFnExactSchedulex2
import Derived.Test.YtdffkcbaijbhoaaPFnExactSchedulex7
import Derived.Test.YtdffkcbaijbhoaaPFnExactSchedulex13
import Derived.Test.YtdffkcbaijbhoaaPrs
namespace Go.Proofs.Ytdffkcbaijbhoaa.PFnExactSchedule
open Go.RowKit Go.Proofs.YtdffkcbaijbhoaaW.PrintWords Go.Proofs.YtdffkcbaijbhoaaW.PrintLast Go.Proofs.YtdffkcbaijbhoaaW.PrintMore Go.Proofs.Ytdffkcbaijbhoaa.Giv Go.Proofs.Ytdffkcbaijbhoaa.Prs
attribute [local go_sem] max2_int min2_int max_two min_two max_three min_three max_four min_four   -- for this text's walks alone
set_option linter.unusedVariables false
set_option linter.unusedSimpArgs false

/-! ### laws_FnExactSchedule: function 4 -/
mutual
def laws_FnExactSchedule.j0:Nat→Int→Int→Bool→Bool→Bool→List (S84)→Int→List (S56)→Int→List (S56)→Int→List (S56)→Int→Option (Bool)
 | 0,_,_,_,_,_,_,_,_,_,_,_,_,_=>none
 | k + 1,x1,x2,x9,x12,x48,x292000,x292001,x303000,x303001,x308000,x308001,x314000,x314001=>if x48=true then (none) else ((laws_toHeap.f k x292000 x292001).bind fun bt315=>((laws_eqHeap.f k x308000 x308001 bt315.1 bt315.2).bind fun t319=>(if t319=true then ((laws_markHeap.f k x308000 x308001 1).bind fun bt320=>(if bt320.1 < 0 then (laws_FnExactSchedule.j1 k x1 x2 x9 true x292000 x292001 x303000 x303001 x314000 x314001) else ((laws_eqHeap.f k x314000 x314001 x303000 x303001).bind fun t322=>(if t322=true then (laws_FnExactSchedule.j1 k x1 x2 x9 (x12 != x9) x292000 x292001 x303000 x303001 x314000 x314001) else (laws_FnExactSchedule.j1 k x1 x2 x9 true x292000 x292001 x303000 x303001 x314000 x314001))))) else (none))))
def laws_FnExactSchedule.j1:Nat→Int→Int→Bool→Bool→List (S84)→Int→List (S56)→Int→List (S56)→Int→Option (Bool)
 | 0,_,_,_,_,_,_,_,_,_,_=>none
 | k + 1,x1,x2,x9,x69,x292000,x292001,x303000,x303001,x314000,x314001=>if x69=true then (none) else ((laws_markHeap.f k x314000 x314001 1).bind fun bt323=>((laws_heldHeap.f k bt323.2 x314001 1).bind fun t325=>(if t325 < 0 then (none) else (if t325=bt323.1 then ((laws_toHeap.f k x292000 x292001).bind fun bt326=>((impl_Schedule.f k bt326.1 bt326.2 x1 x2).bind fun bt330=>((laws_eqHeap.f k bt330.1 bt330.2.1 x303000 x303001).bind fun t336=>(if t336=true then (laws_FnExactSchedule.j2 k bt323.1 (bt330.2.2 != x9) bt323.2 x314001) else (laws_FnExactSchedule.j2 k bt323.1 true bt323.2 x314001))))) else (none)))))
def laws_FnExactSchedule.j2:Nat→Int→Bool→List (S56)→Int→Option (Bool)
 | 0,_,_,_,_=>none
 | k + 1,x14,x97,x314000,x314001=>if x97=true then (none) else ((laws_heldHeap.f k x314000 x314001 1).bind fun t337=>(if t337 < 0 then (none) else (if t337=x14 then (some true) else (none))))
end
def laws_FnExactSchedule.f (k:Nat) (l0_0:List (S84)) (a0_1:Int) (a1:Int) (a2:Int):Option (Bool):=(laws_szHeap.f l0_0 a0_1 1048576).bind fun t292=>(if t292 < 0 then (some true) else ((laws_toHeap.f k l0_0 a0_1).bind fun bt293=>((spec_Schedule.f k bt293.1 bt293.2 a1 a2).bind fun bt297=>((laws_toHeap.f k l0_0 a0_1).bind fun bt303=>((impl_Schedule.f k bt303.1 bt303.2 a1 a2).bind fun bt308=>((laws_eqHeap.f k bt308.1 bt308.2.1 bt297.1 bt297.2.1).bind fun t314=>(if t314=true then (laws_FnExactSchedule.j0 k a1 a2 bt297.2.2 bt308.2.2 (bt308.2.2 != bt297.2.2) l0_0 a0_1 bt297.1 bt297.2.1 bt303.1 bt303.2 bt308.1 bt308.2.1) else (laws_FnExactSchedule.j0 k a1 a2 bt297.2.2 bt308.2.2 true l0_0 a0_1 bt297.1 bt297.2.1 bt303.1 bt303.2 bt308.1 bt308.2.1))))))))
theorem laws_FnExactSchedule.mono_l:∀ k,(∀ y0 y1 y2 y3 y4 y5 y6 y7 y8 y9 y10 y11 y12,LeO (laws_FnExactSchedule.j0 k y0 y1 y2 y3 y4 y5 y6 y7 y8 y9 y10 y11 y12) (laws_FnExactSchedule.j0 (k + 1) y0 y1 y2 y3 y4 y5 y6 y7 y8 y9 y10 y11 y12))∧(∀ y0 y1 y2 y3 y4 y5 y6 y7 y8 y9,LeO (laws_FnExactSchedule.j1 k y0 y1 y2 y3 y4 y5 y6 y7 y8 y9) (laws_FnExactSchedule.j1 (k + 1) y0 y1 y2 y3 y4 y5 y6 y7 y8 y9))∧(∀ y0 y1 y2 y3,LeO (laws_FnExactSchedule.j2 k y0 y1 y2 y3) (laws_FnExactSchedule.j2 (k + 1) y0 y1 y2 y3))
 | 0=>⟨fun _ _ _ _ _ _ _ _ _ _ _ _ _ r h=>by simp [laws_FnExactSchedule.j0] at h,fun _ _ _ _ _ _ _ _ _ _ r h=>by simp [laws_FnExactSchedule.j1] at h,fun _ _ _ _ r h=>by simp [laws_FnExactSchedule.j2] at h⟩
 | k + 1=>by
  obtain ⟨ih0,ih1,ih2⟩:=laws_FnExactSchedule.mono_l k
  refine ⟨?_,?_,?_⟩
  ·intro y0 y1 y2 y3 y4 y5 y6 y7 y8 y9 y10 y11 y12
   unfold laws_FnExactSchedule.j0
   repeat' first
   | (with_reducible exact ih0 _ _ _ _ _ _ _ _ _ _ _ _ _)
   | (with_reducible exact ih1 _ _ _ _ _ _ _ _ _ _)
   | (with_reducible exact ih2 _ _ _ _)
   | (with_reducible exact impl_Schedule.mono _ _ _ _ _)
   | (with_reducible exact laws_eqHeap.mono _ _ _ _ _)
   | (with_reducible exact laws_heldHeap.mono _ _ _ _)
   | (with_reducible exact laws_markHeap.mono _ _ _ _)
   | (with_reducible exact laws_toHeap.mono _ _ _)
   | (with_reducible exact spec_Schedule.mono _ _ _ _ _)
   | (with_reducible exact LeO.refl _)
   | (with_reducible exact LeO.none _)
   | (with_reducible refine LeO.ite ?_ ?_)
   | (with_reducible refine LeO.bind ?_ (fun _=>?_))
   | exact ih0 _ _ _ _ _ _ _ _ _ _ _ _ _
   | exact ih1 _ _ _ _ _ _ _ _ _ _
   | exact ih2 _ _ _ _
   | exact impl_Schedule.mono _ _ _ _ _
   | exact laws_eqHeap.mono _ _ _ _ _
   | exact laws_heldHeap.mono _ _ _ _
   | exact laws_markHeap.mono _ _ _ _
   | exact laws_toHeap.mono _ _ _
   | exact spec_Schedule.mono _ _ _ _ _
   | exact LeO.none _
   | refine LeO.ite ?_ ?_
   | refine LeO.bind ?_ (fun _=>?_)
  ·intro y0 y1 y2 y3 y4 y5 y6 y7 y8 y9
   unfold laws_FnExactSchedule.j1
   repeat' first
   | (with_reducible exact ih0 _ _ _ _ _ _ _ _ _ _ _ _ _)
   | (with_reducible exact ih1 _ _ _ _ _ _ _ _ _ _)
   | (with_reducible exact ih2 _ _ _ _)
   | (with_reducible exact impl_Schedule.mono _ _ _ _ _)
   | (with_reducible exact laws_eqHeap.mono _ _ _ _ _)
   | (with_reducible exact laws_heldHeap.mono _ _ _ _)
   | (with_reducible exact laws_markHeap.mono _ _ _ _)
   | (with_reducible exact laws_toHeap.mono _ _ _)
   | (with_reducible exact spec_Schedule.mono _ _ _ _ _)
   | (with_reducible exact LeO.refl _)
   | (with_reducible exact LeO.none _)
   | (with_reducible refine LeO.ite ?_ ?_)
   | (with_reducible refine LeO.bind ?_ (fun _=>?_))
   | exact ih0 _ _ _ _ _ _ _ _ _ _ _ _ _
   | exact ih1 _ _ _ _ _ _ _ _ _ _
   | exact ih2 _ _ _ _
   | exact impl_Schedule.mono _ _ _ _ _
   | exact laws_eqHeap.mono _ _ _ _ _
   | exact laws_heldHeap.mono _ _ _ _
   | exact laws_markHeap.mono _ _ _ _
   | exact laws_toHeap.mono _ _ _
   | exact spec_Schedule.mono _ _ _ _ _
   | exact LeO.none _
   | refine LeO.ite ?_ ?_
   | refine LeO.bind ?_ (fun _=>?_)
  ·intro y0 y1 y2 y3
   unfold laws_FnExactSchedule.j2
   repeat' first
   | (with_reducible exact ih0 _ _ _ _ _ _ _ _ _ _ _ _ _)
   | (with_reducible exact ih1 _ _ _ _ _ _ _ _ _ _)
   | (with_reducible exact ih2 _ _ _ _)
   | (with_reducible exact impl_Schedule.mono _ _ _ _ _)
   | (with_reducible exact laws_eqHeap.mono _ _ _ _ _)
   | (with_reducible exact laws_heldHeap.mono _ _ _ _)
   | (with_reducible exact laws_markHeap.mono _ _ _ _)
   | (with_reducible exact laws_toHeap.mono _ _ _)
   | (with_reducible exact spec_Schedule.mono _ _ _ _ _)
   | (with_reducible exact LeO.refl _)
   | (with_reducible exact LeO.none _)
   | (with_reducible refine LeO.ite ?_ ?_)
   | (with_reducible refine LeO.bind ?_ (fun _=>?_))
   | exact ih0 _ _ _ _ _ _ _ _ _ _ _ _ _
   | exact ih1 _ _ _ _ _ _ _ _ _ _
   | exact ih2 _ _ _ _
   | exact impl_Schedule.mono _ _ _ _ _
   | exact laws_eqHeap.mono _ _ _ _ _
   | exact laws_heldHeap.mono _ _ _ _
   | exact laws_markHeap.mono _ _ _ _
   | exact laws_toHeap.mono _ _ _
   | exact spec_Schedule.mono _ _ _ _ _
   | exact LeO.none _
   | refine LeO.ite ?_ ?_
   | refine LeO.bind ?_ (fun _=>?_)
theorem laws_FnExactSchedule.mono:∀ a0 a1 a2 a3 k,LeO (laws_FnExactSchedule.f k a0 a1 a2 a3) (laws_FnExactSchedule.f (k + 1) a0 a1 a2 a3):=by
 intro a0 a1 a2 a3 k
 obtain ⟨ih0,ih1,ih2⟩:=laws_FnExactSchedule.mono_l k
 unfold laws_FnExactSchedule.f
 repeat' first
   | (with_reducible exact ih0 _ _ _ _ _ _ _ _ _ _ _ _ _)
   | (with_reducible exact ih1 _ _ _ _ _ _ _ _ _ _)
   | (with_reducible exact ih2 _ _ _ _)
   | (with_reducible exact impl_Schedule.mono _ _ _ _ _)
   | (with_reducible exact laws_eqHeap.mono _ _ _ _ _)
   | (with_reducible exact laws_heldHeap.mono _ _ _ _)
   | (with_reducible exact laws_markHeap.mono _ _ _ _)
   | (with_reducible exact laws_toHeap.mono _ _ _)
   | (with_reducible exact spec_Schedule.mono _ _ _ _ _)
   | (with_reducible exact LeO.refl _)
   | (with_reducible exact LeO.none _)
   | (with_reducible refine LeO.ite ?_ ?_)
   | (with_reducible refine LeO.bind ?_ (fun _=>?_))
   | exact ih0 _ _ _ _ _ _ _ _ _ _ _ _ _
   | exact ih1 _ _ _ _ _ _ _ _ _ _
   | exact ih2 _ _ _ _
   | exact impl_Schedule.mono _ _ _ _ _
   | exact laws_eqHeap.mono _ _ _ _ _
   | exact laws_heldHeap.mono _ _ _ _
   | exact laws_markHeap.mono _ _ _ _
   | exact laws_toHeap.mono _ _ _
   | exact spec_Schedule.mono _ _ _ _ _
   | exact LeO.none _
   | refine LeO.ite ?_ ?_
   | refine LeO.bind ?_ (fun _=>?_)
set_option maxHeartbeats 8000000 in
set_option maxRecDepth 100000 in
theorem laws_FnExactSchedule.calls (k:Nat) (A0_0:Option Addr) (c0_0:Nat) (l0_0:List (S84)) (a0_1:Int) (a1:Int) (a2:Int) (r:Bool) (w:World) (hr0_0:Kd.C k84 w A0_0 l0_0.length l0_0) (hc0_0:l0_0.length≤c0_0) (h:laws_FnExactSchedule.f k l0_0 a0_1 a1 a2=some r) :
  Calls Try.prog 4 #[.agg #[.slice A0_0 l0_0.length c0_0,.int .i64 a0_1],.int .i64 a1,.int .i64 a2] w fun e w'=>e = .returned (.bool r)∧Below w.heap.size w w':=by
 have hu24:=Try.underlying24
 have hu28:=Try.underlying28
 have HR0_0:=Aside0.mk hr0_0
 have HC0_0:=Aside0.mk hc0_0
 clear hr0_0 hc0_0
 have HB:=Aside0.mk (Below.refl w.heap.size w)
 have H:((laws_szHeap.f l0_0 a0_1 1048576).bind fun t292=>(if t292 < 0 then (some true) else ((laws_toHeap.f k l0_0 a0_1).bind fun bt293=>((spec_Schedule.f k bt293.1 bt293.2 a1 a2).bind fun bt297=>((laws_toHeap.f k l0_0 a0_1).bind fun bt303=>((impl_Schedule.f k bt303.1 bt303.2 a1 a2).bind fun bt308=>((laws_eqHeap.f k bt308.1 bt308.2.1 bt297.1 bt297.2.1).bind fun t314=>(if t314=true then (laws_FnExactSchedule.j0 k a1 a2 bt297.2.2 bt308.2.2 (bt308.2.2 != bt297.2.2) l0_0 a0_1 bt297.1 bt297.2.1 bt303.1 bt303.2 bt308.1 bt308.2.1) else (laws_FnExactSchedule.j0 k a1 a2 bt297.2.2 bt308.2.2 true l0_0 a0_1 bt297.1 bt297.2.1 bt303.1 bt303.2 bt308.1 bt308.2.1)))))))))=some r:=h
 clear h
 replace H:=Option.bind_eq_some_iff.mp H
 obtain ⟨t292,A40,H⟩:=H
 have A4:=Aside0.mk A40
 clear A40
 by_cases c5:t292 < 0
 ·rw [if_pos c5] at H
  have c5b0:decide (t292 < 0)=true:=decide_eq_true c5
  clear c5
  obtain rfl:=Option.some.inj H
  go_enter Try.func4,Try.ntmps4
  go_wp2_with (first|((with_reducible refine gate_dst (N:=3) rfl ?_);refine bx 3 #[.slice A0_0 l0_0.length c0_0,.int .i64 a0_1] 24 ?_;intro gb291 hg w6 hbox hb;have BK291:=Aside0.mk (hbox);have GW291:=Aside0.mk (bz hg:w.heap.size≤gb291);have GE291:=GW291;replace HB:=Aside0.mk (below_step bl hb);clear hb hbox hg;obtain ⟨hcz7_0,hcz7_1,hfz7_0,hfz7_1⟩:=ck2 BK291.out)|((with_reducible refine gate_callee (f:=9) rfl ?_);refine gl (some 20) Try.func9 #[.agg #[.slice A0_0 l0_0.length c0_0,.int .i64 a0_1],.int .i64 1048576] ?_;(with_reducible refine (laws_szHeap.calls _ _ l0_0 a0_1 1048576 t292 _ ?side1 ?side2 A4.out).mono ?_);(case side1=>exact kc HR0_0);(case side2=>exact HC0_0.out);rintro e w8 ⟨rfl,hb⟩;refine ⟨_,rfl,?_⟩;replace BK291:=Aside0.mk (blk_below (bk BK291) hb);replace HB:=Aside0.mk (below_step bl hb);(try clear hb);(try clear hb2);(try clear hk);(try clear hi)))
  go_ret
  exact ⟨er,bl⟩
 ·rw [if_neg c5] at H
  have c5b0:decide (t292 < 0)=false:=decide_eq_false c5
  clear c5
  replace H:=Option.bind_eq_some_iff.mp H
  obtain ⟨⟨t293,t296⟩,A90,H⟩:=H
  replace H:((spec_Schedule.f k t293 t296 a1 a2).bind fun bt297=>((laws_toHeap.f k l0_0 a0_1).bind fun bt303=>((impl_Schedule.f k bt303.1 bt303.2 a1 a2).bind fun bt308=>((laws_eqHeap.f k bt308.1 bt308.2.1 bt297.1 bt297.2.1).bind fun t314=>(if t314=true then (laws_FnExactSchedule.j0 k a1 a2 bt297.2.2 bt308.2.2 (bt308.2.2 != bt297.2.2) l0_0 a0_1 bt297.1 bt297.2.1 bt303.1 bt303.2 bt308.1 bt308.2.1) else (laws_FnExactSchedule.j0 k a1 a2 bt297.2.2 bt308.2.2 true l0_0 a0_1 bt297.1 bt297.2.1 bt303.1 bt303.2 bt308.1 bt308.2.1))))))=some r:=H
  have A9:=Aside0.mk A90
  clear A90
  replace H:=Option.bind_eq_some_iff.mp H
  obtain ⟨⟨t297,t300,t301⟩,A100,H⟩:=H
  replace H:((laws_toHeap.f k l0_0 a0_1).bind fun bt303=>((impl_Schedule.f k bt303.1 bt303.2 a1 a2).bind fun bt308=>((laws_eqHeap.f k bt308.1 bt308.2.1 t297 t300).bind fun t314=>(if t314=true then (laws_FnExactSchedule.j0 k a1 a2 t301 bt308.2.2 (bt308.2.2 != t301) l0_0 a0_1 t297 t300 bt303.1 bt303.2 bt308.1 bt308.2.1) else (laws_FnExactSchedule.j0 k a1 a2 t301 bt308.2.2 true l0_0 a0_1 t297 t300 bt303.1 bt303.2 bt308.1 bt308.2.1)))))=some r:=H
  have A10:=Aside0.mk A100
  clear A100
  replace H:=Option.bind_eq_some_iff.mp H
  obtain ⟨⟨t303,t306⟩,A110,H⟩:=H
  replace H:((impl_Schedule.f k t303 t306 a1 a2).bind fun bt308=>((laws_eqHeap.f k bt308.1 bt308.2.1 t297 t300).bind fun t314=>(if t314=true then (laws_FnExactSchedule.j0 k a1 a2 t301 bt308.2.2 (bt308.2.2 != t301) l0_0 a0_1 t297 t300 t303 t306 bt308.1 bt308.2.1) else (laws_FnExactSchedule.j0 k a1 a2 t301 bt308.2.2 true l0_0 a0_1 t297 t300 t303 t306 bt308.1 bt308.2.1))))=some r:=H
  have A11:=Aside0.mk A110
  clear A110
  replace H:=Option.bind_eq_some_iff.mp H
  obtain ⟨⟨t308,t311,t312⟩,A120,H⟩:=H
  replace H:((laws_eqHeap.f k t308 t311 t297 t300).bind fun t314=>(if t314=true then (laws_FnExactSchedule.j0 k a1 a2 t301 t312 (t312 != t301) l0_0 a0_1 t297 t300 t303 t306 t308 t311) else (laws_FnExactSchedule.j0 k a1 a2 t301 t312 true l0_0 a0_1 t297 t300 t303 t306 t308 t311)))=some r:=H
  have A12:=Aside0.mk A120
  clear A120
  have HC13:=Aside0.mk H
  clear H
  go_enter Try.func4,Try.ntmps4
  go_upto_region 8 with (first|((with_reducible refine gate_dst (N:=3) rfl ?_);refine bx 3 #[.slice A0_0 l0_0.length c0_0,.int .i64 a0_1] 24 ?_;intro gb291 hg w14 hbox hb;have BK291:=Aside0.mk (hbox);have GW291:=Aside0.mk (bz hg:w.heap.size≤gb291);have GE291:=GW291;replace HB:=Aside0.mk (below_step bl hb);clear hb hbox hg;obtain ⟨hcz15_0,hcz15_1,hfz15_0,hfz15_1⟩:=ck2 BK291.out)|((with_reducible refine gate_callee (f:=9) rfl ?_);refine gl (some 20) Try.func9 #[.agg #[.slice A0_0 l0_0.length c0_0,.int .i64 a0_1],.int .i64 1048576] ?_;(with_reducible refine (laws_szHeap.calls _ _ l0_0 a0_1 1048576 t292 _ ?side1 ?side2 A4.out).mono ?_);(case side1=>exact kc HR0_0);(case side2=>exact HC0_0.out);rintro e w16 ⟨rfl,hb⟩;refine ⟨_,rfl,?_⟩;replace BK291:=Aside0.mk (blk_below (bk BK291) hb);replace HB:=Aside0.mk (below_step bl hb);(try clear hb);(try clear hb2);(try clear hk);(try clear hi);obtain ⟨hcz17_0,hcz17_1,hfz17_0,hfz17_1⟩:=ck2 BK291.out)|((with_reducible refine gate_callee (f:=11) rfl ?_);refine gl (some 25) Try.func11 #[.agg #[.slice A0_0 l0_0.length c0_0,.int .i64 a0_1]] ?_;(with_reducible refine (laws_toHeap.calls k _ _ l0_0 a0_1 t293 t296 _ ?side1 ?side2 A9.out).mono ?_);(case side1=>exact kc HR0_0);(case side2=>exact HC0_0.out);rintro e w18 ⟨v294,rfl,ho0,hb⟩;refine ⟨_,rfl,?_⟩;have HO295:=Aside0.mk (Kd.R_lower ho0 (below_size bl));replace BK291:=Aside0.mk (blk_below (bk BK291) hb);replace HB:=Aside0.mk (below_step bl hb);(try clear hb);(try clear hb2);(try clear hk);(try clear hi);(try clear ho0);obtain ⟨Ao19,co19,eo19⟩:=Kd.R_slice HO295.out;subst eo19)|((with_reducible refine gate_callee (f:=16) rfl ?_);refine gl (some 28) Try.func16 #[.agg #[.slice Ao19 t293.length co19,.int .i64 t296],.int .i64 a1,.int .i64 a2] ?_;(with_reducible refine (spec_Schedule.calls k _ _ t293 t296 a1 a2 t297 t300 t301 _ ?side1 ?side2 A10.out).mono ?_);(case side1=>repeat (first|exact (Kd.R_reads' HO295.out).2.2|(with_reducible refine Kd.C_alloc ?_ _)|(with_reducible refine Kd.C_drewN ?_ _)|(with_reducible refine Kd.C_drew ?_)));(case side2=>exact (Kd.R_reads' HO295.out).2.1);rintro e w20 ⟨v298,rfl,ho0,hb⟩;refine ⟨_,rfl,?_⟩;have HO299:=Aside0.mk (Kd.R_lower (Kd.R_new' ho0 (Kd.R_lt (kr HO295))) (below_size bl));replace HO295:=Aside0.mk (Kd.R_elder' (kr HO295) (Kd.R_base ho0) hb);replace BK291:=Aside0.mk (blk_below (bk BK291) hb);replace HB:=Aside0.mk (below_step bl hb);(try clear hb);(try clear hb2);(try clear hk);(try clear hi);(try clear ho0))|((with_reducible refine gate_dst (N:=8) rfl ?_);refine bx 8 #[.slice none 0 0,.int .i64 0] 28 ?_;intro gb302 hg w21 hbox hb;replace HO295:=Aside0.mk (Kd.R_below (kr HO295) hb);replace HO299:=Aside0.mk (Kd.R_below (kr HO299) hb);have BK302:=Aside0.mk (hbox);have GW302:=Aside0.mk (bz hg:w.heap.size≤gb302);have GE302:=GW302;replace HB:=Aside0.mk (below_step bl hb);have NB291_302:=Aside0.mk (nl hg BK291:gb291≠gb302);have NB302_291:=Aside0.mk (nr hg BK291:gb302≠gb291);replace BK291:=Aside0.mk (blk_below (bk BK291) hb);clear hb hbox hg;obtain ⟨Ao22,co22,eo22⟩:=Kd.R_slice HO299.out;subst eo22;have hnb23:=NB302_291.out;have hnc23:=NB291_302.out;obtain ⟨hcz24_0,hcz24_1,hfz24_0,hfz24_1⟩:=ck2 BK302.out;obtain ⟨hcz25_0,hcz25_1,hfz25_0,hfz25_1⟩:=ck2 BK291.out)|((with_reducible refine gate_callee (f:=11) rfl ?_);refine gl (some 32) Try.func11 #[.agg #[.slice A0_0 l0_0.length c0_0,.int .i64 a0_1]] ?_;(with_reducible refine (laws_toHeap.calls k _ _ l0_0 a0_1 t303 t306 _ ?side1 ?side2 A11.out).mono ?_);(case side1=>exact Kd.C_below HR0_0.out bl);(case side2=>exact HC0_0.out);rintro e w26 ⟨v304,rfl,ho0,hb⟩;refine ⟨_,rfl,?_⟩;have HO305:=Aside0.mk (Kd.R_lower (Kd.R_new' (Kd.R_new' ho0 (Kd.R_lt (by (with_reducible repeat (first|apply Kd.R_alloc|apply Kd.R_drewN|apply Kd.R_drew));exact (Kd.R_mono (Kd.R_far (p:=⟨gb302,1,none⟩) (Kd.R_far (p:=⟨gb302,0,none⟩) (Kd.R_types HO295.out BK302.out (by decide)) (fun _ hk=>hk.2) (.slice Ao22 t297.length co22)) (fun _ hk=>hk.2) (.int .i64 t300)) (fun _ h_=>h_.1))))) (Kd.R_lt (by (with_reducible repeat (first|apply Kd.R_alloc|apply Kd.R_drewN|apply Kd.R_drew));exact (Kd.R_mono (Kd.R_far (p:=⟨gb302,1,none⟩) (Kd.R_far (p:=⟨gb302,0,none⟩) (Kd.R_types HO299.out BK302.out (by decide)) (fun _ hk=>hk.2) (.slice Ao22 t297.length co22)) (fun _ hk=>hk.2) (.int .i64 t300)) (fun _ h_=>h_.1))))) (below_size bl));replace HO295:=Aside0.mk (Kd.R_elder' (by (with_reducible repeat (first|apply Kd.R_alloc|apply Kd.R_drewN|apply Kd.R_drew));exact (Kd.R_mono (Kd.R_far (p:=⟨gb302,1,none⟩) (Kd.R_far (p:=⟨gb302,0,none⟩) (Kd.R_types HO295.out BK302.out (by decide)) (fun _ hk=>hk.2) (.slice Ao22 t297.length co22)) (fun _ hk=>hk.2) (.int .i64 t300)) (fun _ h_=>h_.1))) (Kd.R_base ho0) hb);replace HO299:=Aside0.mk (Kd.R_elder' (by (with_reducible repeat (first|apply Kd.R_alloc|apply Kd.R_drewN|apply Kd.R_drew));exact (Kd.R_mono (Kd.R_far (p:=⟨gb302,1,none⟩) (Kd.R_far (p:=⟨gb302,0,none⟩) (Kd.R_types HO299.out BK302.out (by decide)) (fun _ hk=>hk.2) (.slice Ao22 t297.length co22)) (fun _ hk=>hk.2) (.int .i64 t300)) (fun _ h_=>h_.1))) (Kd.R_base ho0) hb);replace BK291:=Aside0.mk (blk_below (g:=gb291) (o:=.cells #[.slice A0_0 l0_0.length c0_0,.int .i64 a0_1] 24 (0,0)) (bf BK291) hb);replace BK302:=Aside0.mk (blk_below (g:=gb302) (o:=.cells #[.slice Ao22 t297.length co22,.int .i64 t300] 28 (0,0)) (by (with_reducible repeat (first|refine blk_drewN ?_ _|refine blk_drew ?_|refine blk_alloc ?_ _));refine blk_put (cs:=#[.slice Ao22 t297.length co22,.int .i64 0]) ?_ 1 _ rfl;(with_reducible repeat (first|refine blk_drewN ?_ _|refine blk_drew ?_|refine blk_alloc ?_ _));refine blk_put (cs:=#[.slice none 0 0,.int .i64 0]) ?_ 0 _ rfl;(with_reducible repeat (first|refine blk_drewN ?_ _|refine blk_drew ?_|refine blk_alloc ?_ _));exact BK302.out) hb);replace HB:=Aside0.mk (below_step bl hb);(try clear hb);(try clear hb2);(try clear hk);(try clear hi);(try clear ho0))|((with_reducible refine gate_dst (N:=10) rfl ?_);refine bx 10 #[.slice none 0 0,.int .i64 0] 28 ?_;intro gb307 hg w27 hbox hb;replace HO295:=Aside0.mk (Kd.R_below (kr HO295) hb);replace HO299:=Aside0.mk (Kd.R_below (kr HO299) hb);replace HO305:=Aside0.mk (Kd.R_below (kr HO305) hb);have BK307:=Aside0.mk (hbox);have GW307:=Aside0.mk (bz hg:w.heap.size≤gb307);have GE307:=GW307;replace HB:=Aside0.mk (below_step bl hb);have NB291_307:=Aside0.mk (nl hg BK291:gb291≠gb307);have NB307_291:=Aside0.mk (nr hg BK291:gb307≠gb291);replace BK291:=Aside0.mk (blk_below (bk BK291) hb);have NB302_307:=Aside0.mk (nl hg BK302:gb302≠gb307);have NB307_302:=Aside0.mk (nr hg BK302:gb307≠gb302);replace BK302:=Aside0.mk (blk_below (bk BK302) hb);clear hb hbox hg;obtain ⟨Ao28,co28,eo28⟩:=Kd.R_slice HO305.out;subst eo28;have hnb29:=NB307_291.out;have hnc29:=NB291_307.out;have hnb30:=NB307_302.out;have hnc30:=NB302_307.out;obtain ⟨hcz31_0,hcz31_1,hfz31_0,hfz31_1⟩:=ck2 BK307.out)|((with_reducible refine gate_callee (f:=17) rfl ?_);refine gl (some 37) Try.func17 #[.agg #[.slice Ao28 t303.length co28,.int .i64 t306],.int .i64 a1,.int .i64 a2] ?_;(with_reducible refine (impl_Schedule.calls k _ _ t303 t306 a1 a2 t308 t311 t312 _ ?side1 ?side2 A12.out).mono ?_);(case side1=>refine (Kd.R_reads' (e:=56) (base:=w.heap.size) (ok:=fun k_=>((True∧some k_≠(.slice Ao19 t293.length co19:Value).ownBlock)∧some k_≠(.slice Ao22 t297.length co22:Value).ownBlock)) (n:=t303.length) (c:=co28) ?_).2.2;exact (by (with_reducible repeat (first|apply Kd.R_alloc|apply Kd.R_drewN|apply Kd.R_drew));exact (Kd.R_mono (Kd.R_far (p:=⟨gb307,1,none⟩) (Kd.R_far (p:=⟨gb307,0,none⟩) (Kd.R_types HO305.out BK307.out (by decide)) (fun _ hk=>hk.2) (.slice Ao28 t303.length co28)) (fun _ hk=>hk.2) (.int .i64 t306)) (fun _ h_=>h_.1))));(case side2=>exact (Kd.R_reads' HO305.out).2.1);rintro e w32 ⟨v309,rfl,ho0,hb⟩;refine ⟨_,rfl,?_⟩;have HO310:=Aside0.mk (Kd.R_lower (Kd.R_new' (Kd.R_new' (Kd.R_new' ho0 (Kd.R_lt (by (with_reducible repeat (first|apply Kd.R_alloc|apply Kd.R_drewN|apply Kd.R_drew));exact (Kd.R_mono (Kd.R_far (p:=⟨gb307,1,none⟩) (Kd.R_far (p:=⟨gb307,0,none⟩) (Kd.R_types HO295.out BK307.out (by decide)) (fun _ hk=>hk.2) (.slice Ao28 t303.length co28)) (fun _ hk=>hk.2) (.int .i64 t306)) (fun _ h_=>h_.1))))) (Kd.R_lt (by (with_reducible repeat (first|apply Kd.R_alloc|apply Kd.R_drewN|apply Kd.R_drew));exact (Kd.R_mono (Kd.R_far (p:=⟨gb307,1,none⟩) (Kd.R_far (p:=⟨gb307,0,none⟩) (Kd.R_types HO299.out BK307.out (by decide)) (fun _ hk=>hk.2) (.slice Ao28 t303.length co28)) (fun _ hk=>hk.2) (.int .i64 t306)) (fun _ h_=>h_.1))))) (Kd.R_lt (by (with_reducible repeat (first|apply Kd.R_alloc|apply Kd.R_drewN|apply Kd.R_drew));exact (Kd.R_mono (Kd.R_far (p:=⟨gb307,1,none⟩) (Kd.R_far (p:=⟨gb307,0,none⟩) (Kd.R_types HO305.out BK307.out (by decide)) (fun _ hk=>hk.2) (.slice Ao28 t303.length co28)) (fun _ hk=>hk.2) (.int .i64 t306)) (fun _ h_=>h_.1))))) (below_size bl));replace HO295:=Aside0.mk (Kd.R_elder' (by (with_reducible repeat (first|apply Kd.R_alloc|apply Kd.R_drewN|apply Kd.R_drew));exact (Kd.R_mono (Kd.R_far (p:=⟨gb307,1,none⟩) (Kd.R_far (p:=⟨gb307,0,none⟩) (Kd.R_types HO295.out BK307.out (by decide)) (fun _ hk=>hk.2) (.slice Ao28 t303.length co28)) (fun _ hk=>hk.2) (.int .i64 t306)) (fun _ h_=>h_.1))) (Kd.R_base ho0) hb);replace HO299:=Aside0.mk (Kd.R_elder' (by (with_reducible repeat (first|apply Kd.R_alloc|apply Kd.R_drewN|apply Kd.R_drew));exact (Kd.R_mono (Kd.R_far (p:=⟨gb307,1,none⟩) (Kd.R_far (p:=⟨gb307,0,none⟩) (Kd.R_types HO299.out BK307.out (by decide)) (fun _ hk=>hk.2) (.slice Ao28 t303.length co28)) (fun _ hk=>hk.2) (.int .i64 t306)) (fun _ h_=>h_.1))) (Kd.R_base ho0) hb);replace HO305:=Aside0.mk (Kd.R_elder' (by (with_reducible repeat (first|apply Kd.R_alloc|apply Kd.R_drewN|apply Kd.R_drew));exact (Kd.R_mono (Kd.R_far (p:=⟨gb307,1,none⟩) (Kd.R_far (p:=⟨gb307,0,none⟩) (Kd.R_types HO305.out BK307.out (by decide)) (fun _ hk=>hk.2) (.slice Ao28 t303.length co28)) (fun _ hk=>hk.2) (.int .i64 t306)) (fun _ h_=>h_.1))) (Kd.R_base ho0) hb);replace BK291:=Aside0.mk (blk_below (g:=gb291) (o:=.cells #[.slice A0_0 l0_0.length c0_0,.int .i64 a0_1] 24 (0,0)) (bf BK291) hb);replace BK302:=Aside0.mk (blk_below (g:=gb302) (o:=.cells #[.slice Ao22 t297.length co22,.int .i64 t300] 28 (0,0)) (bf BK302) hb);replace BK307:=Aside0.mk (blk_below (g:=gb307) (o:=.cells #[.slice Ao28 t303.length co28,.int .i64 t306] 28 (0,0)) (by (with_reducible repeat (first|refine blk_drewN ?_ _|refine blk_drew ?_|refine blk_alloc ?_ _));refine blk_put (cs:=#[.slice Ao28 t303.length co28,.int .i64 0]) ?_ 1 _ rfl;(with_reducible repeat (first|refine blk_drewN ?_ _|refine blk_drew ?_|refine blk_alloc ?_ _));refine blk_put (cs:=#[.slice none 0 0,.int .i64 0]) ?_ 0 _ rfl;(with_reducible repeat (first|refine blk_drewN ?_ _|refine blk_drew ?_|refine blk_alloc ?_ _));exact BK307.out) hb);replace HB:=Aside0.mk (below_step bl hb);(try clear hb);(try clear hb2);(try clear hk);(try clear hi);(try clear ho0))|((with_reducible refine gate_dst (N:=11) rfl ?_);refine bx 11 #[.slice none 0 0,.int .i64 0] 28 ?_;intro gb313 hg w33 hbox hb;replace HO295:=Aside0.mk (Kd.R_below (kr HO295) hb);replace HO299:=Aside0.mk (Kd.R_below (kr HO299) hb);replace HO305:=Aside0.mk (Kd.R_below (kr HO305) hb);replace HO310:=Aside0.mk (Kd.R_below (kr HO310) hb);have BK313:=Aside0.mk (hbox);have GW313:=Aside0.mk (bz hg:w.heap.size≤gb313);have GE313:=GW313;replace HB:=Aside0.mk (below_step bl hb);have NB291_313:=Aside0.mk (nl hg BK291:gb291≠gb313);have NB313_291:=Aside0.mk (nr hg BK291:gb313≠gb291);replace BK291:=Aside0.mk (blk_below (bk BK291) hb);have NB302_313:=Aside0.mk (nl hg BK302:gb302≠gb313);have NB313_302:=Aside0.mk (nr hg BK302:gb313≠gb302);replace BK302:=Aside0.mk (blk_below (bk BK302) hb);have NB307_313:=Aside0.mk (nl hg BK307:gb307≠gb313);have NB313_307:=Aside0.mk (nr hg BK307:gb313≠gb307);replace BK307:=Aside0.mk (blk_below (bk BK307) hb);clear hb hbox hg;obtain ⟨Ao34,co34,eo34⟩:=Kd.R_slice HO310.out;subst eo34;have hnb35:=NB313_291.out;have hnc35:=NB291_313.out;have hnb36:=NB313_302.out;have hnc36:=NB302_313.out;have hnb37:=NB313_307.out;have hnc37:=NB307_313.out;obtain ⟨hcz38_0,hcz38_1,hfz38_0,hfz38_1⟩:=ck2 BK313.out))
  (try simp only [Act.put,List.setIfInBounds_toArray,List.set_cons_zero,List.set_cons_succ])
  go_cut [48] (fun v48 wc=>∃ (kq:Nat) (x48_12:Bool),v48 = .bool x48_12∧Aside0 (laws_FnExactSchedule.j0 kq a1 a2 t301 t312 x48_12 l0_0 a0_1 t297 t300 t303 t306 t308 t311=some r)∧Aside0 (kq≤k)∧Aside0 (Kd.R k56 56 wc w.heap.size (fun k_=>some k_≠((.slice Ao28 t303.length co28):Value).ownBlock∧some k_≠((.slice Ao34 t308.length co34):Value).ownBlock) (.slice Ao22 t297.length co22) t297)∧Aside0 (Kd.R k56 56 wc w.heap.size (fun k_=>some k_≠((.slice Ao22 t297.length co22):Value).ownBlock∧some k_≠((.slice Ao34 t308.length co34):Value).ownBlock) (.slice Ao28 t303.length co28) t303)∧Aside0 (Kd.R k56 56 wc w.heap.size (fun k_=>some k_≠((.slice Ao22 t297.length co22):Value).ownBlock∧some k_≠((.slice Ao28 t303.length co28):Value).ownBlock) (.slice Ao34 t308.length co34) t308)∧Aside0 (wc.heap[gb291]? = some (.cells #[(.slice A0_0 l0_0.length c0_0),.int .i64 a0_1] 24 (0,0)))∧Aside0 (wc.heap[gb302]? = some (.cells #[(.slice Ao22 t297.length co22),.int .i64 t300] 28 (0,0)))∧Aside0 (wc.heap[gb307]? = some (.cells #[(.slice Ao28 t303.length co28),.int .i64 t306] 28 (0,0)))∧Aside0 (wc.heap[gb313]? = some (.cells #[(.slice Ao34 t308.length co34),.int .i64 t311] 28 (0,0)))∧Aside0 (Below w.heap.size w wc))
  case first =>
   have H:=HC13.out
   clear HC13
   replace H:=Option.bind_eq_some_iff.mp H
   obtain ⟨t314,A390,H⟩:=H
   have A39:=Aside0.mk A390
   clear A390
   by_cases c40:t314=true
   ·subst c40
    rw [if_pos rfl] at H
    have H':=Aside0.mk H
    clear H
    have hnb41:=NB313_291.out
    have hnc41:=NB291_313.out
    have hnb42:=NB313_302.out
    have hnc42:=NB302_313.out
    have hnb43:=NB313_307.out
    have hnc43:=NB307_313.out
    obtain ⟨hcz44_0,hcz44_1,hfz44_0,hfz44_1⟩:=ck2 BK313.out
    have hnb45:=NB302_291.out
    have hnc45:=NB291_302.out
    have hnb46:=NB302_307.out
    have hnc46:=NB307_302.out
    obtain ⟨hcz47_0,hcz47_1,hfz47_0,hfz47_1⟩:=ck2 BK302.out
    go_wp2_with (first|((with_reducible refine gate_callee (f:=13) rfl ?_);refine gl (some 42) Try.func13 #[.agg #[.slice Ao34 t308.length co34,.int .i64 t311],.agg #[.slice Ao22 t297.length co22,.int .i64 t300]] ?_;(with_reducible refine (laws_eqHeap.calls k _ _ t308 t311 _ _ t297 t300 true _ ?side1 ?side2 ?side3 ?side4 A39.out).mono ?_);(case side1=>refine (Kd.R_reads' (e:=56) (base:=w.heap.size) (ok:=fun k_=>(((True∧some k_≠(.slice Ao19 t293.length co19:Value).ownBlock)∧some k_≠(.slice Ao22 t297.length co22:Value).ownBlock)∧some k_≠(.slice Ao28 t303.length co28:Value).ownBlock)) (n:=t308.length) (c:=co34) ?_).2.2;exact (by (with_reducible repeat (first|apply Kd.R_alloc|apply Kd.R_drewN|apply Kd.R_drew));exact (Kd.R_mono (Kd.R_far (p:=⟨gb313,1,none⟩) (Kd.R_far (p:=⟨gb313,0,none⟩) (Kd.R_types HO310.out BK313.out (by decide)) (fun _ hk=>hk.2) (.slice Ao34 t308.length co34)) (fun _ hk=>hk.2) (.int .i64 t311)) (fun _ h_=>h_.1))));(case side2=>exact (Kd.R_reads' HO310.out).2.1);(case side3=>refine (Kd.R_reads' (e:=56) (base:=w.heap.size) (ok:=fun k_=>(((True∧some k_≠(.slice Ao19 t293.length co19:Value).ownBlock)∧some k_≠(.slice Ao28 t303.length co28:Value).ownBlock)∧some k_≠(.slice Ao34 t308.length co34:Value).ownBlock)) (n:=t297.length) (c:=co22) ?_).2.2;exact (by (with_reducible repeat (first|apply Kd.R_alloc|apply Kd.R_drewN|apply Kd.R_drew));exact (Kd.R_mono (Kd.R_far (p:=⟨gb313,1,none⟩) (Kd.R_far (p:=⟨gb313,0,none⟩) (Kd.R_types HO299.out BK313.out (by decide)) (fun _ hk=>hk.2) (.slice Ao34 t308.length co34)) (fun _ hk=>hk.2) (.int .i64 t311)) (fun _ h_=>h_.1))));(case side4=>exact (Kd.R_reads' HO299.out).2.1);rintro e w48 ⟨rfl,hb⟩;refine ⟨_,rfl,?_⟩;replace HO295:=Aside0.mk (Kd.R_below (by (with_reducible repeat (first|apply Kd.R_alloc|apply Kd.R_drewN|apply Kd.R_drew));exact (Kd.R_mono (Kd.R_far (p:=⟨gb313,1,none⟩) (Kd.R_far (p:=⟨gb313,0,none⟩) (Kd.R_types HO295.out BK313.out (by decide)) (fun _ hk=>hk.2) (.slice Ao34 t308.length co34)) (fun _ hk=>hk.2) (.int .i64 t311)) (fun _ h_=>h_.1))) hb);replace HO299:=Aside0.mk (Kd.R_below (by (with_reducible repeat (first|apply Kd.R_alloc|apply Kd.R_drewN|apply Kd.R_drew));exact (Kd.R_mono (Kd.R_far (p:=⟨gb313,1,none⟩) (Kd.R_far (p:=⟨gb313,0,none⟩) (Kd.R_types HO299.out BK313.out (by decide)) (fun _ hk=>hk.2) (.slice Ao34 t308.length co34)) (fun _ hk=>hk.2) (.int .i64 t311)) (fun _ h_=>h_.1))) hb);replace HO305:=Aside0.mk (Kd.R_below (by (with_reducible repeat (first|apply Kd.R_alloc|apply Kd.R_drewN|apply Kd.R_drew));exact (Kd.R_mono (Kd.R_far (p:=⟨gb313,1,none⟩) (Kd.R_far (p:=⟨gb313,0,none⟩) (Kd.R_types HO305.out BK313.out (by decide)) (fun _ hk=>hk.2) (.slice Ao34 t308.length co34)) (fun _ hk=>hk.2) (.int .i64 t311)) (fun _ h_=>h_.1))) hb);replace HO310:=Aside0.mk (Kd.R_below (by (with_reducible repeat (first|apply Kd.R_alloc|apply Kd.R_drewN|apply Kd.R_drew));exact (Kd.R_mono (Kd.R_far (p:=⟨gb313,1,none⟩) (Kd.R_far (p:=⟨gb313,0,none⟩) (Kd.R_types HO310.out BK313.out (by decide)) (fun _ hk=>hk.2) (.slice Ao34 t308.length co34)) (fun _ hk=>hk.2) (.int .i64 t311)) (fun _ h_=>h_.1))) hb);replace BK291:=Aside0.mk (blk_below (g:=gb291) (o:=.cells #[.slice A0_0 l0_0.length c0_0,.int .i64 a0_1] 24 (0,0)) (bf BK291) hb);replace BK302:=Aside0.mk (blk_below (g:=gb302) (o:=.cells #[.slice Ao22 t297.length co22,.int .i64 t300] 28 (0,0)) (bf BK302) hb);replace BK307:=Aside0.mk (blk_below (g:=gb307) (o:=.cells #[.slice Ao28 t303.length co28,.int .i64 t306] 28 (0,0)) (bf BK307) hb);replace BK313:=Aside0.mk (blk_below (g:=gb313) (o:=.cells #[.slice Ao34 t308.length co34,.int .i64 t311] 28 (0,0)) (by (with_reducible repeat (first|refine blk_drewN ?_ _|refine blk_drew ?_|refine blk_alloc ?_ _));refine blk_put (cs:=#[.slice Ao34 t308.length co34,.int .i64 0]) ?_ 1 _ rfl;(with_reducible repeat (first|refine blk_drewN ?_ _|refine blk_drew ?_|refine blk_alloc ?_ _));refine blk_put (cs:=#[.slice none 0 0,.int .i64 0]) ?_ 0 _ rfl;(with_reducible repeat (first|refine blk_drewN ?_ _|refine blk_drew ?_|refine blk_alloc ?_ _));exact BK313.out) hb);replace HB:=Aside0.mk (below_step bl hb);(try clear hb);(try clear hb2);(try clear hk);(try clear hi)))
    go_meet
    case rel=>exact ⟨_,((t312 != t301)),(by first|rfl|(simp;done)|(simp [*];done)),H',⟨by first|omega|exact Nat.le_refl _⟩,⟨by (with_reducible repeat (first|apply Kd.R_alloc|apply Kd.R_drewN|apply Kd.R_drew));exact Kd.R_mono HO299.out (fun _ hk=>⟨hk.1.2,hk.2⟩)⟩,⟨by (with_reducible repeat (first|apply Kd.R_alloc|apply Kd.R_drewN|apply Kd.R_drew));exact Kd.R_mono HO305.out (fun _ hk=>⟨hk.1.2,hk.2⟩)⟩,⟨by (with_reducible repeat (first|apply Kd.R_alloc|apply Kd.R_drewN|apply Kd.R_drew));exact Kd.R_mono HO310.out (fun _ hk=>⟨hk.1.2,hk.2⟩)⟩,⟨bk BK291⟩,⟨bk BK302⟩,⟨bk BK307⟩,⟨bk BK313⟩,⟨bl⟩⟩
   ·replace c40:=Bool.eq_false_iff.mpr c40
    subst c40
    rw [if_neg nft] at H
    have H':=Aside0.mk H
    clear H
    have hnb49:=NB313_291.out
    have hnc49:=NB291_313.out
    have hnb50:=NB313_302.out
    have hnc50:=NB302_313.out
    have hnb51:=NB313_307.out
    have hnc51:=NB307_313.out
    obtain ⟨hcz52_0,hcz52_1,hfz52_0,hfz52_1⟩:=ck2 BK313.out
    have hnb53:=NB302_291.out
    have hnc53:=NB291_302.out
    have hnb54:=NB302_307.out
    have hnc54:=NB307_302.out
    obtain ⟨hcz55_0,hcz55_1,hfz55_0,hfz55_1⟩:=ck2 BK302.out
    go_wp2_with (first|((with_reducible refine gate_callee (f:=13) rfl ?_);refine gl (some 42) Try.func13 #[.agg #[.slice Ao34 t308.length co34,.int .i64 t311],.agg #[.slice Ao22 t297.length co22,.int .i64 t300]] ?_;(with_reducible refine (laws_eqHeap.calls k _ _ t308 t311 _ _ t297 t300 false _ ?side1 ?side2 ?side3 ?side4 A39.out).mono ?_);(case side1=>refine (Kd.R_reads' (e:=56) (base:=w.heap.size) (ok:=fun k_=>(((True∧some k_≠(.slice Ao19 t293.length co19:Value).ownBlock)∧some k_≠(.slice Ao22 t297.length co22:Value).ownBlock)∧some k_≠(.slice Ao28 t303.length co28:Value).ownBlock)) (n:=t308.length) (c:=co34) ?_).2.2;exact (by (with_reducible repeat (first|apply Kd.R_alloc|apply Kd.R_drewN|apply Kd.R_drew));exact (Kd.R_mono (Kd.R_far (p:=⟨gb313,1,none⟩) (Kd.R_far (p:=⟨gb313,0,none⟩) (Kd.R_types HO310.out BK313.out (by decide)) (fun _ hk=>hk.2) (.slice Ao34 t308.length co34)) (fun _ hk=>hk.2) (.int .i64 t311)) (fun _ h_=>h_.1))));(case side2=>exact (Kd.R_reads' HO310.out).2.1);(case side3=>refine (Kd.R_reads' (e:=56) (base:=w.heap.size) (ok:=fun k_=>(((True∧some k_≠(.slice Ao19 t293.length co19:Value).ownBlock)∧some k_≠(.slice Ao28 t303.length co28:Value).ownBlock)∧some k_≠(.slice Ao34 t308.length co34:Value).ownBlock)) (n:=t297.length) (c:=co22) ?_).2.2;exact (by (with_reducible repeat (first|apply Kd.R_alloc|apply Kd.R_drewN|apply Kd.R_drew));exact (Kd.R_mono (Kd.R_far (p:=⟨gb313,1,none⟩) (Kd.R_far (p:=⟨gb313,0,none⟩) (Kd.R_types HO299.out BK313.out (by decide)) (fun _ hk=>hk.2) (.slice Ao34 t308.length co34)) (fun _ hk=>hk.2) (.int .i64 t311)) (fun _ h_=>h_.1))));(case side4=>exact (Kd.R_reads' HO299.out).2.1);rintro e w56 ⟨rfl,hb⟩;refine ⟨_,rfl,?_⟩;replace HO295:=Aside0.mk (Kd.R_below (by (with_reducible repeat (first|apply Kd.R_alloc|apply Kd.R_drewN|apply Kd.R_drew));exact (Kd.R_mono (Kd.R_far (p:=⟨gb313,1,none⟩) (Kd.R_far (p:=⟨gb313,0,none⟩) (Kd.R_types HO295.out BK313.out (by decide)) (fun _ hk=>hk.2) (.slice Ao34 t308.length co34)) (fun _ hk=>hk.2) (.int .i64 t311)) (fun _ h_=>h_.1))) hb);replace HO299:=Aside0.mk (Kd.R_below (by (with_reducible repeat (first|apply Kd.R_alloc|apply Kd.R_drewN|apply Kd.R_drew));exact (Kd.R_mono (Kd.R_far (p:=⟨gb313,1,none⟩) (Kd.R_far (p:=⟨gb313,0,none⟩) (Kd.R_types HO299.out BK313.out (by decide)) (fun _ hk=>hk.2) (.slice Ao34 t308.length co34)) (fun _ hk=>hk.2) (.int .i64 t311)) (fun _ h_=>h_.1))) hb);replace HO305:=Aside0.mk (Kd.R_below (by (with_reducible repeat (first|apply Kd.R_alloc|apply Kd.R_drewN|apply Kd.R_drew));exact (Kd.R_mono (Kd.R_far (p:=⟨gb313,1,none⟩) (Kd.R_far (p:=⟨gb313,0,none⟩) (Kd.R_types HO305.out BK313.out (by decide)) (fun _ hk=>hk.2) (.slice Ao34 t308.length co34)) (fun _ hk=>hk.2) (.int .i64 t311)) (fun _ h_=>h_.1))) hb);replace HO310:=Aside0.mk (Kd.R_below (by (with_reducible repeat (first|apply Kd.R_alloc|apply Kd.R_drewN|apply Kd.R_drew));exact (Kd.R_mono (Kd.R_far (p:=⟨gb313,1,none⟩) (Kd.R_far (p:=⟨gb313,0,none⟩) (Kd.R_types HO310.out BK313.out (by decide)) (fun _ hk=>hk.2) (.slice Ao34 t308.length co34)) (fun _ hk=>hk.2) (.int .i64 t311)) (fun _ h_=>h_.1))) hb);replace BK291:=Aside0.mk (blk_below (g:=gb291) (o:=.cells #[.slice A0_0 l0_0.length c0_0,.int .i64 a0_1] 24 (0,0)) (bf BK291) hb);replace BK302:=Aside0.mk (blk_below (g:=gb302) (o:=.cells #[.slice Ao22 t297.length co22,.int .i64 t300] 28 (0,0)) (bf BK302) hb);replace BK307:=Aside0.mk (blk_below (g:=gb307) (o:=.cells #[.slice Ao28 t303.length co28,.int .i64 t306] 28 (0,0)) (bf BK307) hb);replace BK313:=Aside0.mk (blk_below (g:=gb313) (o:=.cells #[.slice Ao34 t308.length co34,.int .i64 t311] 28 (0,0)) (by (with_reducible repeat (first|refine blk_drewN ?_ _|refine blk_drew ?_|refine blk_alloc ?_ _));refine blk_put (cs:=#[.slice Ao34 t308.length co34,.int .i64 0]) ?_ 1 _ rfl;(with_reducible repeat (first|refine blk_drewN ?_ _|refine blk_drew ?_|refine blk_alloc ?_ _));refine blk_put (cs:=#[.slice none 0 0,.int .i64 0]) ?_ 0 _ rfl;(with_reducible repeat (first|refine blk_drewN ?_ _|refine blk_drew ?_|refine blk_alloc ?_ _));exact BK313.out) hb);replace HB:=Aside0.mk (below_step bl hb);(try clear hb);(try clear hb2);(try clear hk);(try clear hi)))
    go_meet
    case rel=>exact ⟨_,(true),(by first|rfl|(simp;done)|(simp [*];done)),H',⟨by first|omega|exact Nat.le_refl _⟩,⟨by (with_reducible repeat (first|apply Kd.R_alloc|apply Kd.R_drewN|apply Kd.R_drew));exact Kd.R_mono HO299.out (fun _ hk=>⟨hk.1.2,hk.2⟩)⟩,⟨by (with_reducible repeat (first|apply Kd.R_alloc|apply Kd.R_drewN|apply Kd.R_drew));exact Kd.R_mono HO305.out (fun _ hk=>⟨hk.1.2,hk.2⟩)⟩,⟨by (with_reducible repeat (first|apply Kd.R_alloc|apply Kd.R_drewN|apply Kd.R_drew));exact Kd.R_mono HO310.out (fun _ hk=>⟨hk.1.2,hk.2⟩)⟩,⟨bk BK291⟩,⟨bk BK302⟩,⟨bk BK307⟩,⟨bk BK313⟩,⟨bl⟩⟩
  case rest =>
   clear HC13
   try clear c1
   try clear c2
   try clear p2
   try clear c3
   try clear c4
   try clear c5
   try clear c5b0
   try clear c9
   try clear c11
   try clear c13
   try clear c16
   try clear c17
   try clear c23
   try clear c29
   try clear c30
   try clear c35
   try clear c36
   try clear c37
   try clear c40
   try clear c41
   try clear c42
   try clear c43
   try clear c45
   try clear c46
   try clear c49
   try clear c50
   try clear c51
   try clear c53
   try clear c54
   try clear hcz15_0
   try clear hcz15_1
   try clear hcz17_0
   try clear hcz17_1
   try clear hcz24_0
   try clear hcz24_1
   try clear hcz25_0
   try clear hcz25_1
   try clear hcz31_0
   try clear hcz31_1
   try clear hcz38_0
   try clear hcz38_1
   try clear hcz44_0
   try clear hcz44_1
   try clear hcz47_0
   try clear hcz47_1
   try clear hcz52_0
   try clear hcz52_1
   try clear hcz55_0
   try clear hcz55_1
   try clear hcz7_0
   try clear hcz7_1
   try clear hfz15_0
   try clear hfz15_1
   try clear hfz17_0
   try clear hfz17_1
   try clear hfz24_0
   try clear hfz24_1
   try clear hfz25_0
   try clear hfz25_1
   try clear hfz31_0
   try clear hfz31_1
   try clear hfz38_0
   try clear hfz38_1
   try clear hfz44_0
   try clear hfz44_1
   try clear hfz47_0
   try clear hfz47_1
   try clear hfz52_0
   try clear hfz52_1
   try clear hfz55_0
   try clear hfz55_1
   try clear hfz7_0
   try clear hfz7_1
   obtain ⟨kq,x48_12,rfl,HA,HJ12,HO_303000,HO_308000,HO_314000,BK291,BK302,BK307,BK313,HB⟩:=hcut
   cases kq with
   | zero=>exact absurd HA.out (by simp [laws_FnExactSchedule.j0])
   | succ kj12 =>
    have H:=HA.out
    clear HA
    simp only [laws_FnExactSchedule.j0] at H
    by_cases c57:x48_12=true
    ·subst c57
     rw [if_pos rfl] at H
     exact absurd H (by simp)
    ·replace c57:=Bool.eq_false_iff.mpr c57
     subst c57
     rw [if_neg nft] at H
     replace H:=Option.bind_eq_some_iff.mp H
     obtain ⟨⟨t315,t318⟩,A580,H⟩:=H
     replace H:((laws_eqHeap.f kj12 t303 t306 t315 t318).bind fun t319=>(if t319=true then ((laws_markHeap.f kj12 t303 t306 1).bind fun bt320=>(if bt320.1 < 0 then (laws_FnExactSchedule.j1 kj12 a1 a2 t301 true l0_0 a0_1 t297 t300 t308 t311) else ((laws_eqHeap.f kj12 t308 t311 t297 t300).bind fun t322=>(if t322=true then (laws_FnExactSchedule.j1 kj12 a1 a2 t301 (t312 != t301) l0_0 a0_1 t297 t300 t308 t311) else (laws_FnExactSchedule.j1 kj12 a1 a2 t301 true l0_0 a0_1 t297 t300 t308 t311))))) else (none)))=some r:=H
     have A58:=Aside0.mk A580
     clear A580
     replace H:=Option.bind_eq_some_iff.mp H
     obtain ⟨t319,A590,H⟩:=H
     have A59:=Aside0.mk A590
     clear A590
     by_cases c60:t319=true
     ·subst c60
      rw [if_pos rfl] at H
      replace H:=Option.bind_eq_some_iff.mp H
      obtain ⟨⟨t320,t321⟩,A610,H⟩:=H
      replace H:(if t320 < 0 then (laws_FnExactSchedule.j1 kj12 a1 a2 t301 true l0_0 a0_1 t297 t300 t308 t311) else ((laws_eqHeap.f kj12 t308 t311 t297 t300).bind fun t322=>(if t322=true then (laws_FnExactSchedule.j1 kj12 a1 a2 t301 (t312 != t301) l0_0 a0_1 t297 t300 t308 t311) else (laws_FnExactSchedule.j1 kj12 a1 a2 t301 true l0_0 a0_1 t297 t300 t308 t311))))=some r:=H
      have A61:=Aside0.mk A610
      clear A610
      have HC62:=Aside0.mk H
      clear H
      try go_wp2
      replace HO_303000:=Aside0.mk (Kd.R_drew HO_303000.out)
      replace HO_308000:=Aside0.mk (Kd.R_drew HO_308000.out)
      replace HO_314000:=Aside0.mk (Kd.R_drew HO_314000.out)
      replace BK291:=Aside0.mk (blk_drew BK291.out)
      replace BK302:=Aside0.mk (blk_drew BK302.out)
      replace BK307:=Aside0.mk (blk_drew BK307.out)
      replace BK313:=Aside0.mk (blk_drew BK313.out)
      replace HB:=Aside0.mk (below_drew1 HB.out)
      refine start_ (n:=5) (S:=fun w'=>w'.cell? ⟨gb307,0,none⟩=some (.slice Ao28 t303.length co28)∧w'.cell? ⟨gb307,1,none⟩=some (.int .i64 t306)∧w'.cell? ⟨gb291,0,none⟩=some (.slice A0_0 l0_0.length c0_0)∧w'.cell? ⟨gb291,1,none⟩=some (.int .i64 a0_1)) (ds:=[]) (bs 5 0) (by kernel_rfl) rfl rfl ⟨bc BK307 0,bc BK307 1,bc BK291 0,bc BK291 1⟩ (fun hHeld=>?_)
      generalize wc.drew=w63 at HO_303000 HO_308000 HO_314000 BK291 BK302 BK307 BK313 HB hHeld ⊢
      refine tk 0 49 (bs 5 1) hHeld ?_
      refine tk 1 50 (bs 5 3) hHeld ?_
      refine one_ (i:=2) (N:=some 51) (bs 5 7) rfl rfl (by kernel_rfl) (by decide) (fun K hK=>?_)
      refine goes_ Try.func11 (by kernel_rfl) rfl #[.agg #[.slice A0_0 l0_0.length c0_0,.int .i64 a0_1]] (by rfl) rfl rfl (by (try simp only [List.map_toArray,List.map_cons,List.map_nil]);first|done|rfl|(simp only [List.length_drop,List.length_take];rfl)) ?_
      with_reducible refine (laws_toHeap.calls kj12 _ _ l0_0 a0_1 t315 t318 _ ?side1 ?side2 A58.out).mono ?_
      (case side1=>exact kc HR0_0)
      (case side2=>exact HC0_0.out)
      rintro e w64 ⟨v316,rfl,ho0,hb⟩
      refine ⟨_,rfl,?_⟩
      have HO317:=Aside0.mk (Kd.R_lower (Kd.R_new' (Kd.R_new' (Kd.R_new' ho0 (Kd.R_lt (kr HO_303000))) (Kd.R_lt (kr HO_308000))) (Kd.R_lt (kr HO_314000))) (below_size bl))
      replace HO_303000:=Aside0.mk (Kd.R_elder' (kr HO_303000) (Kd.R_base ho0) hb)
      replace HO_308000:=Aside0.mk (Kd.R_elder' (kr HO_308000) (Kd.R_base ho0) hb)
      replace HO_314000:=Aside0.mk (Kd.R_elder' (kr HO_314000) (Kd.R_base ho0) hb)
      replace BK291:=Aside0.mk (blk_below (bk BK291) hb)
      replace BK302:=Aside0.mk (blk_below (bk BK302) hb)
      replace BK307:=Aside0.mk (blk_below (bk BK307) hb)
      replace BK313:=Aside0.mk (blk_below (bk BK313) hb)
      replace HB:=Aside0.mk (below_step bl hb)
      (try clear hb)
      (try clear hb2)
      (try clear hk)
      (try clear hi)
      (try clear ho0)
      obtain ⟨Ao65,co65,eo65⟩:=Kd.R_slice HO317.out
      (first|subst eo65|(injection eo65 with f1_ f2_ f3_;have f4_:=f1_.symm;have f5_:=f3_.symm;clear f1_ f2_ f3_;subst f4_;subst f5_))
      refine hK.out _ _ ⟨bc BK307 0,bc BK307 1,bc BK291 0,bc BK291 1⟩ (fun hHeld=>?_)
      clear hK K
      refine nrm ?_
      refine one_ (i:=3) (N:=some 52) (bs 5 15) rfl rfl (by kernel_rfl) (by decide) (fun K hK=>?_)
      refine goes_ Try.func13 (by kernel_rfl) rfl #[.agg #[.slice Ao28 t303.length co28,.int .i64 t306],.agg #[.slice Ao65 t315.length co65,.int .i64 t318]] (by rfl) rfl rfl (by (try simp only [List.map_toArray,List.map_cons,List.map_nil]);first|done|rfl|(simp only [List.length_drop,List.length_take];rfl)) ?_
      with_reducible refine (laws_eqHeap.calls kj12 _ _ t303 t306 _ _ t315 t318 true _ ?side1 ?side2 ?side3 ?side4 A59.out).mono ?_
      (case side1=>repeat (first|exact (Kd.R_reads' HO_308000.out).2.2|(with_reducible refine Kd.C_alloc ?_ _)|(with_reducible refine Kd.C_drewN ?_ _)|(with_reducible refine Kd.C_drew ?_)))
      (case side2=>exact (Kd.R_reads' HO_308000.out).2.1)
      (case side3=>repeat (first|exact (Kd.R_reads' HO317.out).2.2|(with_reducible refine Kd.C_alloc ?_ _)|(with_reducible refine Kd.C_drewN ?_ _)|(with_reducible refine Kd.C_drew ?_)))
      (case side4=>exact (Kd.R_reads' HO317.out).2.1)
      rintro e w66 ⟨rfl,hb⟩
      refine ⟨_,rfl,?_⟩
      replace HO_303000:=Aside0.mk (Kd.R_below (kr HO_303000) hb)
      replace HO_308000:=Aside0.mk (Kd.R_below (kr HO_308000) hb)
      replace HO_314000:=Aside0.mk (Kd.R_below (kr HO_314000) hb)
      replace HO317:=Aside0.mk (Kd.R_below (kr HO317) hb)
      replace BK291:=Aside0.mk (blk_below (bk BK291) hb)
      replace BK302:=Aside0.mk (blk_below (bk BK302) hb)
      replace BK307:=Aside0.mk (blk_below (bk BK307) hb)
      replace BK313:=Aside0.mk (blk_below (bk BK313) hb)
      replace HB:=Aside0.mk (below_step bl hb)
      (try clear hb)
      (try clear hb2)
      (try clear hk)
      (try clear hi)
      refine hK.out _ _ ⟨bc BK307 0,bc BK307 1,bc BK291 0,bc BK291 1⟩ (fun hHeld=>?_)
      clear hK K
      refine nrm ?_
      refine pk 4 53 (bs 5 31) ?_
      refine done_ (by kernel_rfl) ?_
      have hnb67:=NB307_291.out
      have hnc67:=NB291_307.out
      have hnb68:=NB307_302.out
      have hnc68:=NB302_307.out
      have hnb69:=NB307_313.out
      have hnc69:=NB313_307.out
      obtain ⟨hcz70_0,hcz70_1,hfz70_0,hfz70_1⟩:=ck2 BK307.out
      go_upto_region 14 with (first|((with_reducible refine gate_callee (f:=14) rfl ?_);refine gl (some 56) Try.func14 #[.agg #[.slice Ao28 t303.length co28,.int .i64 t306],.int .i64 1] ?_;(with_reducible refine (laws_markHeap.calls kj12 (fun k_=>some k_=(.slice Ao28 t303.length co28:Value).ownBlock) (.slice Ao28 t303.length co28) t303 t306 1 t320 t321 w _ ?side1 ?side2 A61.out).mono ?_);(case side1=>repeat (first|(with_reducible first|exact HB.out|apply below_alloc|apply pw_below_drewN|apply below_drew1|refine below_set ?_ GE291.out|refine below_set ?_ GE302.out|refine below_set ?_ GE307.out|refine below_set ?_ GE313.out)|exact HB.out));(case side2=>exact Kd.R_tight rfl HO_308000.out);rintro e w71 ⟨rfl,hy0,hb,hkp⟩;refine ⟨_,rfl,?_⟩;replace HO_303000:=Aside0.mk (Kd.R_mono (ok':=fun k_=>some k_≠(.slice Ao28 t303.length co28:Value).ownBlock∧some k_≠(.slice Ao34 t308.length co34:Value).ownBlock∧some k_≠(.slice Ao65 t315.length co65:Value).ownBlock) (Kd.R_keptB (HO_303000.out) hkp (fun k_ hk_ hs_=>by first|exact ((hk_.1.1) hs_)|(rcases hs_ with e_|e_ <;> simp_all)|simp_all)) (fun k_ hk_=>by first|exact (⟨hk_.1.1.1,hk_.1.1.2,hk_.1.2⟩)|simp_all));replace HO_314000:=Aside0.mk (Kd.R_mono (ok':=fun k_=>some k_≠(.slice Ao22 t297.length co22:Value).ownBlock∧some k_≠(.slice Ao28 t303.length co28:Value).ownBlock∧some k_≠(.slice Ao65 t315.length co65:Value).ownBlock) (Kd.R_keptB (HO_314000.out) hkp (fun k_ hk_ hs_=>by first|exact ((hk_.1.2) hs_)|(rcases hs_ with e_|e_ <;> simp_all)|simp_all)) (fun k_ hk_=>by first|exact (⟨hk_.1.1.1,hk_.1.1.2,hk_.1.2⟩)|simp_all));replace BK291:=Aside0.mk (blk_kept (bk BK291) hkp (fun hs_=>(fun e_=>(Kd.R_ne HO_308000.out BK291.out (by decide)) e_) hs_));replace BK302:=Aside0.mk (blk_kept (bk BK302) hkp (fun hs_=>(fun e_=>(Kd.R_ne HO_308000.out BK302.out (by decide)) e_) hs_));replace BK307:=Aside0.mk (blk_kept (bk BK307) hkp (fun hs_=>(fun e_=>(Kd.R_ne HO_308000.out BK307.out (by decide)) e_) hs_));replace BK313:=Aside0.mk (blk_kept (bk BK313) hkp (fun hs_=>(fun e_=>(Kd.R_ne HO_308000.out BK313.out (by decide)) e_) hs_));replace HO_308000:=Aside0.mk (Kd.R_reok rfl hy0 (fun k_ e_=>HO_308000.out.1 k_ e_));replace HO317:=Aside0.mk (Kd.R_mono (ok':=fun k_=>some k_≠(.slice Ao22 t297.length co22:Value).ownBlock∧some k_≠(.slice Ao28 t303.length co28:Value).ownBlock∧some k_≠(.slice Ao34 t308.length co34:Value).ownBlock) (Kd.R_keptB (HO317.out) hkp (fun k_ hk_ hs_=>by first|exact ((hk_.1.2) hs_)|(rcases hs_ with e_|e_ <;> simp_all)|simp_all)) (fun k_ hk_=>by first|exact (⟨hk_.1.1.1.2,hk_.1.1.2,hk_.1.2⟩)|simp_all));replace HB:=Aside0.mk (hb);(try clear hb);(try clear hkp);(try clear hy0)))
      (try simp only [Act.put,List.setIfInBounds_toArray,List.set_cons_zero,List.set_cons_succ])
      go_cut [69] (fun v69 wc=>∃ (kq:Nat) (x69_61:Bool),v69 = .bool x69_61∧Aside0 (laws_FnExactSchedule.j1 kq a1 a2 t301 x69_61 l0_0 a0_1 t297 t300 t308 t311=some r)∧Aside0 (kq≤kj12)∧Aside0 (Kd.R k56 56 wc w.heap.size (fun k_=>some k_≠((.slice Ao28 t303.length co28):Value).ownBlock∧some k_≠((.slice Ao34 t308.length co34):Value).ownBlock) (.slice Ao22 t297.length co22) t297)∧Aside0 (Kd.R k56 56 wc w.heap.size (fun k_=>some k_≠((.slice Ao22 t297.length co22):Value).ownBlock∧some k_≠((.slice Ao34 t308.length co34):Value).ownBlock) (.slice Ao28 t303.length co28) t321)∧Aside0 (Kd.R k56 56 wc w.heap.size (fun k_=>some k_≠((.slice Ao22 t297.length co22):Value).ownBlock∧some k_≠((.slice Ao28 t303.length co28):Value).ownBlock) (.slice Ao34 t308.length co34) t308)∧Aside0 (wc.heap[gb291]? = some (.cells #[(.slice A0_0 l0_0.length c0_0),.int .i64 a0_1] 24 (0,0)))∧Aside0 (wc.heap[gb302]? = some (.cells #[(.slice Ao22 t297.length co22),.int .i64 t300] 28 (0,0)))∧Aside0 (wc.heap[gb307]? = some (.cells #[(.slice Ao28 t303.length co28),.int .i64 t306] 28 (0,0)))∧Aside0 (wc.heap[gb313]? = some (.cells #[(.slice Ao34 t308.length co34),.int .i64 t311] 28 (0,0)))∧Aside0 (Below w.heap.size w wc))
      case first =>
       have H:=HC62.out
       clear HC62
       by_cases c72:t320 < 0
       ·rw [if_pos c72] at H
        have c72b0:decide (t320 < 0)=true:=decide_eq_true c72
        clear c72
        (first|rw [c72b0]|(simp only [i64_w,i32_w];rw [c72b0])|skip)
        have H':=Aside0.mk H
        clear H
        go_wp2
        go_meet
        case rel=>exact ⟨_,(true),(by first|rfl|(simp;done)|(simp [*];done)),H',⟨by have:=HJ12.out;first|omega|exact Nat.le_refl _⟩,⟨by (with_reducible repeat (first|apply Kd.R_alloc|apply Kd.R_drewN|apply Kd.R_drew));exact Kd.R_mono HO_303000.out (fun _ hk=>⟨hk.1,hk.2.1⟩)⟩,⟨by (with_reducible repeat (first|apply Kd.R_alloc|apply Kd.R_drewN|apply Kd.R_drew));exact Kd.R_mono HO_308000.out (fun _ hk=>⟨hk.1.1,hk.1.2⟩)⟩,⟨by (with_reducible repeat (first|apply Kd.R_alloc|apply Kd.R_drewN|apply Kd.R_drew));exact Kd.R_mono HO_314000.out (fun _ hk=>⟨hk.1,hk.2.1⟩)⟩,⟨bk BK291⟩,⟨bk BK302⟩,⟨bk BK307⟩,⟨bk BK313⟩,⟨bl⟩⟩
       ·rw [if_neg c72] at H
        have c72b0:decide (t320 < 0)=false:=decide_eq_false c72
        clear c72
        (first|rw [c72b0]|(simp only [i64_w,i32_w];rw [c72b0])|skip)
        replace H:=Option.bind_eq_some_iff.mp H
        obtain ⟨t322,A730,H⟩:=H
        have A73:=Aside0.mk A730
        clear A730
        by_cases c74:t322=true
        ·subst c74
         rw [if_pos rfl] at H
         have H':=Aside0.mk H
         clear H
         have hnb75:=NB313_291.out
         have hnc75:=NB291_313.out
         have hnb76:=NB313_302.out
         have hnc76:=NB302_313.out
         have hnb77:=NB313_307.out
         have hnc77:=NB307_313.out
         obtain ⟨hcz78_0,hcz78_1,hfz78_0,hfz78_1⟩:=ck2 BK313.out
         have hnb79:=NB302_291.out
         have hnc79:=NB291_302.out
         have hnb80:=NB302_307.out
         have hnc80:=NB307_302.out
         obtain ⟨hcz81_0,hcz81_1,hfz81_0,hfz81_1⟩:=ck2 BK302.out
         go_wp2_with (first|(go_at_call 13;(with_reducible refine (laws_eqHeap.calls kj12 _ _ t308 t311 _ _ t297 t300 true _ ?side1 ?side2 ?side3 ?side4 A73.out).mono ?_);(case side1=>repeat (first|exact (Kd.R_reads' HO_314000.out).2.2|(with_reducible refine Kd.C_alloc ?_ _)|(with_reducible refine Kd.C_drewN ?_ _)|(with_reducible refine Kd.C_drew ?_)));(case side2=>exact (Kd.R_reads' HO_314000.out).2.1);(case side3=>repeat (first|exact (Kd.R_reads' HO_303000.out).2.2|(with_reducible refine Kd.C_alloc ?_ _)|(with_reducible refine Kd.C_drewN ?_ _)|(with_reducible refine Kd.C_drew ?_)));(case side4=>exact (Kd.R_reads' HO_303000.out).2.1);rintro e w82 ⟨rfl,hb⟩;replace HO_303000:=Aside0.mk (Kd.R_below (kr HO_303000) hb);replace HO_308000:=Aside0.mk (Kd.R_below (kr HO_308000) hb);replace HO_314000:=Aside0.mk (Kd.R_below (kr HO_314000) hb);replace HO317:=Aside0.mk (Kd.R_below (kr HO317) hb);replace BK291:=Aside0.mk (blk_below (bk BK291) hb);replace BK302:=Aside0.mk (blk_below (bk BK302) hb);replace BK307:=Aside0.mk (blk_below (bk BK307) hb);replace BK313:=Aside0.mk (blk_below (bk BK313) hb);replace HB:=Aside0.mk (below_step bl hb);(try clear hb);(try clear hb2);(try clear hk);(try clear hi)))
         go_meet
         case rel=>exact ⟨_,((t312 != t301)),(by first|rfl|(simp;done)|(simp [*];done)),H',⟨by have:=HJ12.out;first|omega|exact Nat.le_refl _⟩,⟨by (with_reducible repeat (first|apply Kd.R_alloc|apply Kd.R_drewN|apply Kd.R_drew));exact Kd.R_mono HO_303000.out (fun _ hk=>⟨hk.1,hk.2.1⟩)⟩,⟨by (with_reducible repeat (first|apply Kd.R_alloc|apply Kd.R_drewN|apply Kd.R_drew));exact Kd.R_mono HO_308000.out (fun _ hk=>⟨hk.1.1,hk.1.2⟩)⟩,⟨by (with_reducible repeat (first|apply Kd.R_alloc|apply Kd.R_drewN|apply Kd.R_drew));exact Kd.R_mono HO_314000.out (fun _ hk=>⟨hk.1,hk.2.1⟩)⟩,⟨bk BK291⟩,⟨bk BK302⟩,⟨bk BK307⟩,⟨bk BK313⟩,⟨bl⟩⟩
        ·replace c74:=Bool.eq_false_iff.mpr c74
         subst c74
         rw [if_neg nft] at H
         have H':=Aside0.mk H
         clear H
         have hnb83:=NB313_291.out
         have hnc83:=NB291_313.out
         have hnb84:=NB313_302.out
         have hnc84:=NB302_313.out
         have hnb85:=NB313_307.out
         have hnc85:=NB307_313.out
         obtain ⟨hcz86_0,hcz86_1,hfz86_0,hfz86_1⟩:=ck2 BK313.out
         have hnb87:=NB302_291.out
         have hnc87:=NB291_302.out
         have hnb88:=NB302_307.out
         have hnc88:=NB307_302.out
         obtain ⟨hcz89_0,hcz89_1,hfz89_0,hfz89_1⟩:=ck2 BK302.out
         go_wp2_with (first|(go_at_call 13;(with_reducible refine (laws_eqHeap.calls kj12 _ _ t308 t311 _ _ t297 t300 false _ ?side1 ?side2 ?side3 ?side4 A73.out).mono ?_);(case side1=>repeat (first|exact (Kd.R_reads' HO_314000.out).2.2|(with_reducible refine Kd.C_alloc ?_ _)|(with_reducible refine Kd.C_drewN ?_ _)|(with_reducible refine Kd.C_drew ?_)));(case side2=>exact (Kd.R_reads' HO_314000.out).2.1);(case side3=>repeat (first|exact (Kd.R_reads' HO_303000.out).2.2|(with_reducible refine Kd.C_alloc ?_ _)|(with_reducible refine Kd.C_drewN ?_ _)|(with_reducible refine Kd.C_drew ?_)));(case side4=>exact (Kd.R_reads' HO_303000.out).2.1);rintro e w90 ⟨rfl,hb⟩;replace HO_303000:=Aside0.mk (Kd.R_below (kr HO_303000) hb);replace HO_308000:=Aside0.mk (Kd.R_below (kr HO_308000) hb);replace HO_314000:=Aside0.mk (Kd.R_below (kr HO_314000) hb);replace HO317:=Aside0.mk (Kd.R_below (kr HO317) hb);replace BK291:=Aside0.mk (blk_below (bk BK291) hb);replace BK302:=Aside0.mk (blk_below (bk BK302) hb);replace BK307:=Aside0.mk (blk_below (bk BK307) hb);replace BK313:=Aside0.mk (blk_below (bk BK313) hb);replace HB:=Aside0.mk (below_step bl hb);(try clear hb);(try clear hb2);(try clear hk);(try clear hi)))
         go_meet
         case rel=>exact ⟨_,(true),(by first|rfl|(simp;done)|(simp [*];done)),H',⟨by have:=HJ12.out;first|omega|exact Nat.le_refl _⟩,⟨by (with_reducible repeat (first|apply Kd.R_alloc|apply Kd.R_drewN|apply Kd.R_drew));exact Kd.R_mono HO_303000.out (fun _ hk=>⟨hk.1,hk.2.1⟩)⟩,⟨by (with_reducible repeat (first|apply Kd.R_alloc|apply Kd.R_drewN|apply Kd.R_drew));exact Kd.R_mono HO_308000.out (fun _ hk=>⟨hk.1.1,hk.1.2⟩)⟩,⟨by (with_reducible repeat (first|apply Kd.R_alloc|apply Kd.R_drewN|apply Kd.R_drew));exact Kd.R_mono HO_314000.out (fun _ hk=>⟨hk.1,hk.2.1⟩)⟩,⟨bk BK291⟩,⟨bk BK302⟩,⟨bk BK307⟩,⟨bk BK313⟩,⟨bl⟩⟩
      case rest =>
       clear HC62
       try clear c1
       try clear c2
       try clear p2
       try clear c3
       try clear c4
       try clear c5
       try clear c5b0
       try clear c6
       try clear c7
       try clear c8
       try clear c9
       try clear c11
       try clear c13
       try clear c14
       try clear c16
       try clear c17
       try clear c23
       try clear c29
       try clear c30
       try clear c35
       try clear c36
       try clear c37
       try clear c40
       try clear c41
       try clear c42
       try clear c43
       try clear c45
       try clear c46
       try clear c49
       try clear c50
       try clear c51
       try clear c53
       try clear c54
       try clear c57
       try clear c60
       try clear c67
       try clear c68
       try clear c69
       try clear c72
       try clear c72b0
       try clear c74
       try clear c75
       try clear c76
       try clear c77
       try clear c79
       try clear c80
       try clear c83
       try clear c84
       try clear c85
       try clear c87
       try clear c88
       try clear hcz15_0
       try clear hcz15_1
       try clear hcz17_0
       try clear hcz17_1
       try clear hcz24_0
       try clear hcz24_1
       try clear hcz25_0
       try clear hcz25_1
       try clear hcz31_0
       try clear hcz31_1
       try clear hcz38_0
       try clear hcz38_1
       try clear hcz44_0
       try clear hcz44_1
       try clear hcz47_0
       try clear hcz47_1
       try clear hcz52_0
       try clear hcz52_1
       try clear hcz55_0
       try clear hcz55_1
       try clear hcz70_0
       try clear hcz70_1
       try clear hcz78_0
       try clear hcz78_1
       try clear hcz7_0
       try clear hcz7_1
       try clear hcz81_0
       try clear hcz81_1
       try clear hcz86_0
       try clear hcz86_1
       try clear hcz89_0
       try clear hcz89_1
       try clear hfz15_0
       try clear hfz15_1
       try clear hfz17_0
       try clear hfz17_1
       try clear hfz24_0
       try clear hfz24_1
       try clear hfz25_0
       try clear hfz25_1
       try clear hfz31_0
       try clear hfz31_1
       try clear hfz38_0
       try clear hfz38_1
       try clear hfz44_0
       try clear hfz44_1
       try clear hfz47_0
       try clear hfz47_1
       try clear hfz52_0
       try clear hfz52_1
       try clear hfz55_0
       try clear hfz55_1
       try clear hfz70_0
       try clear hfz70_1
       try clear hfz78_0
       try clear hfz78_1
       try clear hfz7_0
       try clear hfz7_1
       try clear hfz81_0
       try clear hfz81_1
       try clear hfz86_0
       try clear hfz86_1
       try clear hfz89_0
       try clear hfz89_1
       try clear p2
       obtain ⟨kq,x69_61,rfl,HA,HJ61,HO_303000,HO_308000,HO_314000,BK291,BK302,BK307,BK313,HB⟩:=hcut
       have hl308000_61:=(Kd.R_reads' HO_308000.out).1
       rw [hl308000_61] at HO_308000
       (try simp only [hl308000_61])
       (try simp only [hl308000_61] at BK291)
       (try simp only [hl308000_61] at BK302)
       (try simp only [hl308000_61] at BK307)
       (try simp only [hl308000_61] at BK313)
       (try simp only [hl308000_61] at HO_303000)
       (try simp only [hl308000_61] at HO_314000)
       cases kq with
       | zero=>exact absurd HA.out (by simp [laws_FnExactSchedule.j1])
       | succ kj61 =>
        have H:=HA.out
        clear HA
        simp only [laws_FnExactSchedule.j1] at H
        by_cases c91:x69_61=true
        ·subst c91
         rw [if_pos rfl] at H
         exact absurd H (by simp)
        ·replace c91:=Bool.eq_false_iff.mpr c91
         subst c91
         rw [if_neg nft] at H
         replace H:=Option.bind_eq_some_iff.mp H
         obtain ⟨⟨t323,t324⟩,A920,H⟩:=H
         replace H:((laws_heldHeap.f kj61 t324 t311 1).bind fun t325=>(if t325 < 0 then (none) else (if t325=t323 then ((laws_toHeap.f kj61 l0_0 a0_1).bind fun bt326=>((impl_Schedule.f kj61 bt326.1 bt326.2 a1 a2).bind fun bt330=>((laws_eqHeap.f kj61 bt330.1 bt330.2.1 t297 t300).bind fun t336=>(if t336=true then (laws_FnExactSchedule.j2 kj61 t323 (bt330.2.2 != t301) t324 t311) else (laws_FnExactSchedule.j2 kj61 t323 true t324 t311))))) else (none))))=some r:=H
         have A92:=Aside0.mk A920
         clear A920
         replace H:=Option.bind_eq_some_iff.mp H
         obtain ⟨t325,A930,H⟩:=H
         have A93:=Aside0.mk A930
         clear A930
         by_cases c94:t325 < 0
         ·rw [if_pos c94] at H
          exact absurd H (by simp)
         ·rw [if_neg c94] at H
          have c94b0:decide (t325 < 0)=false:=decide_eq_false c94
          clear c94
          by_cases c95:t325=t323
          case neg =>
           rw [if_neg c95] at H
           exact absurd H (by simp)
          rw [if_pos c95] at H
          have c95b0:(t325 == t323)=true:=beq_iff_eq.mpr c95
          have c95b1:(t325 != t323)=false:=bne_eq_false_iff_eq.mpr c95
          clear c95
          replace H:=Option.bind_eq_some_iff.mp H
          obtain ⟨⟨t326,t329⟩,A960,H⟩:=H
          replace H:((impl_Schedule.f kj61 t326 t329 a1 a2).bind fun bt330=>((laws_eqHeap.f kj61 bt330.1 bt330.2.1 t297 t300).bind fun t336=>(if t336=true then (laws_FnExactSchedule.j2 kj61 t323 (bt330.2.2 != t301) t324 t311) else (laws_FnExactSchedule.j2 kj61 t323 true t324 t311))))=some r:=H
          have A96:=Aside0.mk A960
          clear A960
          replace H:=Option.bind_eq_some_iff.mp H
          obtain ⟨⟨t330,t333,t334⟩,A970,H⟩:=H
          replace H:((laws_eqHeap.f kj61 t330 t333 t297 t300).bind fun t336=>(if t336=true then (laws_FnExactSchedule.j2 kj61 t323 (t334 != t301) t324 t311) else (laws_FnExactSchedule.j2 kj61 t323 true t324 t311)))=some r:=H
          have A97:=Aside0.mk A970
          clear A970
          have HC98:=Aside0.mk H
          clear H
          have hnb99:=NB313_291.out
          have hnc99:=NB291_313.out
          have hnb100:=NB313_302.out
          have hnc100:=NB302_313.out
          have hnb101:=NB313_307.out
          have hnc101:=NB307_313.out
          obtain ⟨hcz102_0,hcz102_1,hfz102_0,hfz102_1⟩:=ck2 BK313.out
          go_upto_region 25 with (first|((with_reducible refine gate_callee (f:=14) rfl ?_);refine gl (some 72) Try.func14 #[.agg #[.slice Ao34 t308.length co34,.int .i64 t311],.int .i64 1] ?_;(with_reducible refine (laws_markHeap.calls kj61 (fun k_=>some k_=(.slice Ao34 t308.length co34:Value).ownBlock) (.slice Ao34 t308.length co34) t308 t311 1 t323 t324 w _ ?side1 ?side2 A92.out).mono ?_);(case side1=>repeat (first|(with_reducible first|exact HB.out|apply below_alloc|apply pw_below_drewN|apply below_drew1|refine below_set ?_ GE291.out|refine below_set ?_ GE302.out|refine below_set ?_ GE307.out|refine below_set ?_ GE313.out)|exact HB.out));(case side2=>exact Kd.R_tight rfl HO_314000.out);rintro e w103 ⟨rfl,hy0,hb,hkp⟩;refine ⟨_,rfl,?_⟩;replace HO_303000:=Aside0.mk (Kd.R_mono (ok':=fun k_=>some k_≠(.slice Ao28 t321.length co28:Value).ownBlock∧some k_≠(.slice Ao34 t308.length co34:Value).ownBlock) (Kd.R_keptB (HO_303000.out) hkp (fun k_ hk_ hs_=>by first|exact ((hk_.2) hs_)|(rcases hs_ with e_|e_ <;> simp_all)|simp_all)) (fun k_ hk_=>by first|exact (⟨hk_.1.1,hk_.1.2⟩)|simp_all));replace HO_308000:=Aside0.mk (Kd.R_mono (ok':=fun k_=>some k_≠(.slice Ao22 t297.length co22:Value).ownBlock∧some k_≠(.slice Ao34 t308.length co34:Value).ownBlock) (Kd.R_keptB (HO_308000.out) hkp (fun k_ hk_ hs_=>by first|exact ((hk_.2) hs_)|(rcases hs_ with e_|e_ <;> simp_all)|simp_all)) (fun k_ hk_=>by first|exact (⟨hk_.1.1,hk_.1.2⟩)|simp_all));replace BK291:=Aside0.mk (blk_kept (bk BK291) hkp (fun hs_=>(fun e_=>(Kd.R_ne HO_314000.out BK291.out (by decide)) e_) hs_));replace BK302:=Aside0.mk (blk_kept (bk BK302) hkp (fun hs_=>(fun e_=>(Kd.R_ne HO_314000.out BK302.out (by decide)) e_) hs_));replace BK307:=Aside0.mk (blk_kept (bk BK307) hkp (fun hs_=>(fun e_=>(Kd.R_ne HO_314000.out BK307.out (by decide)) e_) hs_));replace BK313:=Aside0.mk (blk_kept (bk BK313) hkp (fun hs_=>(fun e_=>(Kd.R_ne HO_314000.out BK313.out (by decide)) e_) hs_));replace HO_314000:=Aside0.mk (Kd.R_reok rfl hy0 (fun k_ e_=>HO_314000.out.1 k_ e_));replace HB:=Aside0.mk (hb);(try clear hb);(try clear hkp);(try clear hy0);obtain ⟨hcz104_0,hcz104_1,hfz104_0,hfz104_1⟩:=ck2 BK313.out)|((with_reducible refine gate_callee (f:=15) rfl ?_);refine goesL_ (some 75) rfl rfl Try.func15 (by kernel_rfl) rfl #[.agg #[.slice Ao34 t324.length co34,.int .i64 t311],.int .i64 1] rfl (by (try simp only [List.map_toArray,List.map_cons,List.map_nil]);first|done|(rw [show t324.length=t308.length from (Kd.R_reads' HO_314000.out).1.symm] <;> rfl)|rfl|(simp only [List.length_drop,List.length_take];rfl)) ?_;(with_reducible refine (laws_heldHeap.calls kj61 _ _ t324 t311 1 t325 _ ?side1 ?side2 A93.out).mono ?_);(case side1=>repeat (first|exact (Kd.R_reads' HO_314000.out).2.2|(with_reducible refine Kd.C_alloc ?_ _)|(with_reducible refine Kd.C_drewN ?_ _)|(with_reducible refine Kd.C_drew ?_)));(case side2=>rw [show t324.length=t308.length from (Kd.R_reads' HO_314000.out).1.symm];exact (Kd.R_reads' HO_314000.out).2.1);rintro e w105 ⟨rfl,hb⟩;refine ⟨_,rfl,?_⟩;replace HO_303000:=Aside0.mk (Kd.R_below (kr HO_303000) hb);replace HO_308000:=Aside0.mk (Kd.R_below (kr HO_308000) hb);replace HO_314000:=Aside0.mk (Kd.R_below (kr HO_314000) hb);replace BK291:=Aside0.mk (blk_below (bk BK291) hb);replace BK302:=Aside0.mk (blk_below (bk BK302) hb);replace BK307:=Aside0.mk (blk_below (bk BK307) hb);replace BK313:=Aside0.mk (blk_below (bk BK313) hb);replace HB:=Aside0.mk (below_step bl hb);(try clear hb);(try clear hb2);(try clear hk);(try clear hi);have hnb106:=NB291_302.out;have hnc106:=NB302_291.out;have hnb107:=NB291_307.out;have hnc107:=NB307_291.out;obtain ⟨hcz108_0,hcz108_1,hfz108_0,hfz108_1⟩:=ck2 BK291.out)|((with_reducible refine gate_callee (f:=11) rfl ?_);refine gl (some 83) Try.func11 #[.agg #[.slice A0_0 l0_0.length c0_0,.int .i64 a0_1]] ?_;(with_reducible refine (laws_toHeap.calls kj61 _ _ l0_0 a0_1 t326 t329 _ ?side1 ?side2 A96.out).mono ?_);(case side1=>exact kc HR0_0);(case side2=>exact HC0_0.out);rintro e w109 ⟨v327,rfl,ho0,hb⟩;refine ⟨_,rfl,?_⟩;have HO328:=Aside0.mk (Kd.R_lower (Kd.R_new' (Kd.R_new' (Kd.R_new' ho0 (Kd.R_lt (kr HO_303000))) (Kd.R_lt (kr HO_308000))) (Kd.R_lt (kr HO_314000))) (below_size bl));replace HO_303000:=Aside0.mk (Kd.R_elder' (kr HO_303000) (Kd.R_base ho0) hb);replace HO_308000:=Aside0.mk (Kd.R_elder' (kr HO_308000) (Kd.R_base ho0) hb);replace HO_314000:=Aside0.mk (Kd.R_elder' (kr HO_314000) (Kd.R_base ho0) hb);replace BK291:=Aside0.mk (blk_below (bk BK291) hb);replace BK302:=Aside0.mk (blk_below (bk BK302) hb);replace BK307:=Aside0.mk (blk_below (bk BK307) hb);replace BK313:=Aside0.mk (blk_below (bk BK313) hb);replace HB:=Aside0.mk (below_step bl hb);(try clear hb);(try clear hb2);(try clear hk);(try clear hi);(try clear ho0);obtain ⟨Ao110,co110,eo110⟩:=Kd.R_slice HO328.out;subst eo110)|((with_reducible refine gate_callee (f:=17) rfl ?_);refine gl (some 86) Try.func17 #[.agg #[.slice Ao110 t326.length co110,.int .i64 t329],.int .i64 a1,.int .i64 a2] ?_;(with_reducible refine (impl_Schedule.calls kj61 _ _ t326 t329 a1 a2 t330 t333 t334 _ ?side1 ?side2 A97.out).mono ?_);(case side1=>repeat (first|exact (Kd.R_reads' HO328.out).2.2|(with_reducible refine Kd.C_alloc ?_ _)|(with_reducible refine Kd.C_drewN ?_ _)|(with_reducible refine Kd.C_drew ?_)));(case side2=>exact (Kd.R_reads' HO328.out).2.1);rintro e w111 ⟨v331,rfl,ho0,hb⟩;refine ⟨_,rfl,?_⟩;have HO332:=Aside0.mk (Kd.R_lower (Kd.R_new' (Kd.R_new' (Kd.R_new' (Kd.R_new' ho0 (Kd.R_lt (kr HO_303000))) (Kd.R_lt (kr HO_308000))) (Kd.R_lt (kr HO_314000))) (Kd.R_lt (kr HO328))) (below_size bl));replace HO_303000:=Aside0.mk (Kd.R_elder' (kr HO_303000) (Kd.R_base ho0) hb);replace HO_308000:=Aside0.mk (Kd.R_elder' (kr HO_308000) (Kd.R_base ho0) hb);replace HO_314000:=Aside0.mk (Kd.R_elder' (kr HO_314000) (Kd.R_base ho0) hb);replace HO328:=Aside0.mk (Kd.R_elder' (kr HO328) (Kd.R_base ho0) hb);replace BK291:=Aside0.mk (blk_below (bk BK291) hb);replace BK302:=Aside0.mk (blk_below (bk BK302) hb);replace BK307:=Aside0.mk (blk_below (bk BK307) hb);replace BK313:=Aside0.mk (blk_below (bk BK313) hb);replace HB:=Aside0.mk (below_step bl hb);(try clear hb);(try clear hb2);(try clear hk);(try clear hi);(try clear ho0))|((with_reducible refine gate_dst (N:=16) rfl ?_);refine bx 16 #[.slice none 0 0,.int .i64 0] 28 ?_;intro gb335 hg w112 hbox hb;replace HO_303000:=Aside0.mk (Kd.R_below (kr HO_303000) hb);replace HO_308000:=Aside0.mk (Kd.R_below (kr HO_308000) hb);replace HO_314000:=Aside0.mk (Kd.R_below (kr HO_314000) hb);replace HO328:=Aside0.mk (Kd.R_below (kr HO328) hb);replace HO332:=Aside0.mk (Kd.R_below (kr HO332) hb);have BK335:=Aside0.mk (hbox);have GW335:=Aside0.mk (bz hg:w.heap.size≤gb335);have GE335:=GW335;replace HB:=Aside0.mk (below_step bl hb);have NB291_335:=Aside0.mk (nl hg BK291:gb291≠gb335);have NB335_291:=Aside0.mk (nr hg BK291:gb335≠gb291);replace BK291:=Aside0.mk (blk_below (bk BK291) hb);have NB302_335:=Aside0.mk (nl hg BK302:gb302≠gb335);have NB335_302:=Aside0.mk (nr hg BK302:gb335≠gb302);replace BK302:=Aside0.mk (blk_below (bk BK302) hb);have NB307_335:=Aside0.mk (nl hg BK307:gb307≠gb335);have NB335_307:=Aside0.mk (nr hg BK307:gb335≠gb307);replace BK307:=Aside0.mk (blk_below (bk BK307) hb);have NB313_335:=Aside0.mk (nl hg BK313:gb313≠gb335);have NB335_313:=Aside0.mk (nr hg BK313:gb335≠gb313);replace BK313:=Aside0.mk (blk_below (bk BK313) hb);clear hb hbox hg;obtain ⟨Ao113,co113,eo113⟩:=Kd.R_slice HO332.out;subst eo113;have hnb114:=NB335_291.out;have hnc114:=NB291_335.out;have hnb115:=NB335_302.out;have hnc115:=NB302_335.out;have hnb116:=NB335_307.out;have hnc116:=NB307_335.out;have hnb117:=NB335_313.out;have hnc117:=NB313_335.out;obtain ⟨hcz118_0,hcz118_1,hfz118_0,hfz118_1⟩:=ck2 BK335.out))
          (try simp only [Act.put,List.setIfInBounds_toArray,List.set_cons_zero,List.set_cons_succ])
          go_cut [97] (fun v97 wc=>∃ (kq:Nat) (x97_97:Bool),v97 = .bool x97_97∧Aside0 (laws_FnExactSchedule.j2 kq t323 x97_97 t324 t311=some r)∧Aside0 (kq≤kj61)∧Aside0 (Kd.R k56 56 wc w.heap.size (fun k_=>some k_≠((.slice Ao28 t321.length co28):Value).ownBlock∧some k_≠((.slice Ao34 t308.length co34):Value).ownBlock∧some k_≠((.slice Ao113 t330.length co113):Value).ownBlock) (.slice Ao22 t297.length co22) t297)∧Aside0 (Kd.R k56 56 wc w.heap.size (fun k_=>some k_≠((.slice Ao22 t297.length co22):Value).ownBlock∧some k_≠((.slice Ao34 t308.length co34):Value).ownBlock∧some k_≠((.slice Ao113 t330.length co113):Value).ownBlock) (.slice Ao28 t321.length co28) t321)∧Aside0 (Kd.R k56 56 wc w.heap.size (fun k_=>some k_≠((.slice Ao22 t297.length co22):Value).ownBlock∧some k_≠((.slice Ao28 t321.length co28):Value).ownBlock∧some k_≠((.slice Ao113 t330.length co113):Value).ownBlock) (.slice Ao34 t308.length co34) t324)∧Aside0 (Kd.R k56 56 wc w.heap.size (fun k_=>some k_≠((.slice Ao22 t297.length co22):Value).ownBlock∧some k_≠((.slice Ao28 t321.length co28):Value).ownBlock∧some k_≠((.slice Ao34 t308.length co34):Value).ownBlock) (.slice Ao113 t330.length co113) t330)∧Aside0 (wc.heap[gb291]? = some (.cells #[(.slice A0_0 l0_0.length c0_0),.int .i64 a0_1] 24 (0,0)))∧Aside0 (wc.heap[gb302]? = some (.cells #[(.slice Ao22 t297.length co22),.int .i64 t300] 28 (0,0)))∧Aside0 (wc.heap[gb307]? = some (.cells #[(.slice Ao28 t321.length co28),.int .i64 t306] 28 (0,0)))∧Aside0 (wc.heap[gb313]? = some (.cells #[(.slice Ao34 t308.length co34),.int .i64 t311] 28 (0,0)))∧Aside0 (wc.heap[gb335]? = some (.cells #[(.slice Ao113 t330.length co113),.int .i64 t333] 28 (0,0)))∧Aside0 (Below w.heap.size w wc))
          case first =>
           have H:=HC98.out
           clear HC98
           replace H:=Option.bind_eq_some_iff.mp H
           obtain ⟨t336,A1190,H⟩:=H
           have A119:=Aside0.mk A1190
           clear A1190
           by_cases c120:t336=true
           ·subst c120
            rw [if_pos rfl] at H
            have H':=Aside0.mk H
            clear H
            have hnb121:=NB335_291.out
            have hnc121:=NB291_335.out
            have hnb122:=NB335_302.out
            have hnc122:=NB302_335.out
            have hnb123:=NB335_307.out
            have hnc123:=NB307_335.out
            have hnb124:=NB335_313.out
            have hnc124:=NB313_335.out
            obtain ⟨hcz125_0,hcz125_1,hfz125_0,hfz125_1⟩:=ck2 BK335.out
            have hnb126:=NB302_291.out
            have hnc126:=NB291_302.out
            have hnb127:=NB302_307.out
            have hnc127:=NB307_302.out
            have hnb128:=NB302_313.out
            have hnc128:=NB313_302.out
            obtain ⟨hcz129_0,hcz129_1,hfz129_0,hfz129_1⟩:=ck2 BK302.out
            go_wp2_with (first|((with_reducible refine gate_callee (f:=13) rfl ?_);refine gl (some 91) Try.func13 #[.agg #[.slice Ao113 t330.length co113,.int .i64 t333],.agg #[.slice Ao22 t297.length co22,.int .i64 t300]] ?_;(with_reducible refine (laws_eqHeap.calls kj61 _ _ t330 t333 _ _ t297 t300 true _ ?side1 ?side2 ?side3 ?side4 A119.out).mono ?_);(case side1=>refine (Kd.R_reads' (e:=56) (base:=w.heap.size) (ok:=fun k_=>((((True∧some k_≠(.slice Ao22 t297.length co22:Value).ownBlock)∧some k_≠(.slice Ao28 t321.length co28:Value).ownBlock)∧some k_≠(.slice Ao34 t308.length co34:Value).ownBlock)∧some k_≠(.slice Ao110 t326.length co110:Value).ownBlock)) (n:=t330.length) (c:=co113) ?_).2.2;exact (by (with_reducible repeat (first|apply Kd.R_alloc|apply Kd.R_drewN|apply Kd.R_drew));exact (Kd.R_mono (Kd.R_far (p:=⟨gb335,1,none⟩) (Kd.R_far (p:=⟨gb335,0,none⟩) (Kd.R_types HO332.out BK335.out (by decide)) (fun _ hk=>hk.2) (.slice Ao113 t330.length co113)) (fun _ hk=>hk.2) (.int .i64 t333)) (fun _ h_=>h_.1))));(case side2=>exact (Kd.R_reads' HO332.out).2.1);(case side3=>refine (Kd.R_reads' (e:=56) (base:=w.heap.size) (ok:=fun k_=>(((some k_≠(.slice Ao28 t321.length co28:Value).ownBlock∧some k_≠(.slice Ao34 t308.length co34:Value).ownBlock)∧some k_≠(.slice Ao110 t326.length co110:Value).ownBlock)∧some k_≠(.slice Ao113 t330.length co113:Value).ownBlock)) (n:=t297.length) (c:=co22) ?_).2.2;exact (by (with_reducible repeat (first|apply Kd.R_alloc|apply Kd.R_drewN|apply Kd.R_drew));exact (Kd.R_mono (Kd.R_far (p:=⟨gb335,1,none⟩) (Kd.R_far (p:=⟨gb335,0,none⟩) (Kd.R_types HO_303000.out BK335.out (by decide)) (fun _ hk=>hk.2) (.slice Ao113 t330.length co113)) (fun _ hk=>hk.2) (.int .i64 t333)) (fun _ h_=>h_.1))));(case side4=>exact (Kd.R_reads' HO_303000.out).2.1);rintro e w130 ⟨rfl,hb⟩;refine ⟨_,rfl,?_⟩;replace HO_303000:=Aside0.mk (Kd.R_below (by (with_reducible repeat (first|apply Kd.R_alloc|apply Kd.R_drewN|apply Kd.R_drew));exact (Kd.R_mono (Kd.R_far (p:=⟨gb335,1,none⟩) (Kd.R_far (p:=⟨gb335,0,none⟩) (Kd.R_types HO_303000.out BK335.out (by decide)) (fun _ hk=>hk.2) (.slice Ao113 t330.length co113)) (fun _ hk=>hk.2) (.int .i64 t333)) (fun _ h_=>h_.1))) hb);replace HO_308000:=Aside0.mk (Kd.R_below (by (with_reducible repeat (first|apply Kd.R_alloc|apply Kd.R_drewN|apply Kd.R_drew));exact (Kd.R_mono (Kd.R_far (p:=⟨gb335,1,none⟩) (Kd.R_far (p:=⟨gb335,0,none⟩) (Kd.R_types HO_308000.out BK335.out (by decide)) (fun _ hk=>hk.2) (.slice Ao113 t330.length co113)) (fun _ hk=>hk.2) (.int .i64 t333)) (fun _ h_=>h_.1))) hb);replace HO_314000:=Aside0.mk (Kd.R_below (by (with_reducible repeat (first|apply Kd.R_alloc|apply Kd.R_drewN|apply Kd.R_drew));exact (Kd.R_mono (Kd.R_far (p:=⟨gb335,1,none⟩) (Kd.R_far (p:=⟨gb335,0,none⟩) (Kd.R_types HO_314000.out BK335.out (by decide)) (fun _ hk=>hk.2) (.slice Ao113 t330.length co113)) (fun _ hk=>hk.2) (.int .i64 t333)) (fun _ h_=>h_.1))) hb);replace HO328:=Aside0.mk (Kd.R_below (by (with_reducible repeat (first|apply Kd.R_alloc|apply Kd.R_drewN|apply Kd.R_drew));exact (Kd.R_mono (Kd.R_far (p:=⟨gb335,1,none⟩) (Kd.R_far (p:=⟨gb335,0,none⟩) (Kd.R_types HO328.out BK335.out (by decide)) (fun _ hk=>hk.2) (.slice Ao113 t330.length co113)) (fun _ hk=>hk.2) (.int .i64 t333)) (fun _ h_=>h_.1))) hb);replace HO332:=Aside0.mk (Kd.R_below (by (with_reducible repeat (first|apply Kd.R_alloc|apply Kd.R_drewN|apply Kd.R_drew));exact (Kd.R_mono (Kd.R_far (p:=⟨gb335,1,none⟩) (Kd.R_far (p:=⟨gb335,0,none⟩) (Kd.R_types HO332.out BK335.out (by decide)) (fun _ hk=>hk.2) (.slice Ao113 t330.length co113)) (fun _ hk=>hk.2) (.int .i64 t333)) (fun _ h_=>h_.1))) hb);replace BK291:=Aside0.mk (blk_below (g:=gb291) (o:=.cells #[.slice A0_0 l0_0.length c0_0,.int .i64 a0_1] 24 (0,0)) (bf BK291) hb);replace BK302:=Aside0.mk (blk_below (g:=gb302) (o:=.cells #[.slice Ao22 t297.length co22,.int .i64 t300] 28 (0,0)) (bf BK302) hb);replace BK307:=Aside0.mk (blk_below (g:=gb307) (o:=.cells #[.slice Ao28 t321.length co28,.int .i64 t306] 28 (0,0)) (bf BK307) hb);replace BK313:=Aside0.mk (blk_below (g:=gb313) (o:=.cells #[.slice Ao34 t308.length co34,.int .i64 t311] 28 (0,0)) (bf BK313) hb);replace BK335:=Aside0.mk (blk_below (g:=gb335) (o:=.cells #[.slice Ao113 t330.length co113,.int .i64 t333] 28 (0,0)) (by (with_reducible repeat (first|refine blk_drewN ?_ _|refine blk_drew ?_|refine blk_alloc ?_ _));refine blk_put (cs:=#[.slice Ao113 t330.length co113,.int .i64 0]) ?_ 1 _ rfl;(with_reducible repeat (first|refine blk_drewN ?_ _|refine blk_drew ?_|refine blk_alloc ?_ _));refine blk_put (cs:=#[.slice none 0 0,.int .i64 0]) ?_ 0 _ rfl;(with_reducible repeat (first|refine blk_drewN ?_ _|refine blk_drew ?_|refine blk_alloc ?_ _));exact BK335.out) hb);replace HB:=Aside0.mk (below_step bl hb);(try clear hb);(try clear hb2);(try clear hk);(try clear hi)))
            go_meet
            case rel=>exact ⟨_,((t334 != t301)),(by first|rfl|(simp;done)|(simp [*];done)),H',⟨by have:=HJ12.out;have:=HJ61.out;first|omega|exact Nat.le_refl _⟩,⟨by (try simp only [hl308000_61]);(with_reducible repeat (first|apply Kd.R_alloc|apply Kd.R_drewN|apply Kd.R_drew));exact Kd.R_mono HO_303000.out (fun _ hk=>⟨hk.1.1.1,⟨hk.1.1.2,hk.2⟩⟩)⟩,⟨by (try simp only [hl308000_61]);(with_reducible repeat (first|apply Kd.R_alloc|apply Kd.R_drewN|apply Kd.R_drew));exact Kd.R_mono HO_308000.out (fun _ hk=>⟨hk.1.1.1,⟨hk.1.1.2,hk.2⟩⟩)⟩,⟨by (try simp only [hl308000_61]);(with_reducible repeat (first|apply Kd.R_alloc|apply Kd.R_drewN|apply Kd.R_drew));exact Kd.R_mono HO_314000.out (fun _ hk=>⟨hk.1.1.1,⟨hk.1.1.2,hk.2⟩⟩)⟩,⟨by (try simp only [hl308000_61]);(with_reducible repeat (first|apply Kd.R_alloc|apply Kd.R_drewN|apply Kd.R_drew));exact Kd.R_mono HO332.out (fun _ hk=>⟨hk.1.1.1.2,⟨hk.1.1.2,hk.1.2⟩⟩)⟩,⟨by (try simp only [hl308000_61]);(with_reducible repeat (first|refine blk_drewN ?_ _|refine blk_drew ?_|refine blk_alloc ?_ _));exact BK291.out⟩,⟨by (try simp only [hl308000_61]);(with_reducible repeat (first|refine blk_drewN ?_ _|refine blk_drew ?_|refine blk_alloc ?_ _));exact BK302.out⟩,⟨by (try simp only [hl308000_61]);(with_reducible repeat (first|refine blk_drewN ?_ _|refine blk_drew ?_|refine blk_alloc ?_ _));exact BK307.out⟩,⟨by (try simp only [hl308000_61]);(with_reducible repeat (first|refine blk_drewN ?_ _|refine blk_drew ?_|refine blk_alloc ?_ _));exact BK313.out⟩,⟨by (try simp only [hl308000_61]);(with_reducible repeat (first|refine blk_drewN ?_ _|refine blk_drew ?_|refine blk_alloc ?_ _));exact BK335.out⟩,⟨bl⟩⟩
           ·replace c120:=Bool.eq_false_iff.mpr c120
            subst c120
            rw [if_neg nft] at H
            have H':=Aside0.mk H
            clear H
            have hnb131:=NB335_291.out
            have hnc131:=NB291_335.out
            have hnb132:=NB335_302.out
            have hnc132:=NB302_335.out
            have hnb133:=NB335_307.out
            have hnc133:=NB307_335.out
            have hnb134:=NB335_313.out
            have hnc134:=NB313_335.out
            obtain ⟨hcz135_0,hcz135_1,hfz135_0,hfz135_1⟩:=ck2 BK335.out
            have hnb136:=NB302_291.out
            have hnc136:=NB291_302.out
            have hnb137:=NB302_307.out
            have hnc137:=NB307_302.out
            have hnb138:=NB302_313.out
            have hnc138:=NB313_302.out
            obtain ⟨hcz139_0,hcz139_1,hfz139_0,hfz139_1⟩:=ck2 BK302.out
            go_wp2_with (first|((with_reducible refine gate_callee (f:=13) rfl ?_);refine gl (some 91) Try.func13 #[.agg #[.slice Ao113 t330.length co113,.int .i64 t333],.agg #[.slice Ao22 t297.length co22,.int .i64 t300]] ?_;(with_reducible refine (laws_eqHeap.calls kj61 _ _ t330 t333 _ _ t297 t300 false _ ?side1 ?side2 ?side3 ?side4 A119.out).mono ?_);(case side1=>refine (Kd.R_reads' (e:=56) (base:=w.heap.size) (ok:=fun k_=>((((True∧some k_≠(.slice Ao22 t297.length co22:Value).ownBlock)∧some k_≠(.slice Ao28 t321.length co28:Value).ownBlock)∧some k_≠(.slice Ao34 t308.length co34:Value).ownBlock)∧some k_≠(.slice Ao110 t326.length co110:Value).ownBlock)) (n:=t330.length) (c:=co113) ?_).2.2;exact (by (with_reducible repeat (first|apply Kd.R_alloc|apply Kd.R_drewN|apply Kd.R_drew));exact (Kd.R_mono (Kd.R_far (p:=⟨gb335,1,none⟩) (Kd.R_far (p:=⟨gb335,0,none⟩) (Kd.R_types HO332.out BK335.out (by decide)) (fun _ hk=>hk.2) (.slice Ao113 t330.length co113)) (fun _ hk=>hk.2) (.int .i64 t333)) (fun _ h_=>h_.1))));(case side2=>exact (Kd.R_reads' HO332.out).2.1);(case side3=>refine (Kd.R_reads' (e:=56) (base:=w.heap.size) (ok:=fun k_=>(((some k_≠(.slice Ao28 t321.length co28:Value).ownBlock∧some k_≠(.slice Ao34 t308.length co34:Value).ownBlock)∧some k_≠(.slice Ao110 t326.length co110:Value).ownBlock)∧some k_≠(.slice Ao113 t330.length co113:Value).ownBlock)) (n:=t297.length) (c:=co22) ?_).2.2;exact (by (with_reducible repeat (first|apply Kd.R_alloc|apply Kd.R_drewN|apply Kd.R_drew));exact (Kd.R_mono (Kd.R_far (p:=⟨gb335,1,none⟩) (Kd.R_far (p:=⟨gb335,0,none⟩) (Kd.R_types HO_303000.out BK335.out (by decide)) (fun _ hk=>hk.2) (.slice Ao113 t330.length co113)) (fun _ hk=>hk.2) (.int .i64 t333)) (fun _ h_=>h_.1))));(case side4=>exact (Kd.R_reads' HO_303000.out).2.1);rintro e w140 ⟨rfl,hb⟩;refine ⟨_,rfl,?_⟩;replace HO_303000:=Aside0.mk (Kd.R_below (by (with_reducible repeat (first|apply Kd.R_alloc|apply Kd.R_drewN|apply Kd.R_drew));exact (Kd.R_mono (Kd.R_far (p:=⟨gb335,1,none⟩) (Kd.R_far (p:=⟨gb335,0,none⟩) (Kd.R_types HO_303000.out BK335.out (by decide)) (fun _ hk=>hk.2) (.slice Ao113 t330.length co113)) (fun _ hk=>hk.2) (.int .i64 t333)) (fun _ h_=>h_.1))) hb);replace HO_308000:=Aside0.mk (Kd.R_below (by (with_reducible repeat (first|apply Kd.R_alloc|apply Kd.R_drewN|apply Kd.R_drew));exact (Kd.R_mono (Kd.R_far (p:=⟨gb335,1,none⟩) (Kd.R_far (p:=⟨gb335,0,none⟩) (Kd.R_types HO_308000.out BK335.out (by decide)) (fun _ hk=>hk.2) (.slice Ao113 t330.length co113)) (fun _ hk=>hk.2) (.int .i64 t333)) (fun _ h_=>h_.1))) hb);replace HO_314000:=Aside0.mk (Kd.R_below (by (with_reducible repeat (first|apply Kd.R_alloc|apply Kd.R_drewN|apply Kd.R_drew));exact (Kd.R_mono (Kd.R_far (p:=⟨gb335,1,none⟩) (Kd.R_far (p:=⟨gb335,0,none⟩) (Kd.R_types HO_314000.out BK335.out (by decide)) (fun _ hk=>hk.2) (.slice Ao113 t330.length co113)) (fun _ hk=>hk.2) (.int .i64 t333)) (fun _ h_=>h_.1))) hb);replace HO328:=Aside0.mk (Kd.R_below (by (with_reducible repeat (first|apply Kd.R_alloc|apply Kd.R_drewN|apply Kd.R_drew));exact (Kd.R_mono (Kd.R_far (p:=⟨gb335,1,none⟩) (Kd.R_far (p:=⟨gb335,0,none⟩) (Kd.R_types HO328.out BK335.out (by decide)) (fun _ hk=>hk.2) (.slice Ao113 t330.length co113)) (fun _ hk=>hk.2) (.int .i64 t333)) (fun _ h_=>h_.1))) hb);replace HO332:=Aside0.mk (Kd.R_below (by (with_reducible repeat (first|apply Kd.R_alloc|apply Kd.R_drewN|apply Kd.R_drew));exact (Kd.R_mono (Kd.R_far (p:=⟨gb335,1,none⟩) (Kd.R_far (p:=⟨gb335,0,none⟩) (Kd.R_types HO332.out BK335.out (by decide)) (fun _ hk=>hk.2) (.slice Ao113 t330.length co113)) (fun _ hk=>hk.2) (.int .i64 t333)) (fun _ h_=>h_.1))) hb);replace BK291:=Aside0.mk (blk_below (g:=gb291) (o:=.cells #[.slice A0_0 l0_0.length c0_0,.int .i64 a0_1] 24 (0,0)) (bf BK291) hb);replace BK302:=Aside0.mk (blk_below (g:=gb302) (o:=.cells #[.slice Ao22 t297.length co22,.int .i64 t300] 28 (0,0)) (bf BK302) hb);replace BK307:=Aside0.mk (blk_below (g:=gb307) (o:=.cells #[.slice Ao28 t321.length co28,.int .i64 t306] 28 (0,0)) (bf BK307) hb);replace BK313:=Aside0.mk (blk_below (g:=gb313) (o:=.cells #[.slice Ao34 t308.length co34,.int .i64 t311] 28 (0,0)) (bf BK313) hb);replace BK335:=Aside0.mk (blk_below (g:=gb335) (o:=.cells #[.slice Ao113 t330.length co113,.int .i64 t333] 28 (0,0)) (by (with_reducible repeat (first|refine blk_drewN ?_ _|refine blk_drew ?_|refine blk_alloc ?_ _));refine blk_put (cs:=#[.slice Ao113 t330.length co113,.int .i64 0]) ?_ 1 _ rfl;(with_reducible repeat (first|refine blk_drewN ?_ _|refine blk_drew ?_|refine blk_alloc ?_ _));refine blk_put (cs:=#[.slice none 0 0,.int .i64 0]) ?_ 0 _ rfl;(with_reducible repeat (first|refine blk_drewN ?_ _|refine blk_drew ?_|refine blk_alloc ?_ _));exact BK335.out) hb);replace HB:=Aside0.mk (below_step bl hb);(try clear hb);(try clear hb2);(try clear hk);(try clear hi)))
            go_meet
            case rel=>exact ⟨_,(true),(by first|rfl|(simp;done)|(simp [*];done)),H',⟨by have:=HJ12.out;have:=HJ61.out;first|omega|exact Nat.le_refl _⟩,⟨by (try simp only [hl308000_61]);(with_reducible repeat (first|apply Kd.R_alloc|apply Kd.R_drewN|apply Kd.R_drew));exact Kd.R_mono HO_303000.out (fun _ hk=>⟨hk.1.1.1,⟨hk.1.1.2,hk.2⟩⟩)⟩,⟨by (try simp only [hl308000_61]);(with_reducible repeat (first|apply Kd.R_alloc|apply Kd.R_drewN|apply Kd.R_drew));exact Kd.R_mono HO_308000.out (fun _ hk=>⟨hk.1.1.1,⟨hk.1.1.2,hk.2⟩⟩)⟩,⟨by (try simp only [hl308000_61]);(with_reducible repeat (first|apply Kd.R_alloc|apply Kd.R_drewN|apply Kd.R_drew));exact Kd.R_mono HO_314000.out (fun _ hk=>⟨hk.1.1.1,⟨hk.1.1.2,hk.2⟩⟩)⟩,⟨by (try simp only [hl308000_61]);(with_reducible repeat (first|apply Kd.R_alloc|apply Kd.R_drewN|apply Kd.R_drew));exact Kd.R_mono HO332.out (fun _ hk=>⟨hk.1.1.1.2,⟨hk.1.1.2,hk.1.2⟩⟩)⟩,⟨by (try simp only [hl308000_61]);(with_reducible repeat (first|refine blk_drewN ?_ _|refine blk_drew ?_|refine blk_alloc ?_ _));exact BK291.out⟩,⟨by (try simp only [hl308000_61]);(with_reducible repeat (first|refine blk_drewN ?_ _|refine blk_drew ?_|refine blk_alloc ?_ _));exact BK302.out⟩,⟨by (try simp only [hl308000_61]);(with_reducible repeat (first|refine blk_drewN ?_ _|refine blk_drew ?_|refine blk_alloc ?_ _));exact BK307.out⟩,⟨by (try simp only [hl308000_61]);(with_reducible repeat (first|refine blk_drewN ?_ _|refine blk_drew ?_|refine blk_alloc ?_ _));exact BK313.out⟩,⟨by (try simp only [hl308000_61]);(with_reducible repeat (first|refine blk_drewN ?_ _|refine blk_drew ?_|refine blk_alloc ?_ _));exact BK335.out⟩,⟨bl⟩⟩
          case rest =>
           clear HC98
           try clear c1
           try clear c2
           try clear p2
           try clear c3
           try clear c4
           try clear c5
           try clear c5b0
           try clear c6
           try clear c7
           try clear c8
           try clear c9
           try clear c10
           try clear c11
           try clear c12
           try clear c13
           try clear c14
           try clear c15
           try clear c16
           try clear c17
           try clear c23
           try clear c29
           try clear c30
           try clear c35
           try clear c36
           try clear c37
           try clear c40
           try clear c41
           try clear c42
           try clear c43
           try clear c45
           try clear c46
           try clear c49
           try clear c50
           try clear c51
           try clear c53
           try clear c54
           try clear c57
           try clear c60
           try clear c67
           try clear c68
           try clear c69
           try clear c72
           try clear c72b0
           try clear c74
           try clear c75
           try clear c76
           try clear c77
           try clear c79
           try clear c80
           try clear c83
           try clear c84
           try clear c85
           try clear c87
           try clear c88
           try clear c91
           try clear c94
           try clear c94b0
           try clear c95
           try clear c95b0
           try clear c95b1
           try clear c99
           try clear c100
           try clear c101
           try clear c106
           try clear c107
           try clear c114
           try clear c115
           try clear c116
           try clear c117
           try clear c120
           try clear c121
           try clear c122
           try clear c123
           try clear c124
           try clear c126
           try clear c127
           try clear c128
           try clear c131
           try clear c132
           try clear c133
           try clear c134
           try clear c136
           try clear c137
           try clear c138
           try clear hcz102_0
           try clear hcz102_1
           try clear hcz104_0
           try clear hcz104_1
           try clear hcz108_0
           try clear hcz108_1
           try clear hcz118_0
           try clear hcz118_1
           try clear hcz125_0
           try clear hcz125_1
           try clear hcz129_0
           try clear hcz129_1
           try clear hcz135_0
           try clear hcz135_1
           try clear hcz139_0
           try clear hcz139_1
           try clear hcz15_0
           try clear hcz15_1
           try clear hcz17_0
           try clear hcz17_1
           try clear hcz24_0
           try clear hcz24_1
           try clear hcz25_0
           try clear hcz25_1
           try clear hcz31_0
           try clear hcz31_1
           try clear hcz38_0
           try clear hcz38_1
           try clear hcz44_0
           try clear hcz44_1
           try clear hcz47_0
           try clear hcz47_1
           try clear hcz52_0
           try clear hcz52_1
           try clear hcz55_0
           try clear hcz55_1
           try clear hcz70_0
           try clear hcz70_1
           try clear hcz78_0
           try clear hcz78_1
           try clear hcz7_0
           try clear hcz7_1
           try clear hcz81_0
           try clear hcz81_1
           try clear hcz86_0
           try clear hcz86_1
           try clear hcz89_0
           try clear hcz89_1
           try clear hfz102_0
           try clear hfz102_1
           try clear hfz104_0
           try clear hfz104_1
           try clear hfz108_0
           try clear hfz108_1
           try clear hfz118_0
           try clear hfz118_1
           try clear hfz125_0
           try clear hfz125_1
           try clear hfz129_0
           try clear hfz129_1
           try clear hfz135_0
           try clear hfz135_1
           try clear hfz139_0
           try clear hfz139_1
           try clear hfz15_0
           try clear hfz15_1
           try clear hfz17_0
           try clear hfz17_1
           try clear hfz24_0
           try clear hfz24_1
           try clear hfz25_0
           try clear hfz25_1
           try clear hfz31_0
           try clear hfz31_1
           try clear hfz38_0
           try clear hfz38_1
           try clear hfz44_0
           try clear hfz44_1
           try clear hfz47_0
           try clear hfz47_1
           try clear hfz52_0
           try clear hfz52_1
           try clear hfz55_0
           try clear hfz55_1
           try clear hfz70_0
           try clear hfz70_1
           try clear hfz78_0
           try clear hfz78_1
           try clear hfz7_0
           try clear hfz7_1
           try clear hfz81_0
           try clear hfz81_1
           try clear hfz86_0
           try clear hfz86_1
           try clear hfz89_0
           try clear hfz89_1
           try clear p2
           obtain ⟨kq,x97_97,rfl,HA,HJ97,HO_303000,HO_308000,HO_314000,HO_336000,BK291,BK302,BK307,BK313,BK335,HB⟩:=hcut
           have hl314000_97:=(Kd.R_reads' HO_314000.out).1
           rw [hl314000_97] at HO_314000
           (try simp only [hl314000_97])
           (try simp only [hl314000_97] at BK291)
           (try simp only [hl314000_97] at BK302)
           (try simp only [hl314000_97] at BK307)
           (try simp only [hl314000_97] at BK313)
           (try simp only [hl314000_97] at BK335)
           (try simp only [hl314000_97] at HO_303000)
           (try simp only [hl314000_97] at HO_308000)
           (try simp only [hl314000_97] at HO_336000)
           cases kq with
           | zero=>exact absurd HA.out (by simp [laws_FnExactSchedule.j2])
           | succ kj97 =>
            have H:=HA.out
            clear HA
            simp only [laws_FnExactSchedule.j2] at H
            by_cases c141:x97_97=true
            ·subst c141
             rw [if_pos rfl] at H
             exact absurd H (by simp)
            ·replace c141:=Bool.eq_false_iff.mpr c141
             subst c141
             rw [if_neg nft] at H
             replace H:=Option.bind_eq_some_iff.mp H
             obtain ⟨t337,A1420,H⟩:=H
             have A142:=Aside0.mk A1420
             clear A1420
             by_cases c143:t337 < 0
             ·rw [if_pos c143] at H
              exact absurd H (by simp)
             ·rw [if_neg c143] at H
              have c143b0:decide (t337 < 0)=false:=decide_eq_false c143
              clear c143
              by_cases c144:t337=t323
              case neg =>
               rw [if_neg c144] at H
               exact absurd H (by simp)
              rw [if_pos c144] at H
              have c144b0:(t337 == t323)=true:=beq_iff_eq.mpr c144
              have c144b1:(t337 != t323)=false:=bne_eq_false_iff_eq.mpr c144
              clear c144
              obtain rfl:=Option.some.inj H
              have hnb145:=NB313_291.out
              have hnc145:=NB291_313.out
              have hnb146:=NB313_302.out
              have hnc146:=NB302_313.out
              have hnb147:=NB313_307.out
              have hnc147:=NB307_313.out
              have hnb148:=NB313_335.out
              have hnc148:=NB335_313.out
              obtain ⟨hcz149_0,hcz149_1,hfz149_0,hfz149_1⟩:=ck2 BK313.out
              go_wp2_with (first|((with_reducible refine gate_callee (f:=15) rfl ?_);refine gl (some 100) Try.func15 #[.agg #[.slice Ao34 t324.length co34,.int .i64 t311],.int .i64 1] ?_;(with_reducible refine (laws_heldHeap.calls kj97 _ _ t324 t311 1 t337 _ ?side1 ?side2 A142.out).mono ?_);(case side1=>repeat (first|exact (Kd.R_reads' HO_314000.out).2.2|(with_reducible refine Kd.C_alloc ?_ _)|(with_reducible refine Kd.C_drewN ?_ _)|(with_reducible refine Kd.C_drew ?_)));(case side2=>exact (Kd.R_reads' HO_314000.out).2.1);rintro e w150 ⟨rfl,hb⟩;refine ⟨_,rfl,?_⟩;replace HO_303000:=Aside0.mk (Kd.R_below (kr HO_303000) hb);replace HO_308000:=Aside0.mk (Kd.R_below (kr HO_308000) hb);replace HO_314000:=Aside0.mk (Kd.R_below (kr HO_314000) hb);replace HO_336000:=Aside0.mk (Kd.R_below (kr HO_336000) hb);replace BK291:=Aside0.mk (blk_below (bk BK291) hb);replace BK302:=Aside0.mk (blk_below (bk BK302) hb);replace BK307:=Aside0.mk (blk_below (bk BK307) hb);replace BK313:=Aside0.mk (blk_below (bk BK313) hb);replace BK335:=Aside0.mk (blk_below (bk BK335) hb);replace HB:=Aside0.mk (below_step bl hb);(try clear hb);(try clear hb2);(try clear hk);(try clear hi)))
              go_ret
              exact ⟨er,bl⟩
     ·replace c60:=Bool.eq_false_iff.mpr c60
      subst c60
      rw [if_neg nft] at H
      exact absurd H (by simp)

end Go.Proofs.Ytdffkcbaijbhoaa.PFnExactSchedule
