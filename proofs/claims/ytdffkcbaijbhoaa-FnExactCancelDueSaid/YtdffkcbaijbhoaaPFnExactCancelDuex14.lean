/- Contracts of functions of the given program: what each call answers. Written by a program of this session, out of the text of the functions. -/
import Derived.Test.YtdffkcbaijbhoaaPFnExactCancelDuex0
import Derived.Test.YtdffkcbaijbhoaaPFnExactCancelDuex1
import Derived.Test.YtdffkcbaijbhoaaPFnExactCancelDuex6
import Derived.Test.YtdffkcbaijbhoaaPFnExactCancelDuex12
import Derived.Test.YtdffkcbaijbhoaaPFnExactCancelDuex13
import Derived.Test.YtdffkcbaijbhoaaPrs
namespace Go.Proofs.Ytdffkcbaijbhoaa.PFnExactCancelDue
open Go.RowKit Go.Proofs.YtdffkcbaijbhoaaW.PrintWords Go.Proofs.YtdffkcbaijbhoaaW.PrintLast Go.Proofs.YtdffkcbaijbhoaaW.PrintMore Go.Proofs.Ytdffkcbaijbhoaa.Giv Go.Proofs.Ytdffkcbaijbhoaa.Prs
attribute [local go_sem] max2_int min2_int max_two min_two max_three min_three max_four min_four   -- for this text's walks alone
set_option linter.unusedVariables false
set_option linter.unusedSimpArgs false

/-! ### laws_FnExactCancelDue: function 3 -/
mutual
def laws_FnExactCancelDue.j0:Nat→Int→Bool→Bool→Bool→List (S84)→Int→List (S56)→Int→List (S56)→Int→List (S56)→Int→Option (Bool)
 | 0,_,_,_,_,_,_,_,_,_,_,_,_=>none
 | k + 1,x1,x7,x10,x44,x268000,x268001,x279000,x279001,x284000,x284001,x290000,x290001=>if x44=true then (none) else ((laws_toHeap.f k x268000 x268001).bind fun bt291=>((laws_eqHeap.f k x284000 x284001 bt291.1 bt291.2).bind fun t295=>(if t295=true then ((laws_markHeap.f k x284000 x284001 1).bind fun bt296=>(if bt296.1 < 0 then (laws_FnExactCancelDue.j1 k x1 x7 true x268000 x268001 x279000 x279001 x290000 x290001) else ((laws_eqHeap.f k x290000 x290001 x279000 x279001).bind fun t298=>(if t298=true then (laws_FnExactCancelDue.j1 k x1 x7 (x10 != x7) x268000 x268001 x279000 x279001 x290000 x290001) else (laws_FnExactCancelDue.j1 k x1 x7 true x268000 x268001 x279000 x279001 x290000 x290001))))) else (none))))
def laws_FnExactCancelDue.j1:Nat→Int→Bool→Bool→List (S84)→Int→List (S56)→Int→List (S56)→Int→Option (Bool)
 | 0,_,_,_,_,_,_,_,_,_=>none
 | k + 1,x1,x7,x65,x268000,x268001,x279000,x279001,x290000,x290001=>if x65=true then (none) else ((laws_markHeap.f k x290000 x290001 1).bind fun bt299=>((laws_heldHeap.f k bt299.2 x290001 1).bind fun t301=>(if t301 < 0 then (none) else (if t301=bt299.1 then ((laws_toHeap.f k x268000 x268001).bind fun bt302=>((impl_CancelDue.f k bt302.1 bt302.2 x1).bind fun bt306=>((laws_eqHeap.f k bt306.1 bt306.2.1 x279000 x279001).bind fun t312=>(if t312=true then (laws_FnExactCancelDue.j2 k bt299.1 (bt306.2.2 != x7) bt299.2 x290001) else (laws_FnExactCancelDue.j2 k bt299.1 true bt299.2 x290001))))) else (none)))))
def laws_FnExactCancelDue.j2:Nat→Int→Bool→List (S56)→Int→Option (Bool)
 | 0,_,_,_,_=>none
 | k + 1,x12,x92,x290000,x290001=>if x92=true then (none) else ((laws_heldHeap.f k x290000 x290001 1).bind fun t313=>(if t313 < 0 then (none) else (if t313=x12 then (some true) else (none))))
end
def laws_FnExactCancelDue.f (k:Nat) (l0_0:List (S84)) (a0_1:Int) (a1:Int):Option (Bool):=(laws_szHeap.f l0_0 a0_1 1048576).bind fun t268=>(if t268 < 0 then (some true) else ((laws_toHeap.f k l0_0 a0_1).bind fun bt269=>((spec_CancelDue.f k bt269.1 bt269.2 a1).bind fun bt273=>((laws_toHeap.f k l0_0 a0_1).bind fun bt279=>((impl_CancelDue.f k bt279.1 bt279.2 a1).bind fun bt284=>((laws_eqHeap.f k bt284.1 bt284.2.1 bt273.1 bt273.2.1).bind fun t290=>(if t290=true then (laws_FnExactCancelDue.j0 k a1 bt273.2.2 bt284.2.2 (bt284.2.2 != bt273.2.2) l0_0 a0_1 bt273.1 bt273.2.1 bt279.1 bt279.2 bt284.1 bt284.2.1) else (laws_FnExactCancelDue.j0 k a1 bt273.2.2 bt284.2.2 true l0_0 a0_1 bt273.1 bt273.2.1 bt279.1 bt279.2 bt284.1 bt284.2.1))))))))
theorem laws_FnExactCancelDue.mono_l:∀ k,(∀ y0 y1 y2 y3 y4 y5 y6 y7 y8 y9 y10 y11,LeO (laws_FnExactCancelDue.j0 k y0 y1 y2 y3 y4 y5 y6 y7 y8 y9 y10 y11) (laws_FnExactCancelDue.j0 (k + 1) y0 y1 y2 y3 y4 y5 y6 y7 y8 y9 y10 y11))∧(∀ y0 y1 y2 y3 y4 y5 y6 y7 y8,LeO (laws_FnExactCancelDue.j1 k y0 y1 y2 y3 y4 y5 y6 y7 y8) (laws_FnExactCancelDue.j1 (k + 1) y0 y1 y2 y3 y4 y5 y6 y7 y8))∧(∀ y0 y1 y2 y3,LeO (laws_FnExactCancelDue.j2 k y0 y1 y2 y3) (laws_FnExactCancelDue.j2 (k + 1) y0 y1 y2 y3))
 | 0=>⟨fun _ _ _ _ _ _ _ _ _ _ _ _ r h=>by simp [laws_FnExactCancelDue.j0] at h,fun _ _ _ _ _ _ _ _ _ r h=>by simp [laws_FnExactCancelDue.j1] at h,fun _ _ _ _ r h=>by simp [laws_FnExactCancelDue.j2] at h⟩
 | k + 1=>by
  obtain ⟨ih0,ih1,ih2⟩:=laws_FnExactCancelDue.mono_l k
  refine ⟨?_,?_,?_⟩
  ·intro y0 y1 y2 y3 y4 y5 y6 y7 y8 y9 y10 y11
   unfold laws_FnExactCancelDue.j0
   repeat' first
   | (with_reducible exact ih0 _ _ _ _ _ _ _ _ _ _ _ _)
   | (with_reducible exact ih1 _ _ _ _ _ _ _ _ _)
   | (with_reducible exact ih2 _ _ _ _)
   | (with_reducible exact impl_CancelDue.mono _ _ _ _)
   | (with_reducible exact laws_eqHeap.mono _ _ _ _ _)
   | (with_reducible exact laws_heldHeap.mono _ _ _ _)
   | (with_reducible exact laws_markHeap.mono _ _ _ _)
   | (with_reducible exact laws_toHeap.mono _ _ _)
   | (with_reducible exact spec_CancelDue.mono _ _ _ _)
   | (with_reducible exact LeO.refl _)
   | (with_reducible exact LeO.none _)
   | (with_reducible refine LeO.ite ?_ ?_)
   | (with_reducible refine LeO.bind ?_ (fun _=>?_))
   | exact ih0 _ _ _ _ _ _ _ _ _ _ _ _
   | exact ih1 _ _ _ _ _ _ _ _ _
   | exact ih2 _ _ _ _
   | exact impl_CancelDue.mono _ _ _ _
   | exact laws_eqHeap.mono _ _ _ _ _
   | exact laws_heldHeap.mono _ _ _ _
   | exact laws_markHeap.mono _ _ _ _
   | exact laws_toHeap.mono _ _ _
   | exact spec_CancelDue.mono _ _ _ _
   | exact LeO.none _
   | refine LeO.ite ?_ ?_
   | refine LeO.bind ?_ (fun _=>?_)
  ·intro y0 y1 y2 y3 y4 y5 y6 y7 y8
   unfold laws_FnExactCancelDue.j1
   repeat' first
   | (with_reducible exact ih0 _ _ _ _ _ _ _ _ _ _ _ _)
   | (with_reducible exact ih1 _ _ _ _ _ _ _ _ _)
   | (with_reducible exact ih2 _ _ _ _)
   | (with_reducible exact impl_CancelDue.mono _ _ _ _)
   | (with_reducible exact laws_eqHeap.mono _ _ _ _ _)
   | (with_reducible exact laws_heldHeap.mono _ _ _ _)
   | (with_reducible exact laws_markHeap.mono _ _ _ _)
   | (with_reducible exact laws_toHeap.mono _ _ _)
   | (with_reducible exact spec_CancelDue.mono _ _ _ _)
   | (with_reducible exact LeO.refl _)
   | (with_reducible exact LeO.none _)
   | (with_reducible refine LeO.ite ?_ ?_)
   | (with_reducible refine LeO.bind ?_ (fun _=>?_))
   | exact ih0 _ _ _ _ _ _ _ _ _ _ _ _
   | exact ih1 _ _ _ _ _ _ _ _ _
   | exact ih2 _ _ _ _
   | exact impl_CancelDue.mono _ _ _ _
   | exact laws_eqHeap.mono _ _ _ _ _
   | exact laws_heldHeap.mono _ _ _ _
   | exact laws_markHeap.mono _ _ _ _
   | exact laws_toHeap.mono _ _ _
   | exact spec_CancelDue.mono _ _ _ _
   | exact LeO.none _
   | refine LeO.ite ?_ ?_
   | refine LeO.bind ?_ (fun _=>?_)
  ·intro y0 y1 y2 y3
   unfold laws_FnExactCancelDue.j2
   repeat' first
   | (with_reducible exact ih0 _ _ _ _ _ _ _ _ _ _ _ _)
   | (with_reducible exact ih1 _ _ _ _ _ _ _ _ _)
   | (with_reducible exact ih2 _ _ _ _)
   | (with_reducible exact impl_CancelDue.mono _ _ _ _)
   | (with_reducible exact laws_eqHeap.mono _ _ _ _ _)
   | (with_reducible exact laws_heldHeap.mono _ _ _ _)
   | (with_reducible exact laws_markHeap.mono _ _ _ _)
   | (with_reducible exact laws_toHeap.mono _ _ _)
   | (with_reducible exact spec_CancelDue.mono _ _ _ _)
   | (with_reducible exact LeO.refl _)
   | (with_reducible exact LeO.none _)
   | (with_reducible refine LeO.ite ?_ ?_)
   | (with_reducible refine LeO.bind ?_ (fun _=>?_))
   | exact ih0 _ _ _ _ _ _ _ _ _ _ _ _
   | exact ih1 _ _ _ _ _ _ _ _ _
   | exact ih2 _ _ _ _
   | exact impl_CancelDue.mono _ _ _ _
   | exact laws_eqHeap.mono _ _ _ _ _
   | exact laws_heldHeap.mono _ _ _ _
   | exact laws_markHeap.mono _ _ _ _
   | exact laws_toHeap.mono _ _ _
   | exact spec_CancelDue.mono _ _ _ _
   | exact LeO.none _
   | refine LeO.ite ?_ ?_
   | refine LeO.bind ?_ (fun _=>?_)
theorem laws_FnExactCancelDue.mono:∀ a0 a1 a2 k,LeO (laws_FnExactCancelDue.f k a0 a1 a2) (laws_FnExactCancelDue.f (k + 1) a0 a1 a2):=by
 intro a0 a1 a2 k
 obtain ⟨ih0,ih1,ih2⟩:=laws_FnExactCancelDue.mono_l k
 unfold laws_FnExactCancelDue.f
 repeat' first
   | (with_reducible exact ih0 _ _ _ _ _ _ _ _ _ _ _ _)
   | (with_reducible exact ih1 _ _ _ _ _ _ _ _ _)
   | (with_reducible exact ih2 _ _ _ _)
   | (with_reducible exact impl_CancelDue.mono _ _ _ _)
   | (with_reducible exact laws_eqHeap.mono _ _ _ _ _)
   | (with_reducible exact laws_heldHeap.mono _ _ _ _)
   | (with_reducible exact laws_markHeap.mono _ _ _ _)
   | (with_reducible exact laws_toHeap.mono _ _ _)
   | (with_reducible exact spec_CancelDue.mono _ _ _ _)
   | (with_reducible exact LeO.refl _)
   | (with_reducible exact LeO.none _)
   | (with_reducible refine LeO.ite ?_ ?_)
   | (with_reducible refine LeO.bind ?_ (fun _=>?_))
   | exact ih0 _ _ _ _ _ _ _ _ _ _ _ _
   | exact ih1 _ _ _ _ _ _ _ _ _
   | exact ih2 _ _ _ _
   | exact impl_CancelDue.mono _ _ _ _
   | exact laws_eqHeap.mono _ _ _ _ _
   | exact laws_heldHeap.mono _ _ _ _
   | exact laws_markHeap.mono _ _ _ _
   | exact laws_toHeap.mono _ _ _
   | exact spec_CancelDue.mono _ _ _ _
   | exact LeO.none _
   | refine LeO.ite ?_ ?_
   | refine LeO.bind ?_ (fun _=>?_)
set_option maxHeartbeats 8000000 in
set_option maxRecDepth 100000 in
theorem laws_FnExactCancelDue.calls (k:Nat) (A0_0:Option Addr) (c0_0:Nat) (l0_0:List (S84)) (a0_1:Int) (a1:Int) (r:Bool) (w:World) (hr0_0:Kd.C k84 w A0_0 l0_0.length l0_0) (hc0_0:l0_0.length≤c0_0) (h:laws_FnExactCancelDue.f k l0_0 a0_1 a1=some r) :
  Calls Try.prog 3 #[.agg #[.slice A0_0 l0_0.length c0_0,.int .i64 a0_1],.int .i64 a1] w fun e w'=>e = .returned (.bool r)∧Below w.heap.size w w':=by
 have hu24:=Try.underlying24
 have hu28:=Try.underlying28
 have HR0_0:=Aside0.mk hr0_0
 have HC0_0:=Aside0.mk hc0_0
 clear hr0_0 hc0_0
 have HB:=Aside0.mk (Below.refl w.heap.size w)
 have H:((laws_szHeap.f l0_0 a0_1 1048576).bind fun t268=>(if t268 < 0 then (some true) else ((laws_toHeap.f k l0_0 a0_1).bind fun bt269=>((spec_CancelDue.f k bt269.1 bt269.2 a1).bind fun bt273=>((laws_toHeap.f k l0_0 a0_1).bind fun bt279=>((impl_CancelDue.f k bt279.1 bt279.2 a1).bind fun bt284=>((laws_eqHeap.f k bt284.1 bt284.2.1 bt273.1 bt273.2.1).bind fun t290=>(if t290=true then (laws_FnExactCancelDue.j0 k a1 bt273.2.2 bt284.2.2 (bt284.2.2 != bt273.2.2) l0_0 a0_1 bt273.1 bt273.2.1 bt279.1 bt279.2 bt284.1 bt284.2.1) else (laws_FnExactCancelDue.j0 k a1 bt273.2.2 bt284.2.2 true l0_0 a0_1 bt273.1 bt273.2.1 bt279.1 bt279.2 bt284.1 bt284.2.1)))))))))=some r:=h
 clear h
 replace H:=Option.bind_eq_some_iff.mp H
 obtain ⟨t268,A30,H⟩:=H
 have A3:=Aside0.mk A30
 clear A30
 by_cases c4:t268 < 0
 ·rw [if_pos c4] at H
  have c4b0:decide (t268 < 0)=true:=decide_eq_true c4
  clear c4
  obtain rfl:=Option.some.inj H
  go_enter Try.func3,Try.ntmps3
  go_wp2_with (first|((with_reducible refine gate_dst (N:=2) rfl ?_);refine bx 2 #[.slice A0_0 l0_0.length c0_0,.int .i64 a0_1] 24 ?_;intro gb267 hg w5 hbox hb;have BK267:=Aside0.mk (hbox);have GW267:=Aside0.mk (bz hg:w.heap.size≤gb267);have GE267:=GW267;replace HB:=Aside0.mk (below_step bl hb);clear hb hbox hg;obtain ⟨hcz6_0,hcz6_1,hfz6_0,hfz6_1⟩:=ck2 BK267.out)|((with_reducible refine gate_callee (f:=9) rfl ?_);refine gl (some 18) Try.func9 #[.agg #[.slice A0_0 l0_0.length c0_0,.int .i64 a0_1],.int .i64 1048576] ?_;(with_reducible refine (laws_szHeap.calls _ _ l0_0 a0_1 1048576 t268 _ ?side1 ?side2 A3.out).mono ?_);(case side1=>exact kc HR0_0);(case side2=>exact HC0_0.out);rintro e w7 ⟨rfl,hb⟩;refine ⟨_,rfl,?_⟩;replace BK267:=Aside0.mk (blk_below (bk BK267) hb);replace HB:=Aside0.mk (below_step bl hb);(try clear hb);(try clear hb2);(try clear hk);(try clear hi)))
  go_ret
  exact ⟨er,bl⟩
 ·rw [if_neg c4] at H
  have c4b0:decide (t268 < 0)=false:=decide_eq_false c4
  clear c4
  replace H:=Option.bind_eq_some_iff.mp H
  obtain ⟨⟨t269,t272⟩,A80,H⟩:=H
  replace H:((spec_CancelDue.f k t269 t272 a1).bind fun bt273=>((laws_toHeap.f k l0_0 a0_1).bind fun bt279=>((impl_CancelDue.f k bt279.1 bt279.2 a1).bind fun bt284=>((laws_eqHeap.f k bt284.1 bt284.2.1 bt273.1 bt273.2.1).bind fun t290=>(if t290=true then (laws_FnExactCancelDue.j0 k a1 bt273.2.2 bt284.2.2 (bt284.2.2 != bt273.2.2) l0_0 a0_1 bt273.1 bt273.2.1 bt279.1 bt279.2 bt284.1 bt284.2.1) else (laws_FnExactCancelDue.j0 k a1 bt273.2.2 bt284.2.2 true l0_0 a0_1 bt273.1 bt273.2.1 bt279.1 bt279.2 bt284.1 bt284.2.1))))))=some r:=H
  have A8:=Aside0.mk A80
  clear A80
  replace H:=Option.bind_eq_some_iff.mp H
  obtain ⟨⟨t273,t276,t277⟩,A90,H⟩:=H
  replace H:((laws_toHeap.f k l0_0 a0_1).bind fun bt279=>((impl_CancelDue.f k bt279.1 bt279.2 a1).bind fun bt284=>((laws_eqHeap.f k bt284.1 bt284.2.1 t273 t276).bind fun t290=>(if t290=true then (laws_FnExactCancelDue.j0 k a1 t277 bt284.2.2 (bt284.2.2 != t277) l0_0 a0_1 t273 t276 bt279.1 bt279.2 bt284.1 bt284.2.1) else (laws_FnExactCancelDue.j0 k a1 t277 bt284.2.2 true l0_0 a0_1 t273 t276 bt279.1 bt279.2 bt284.1 bt284.2.1)))))=some r:=H
  have A9:=Aside0.mk A90
  clear A90
  replace H:=Option.bind_eq_some_iff.mp H
  obtain ⟨⟨t279,t282⟩,A100,H⟩:=H
  replace H:((impl_CancelDue.f k t279 t282 a1).bind fun bt284=>((laws_eqHeap.f k bt284.1 bt284.2.1 t273 t276).bind fun t290=>(if t290=true then (laws_FnExactCancelDue.j0 k a1 t277 bt284.2.2 (bt284.2.2 != t277) l0_0 a0_1 t273 t276 t279 t282 bt284.1 bt284.2.1) else (laws_FnExactCancelDue.j0 k a1 t277 bt284.2.2 true l0_0 a0_1 t273 t276 t279 t282 bt284.1 bt284.2.1))))=some r:=H
  have A10:=Aside0.mk A100
  clear A100
  replace H:=Option.bind_eq_some_iff.mp H
  obtain ⟨⟨t284,t287,t288⟩,A110,H⟩:=H
  replace H:((laws_eqHeap.f k t284 t287 t273 t276).bind fun t290=>(if t290=true then (laws_FnExactCancelDue.j0 k a1 t277 t288 (t288 != t277) l0_0 a0_1 t273 t276 t279 t282 t284 t287) else (laws_FnExactCancelDue.j0 k a1 t277 t288 true l0_0 a0_1 t273 t276 t279 t282 t284 t287)))=some r:=H
  have A11:=Aside0.mk A110
  clear A110
  have HC12:=Aside0.mk H
  clear H
  go_enter Try.func3,Try.ntmps3
  go_upto_region 8 with (first|((with_reducible refine gate_dst (N:=2) rfl ?_);refine bx 2 #[.slice A0_0 l0_0.length c0_0,.int .i64 a0_1] 24 ?_;intro gb267 hg w13 hbox hb;have BK267:=Aside0.mk (hbox);have GW267:=Aside0.mk (bz hg:w.heap.size≤gb267);have GE267:=GW267;replace HB:=Aside0.mk (below_step bl hb);clear hb hbox hg;obtain ⟨hcz14_0,hcz14_1,hfz14_0,hfz14_1⟩:=ck2 BK267.out)|((with_reducible refine gate_callee (f:=9) rfl ?_);refine gl (some 18) Try.func9 #[.agg #[.slice A0_0 l0_0.length c0_0,.int .i64 a0_1],.int .i64 1048576] ?_;(with_reducible refine (laws_szHeap.calls _ _ l0_0 a0_1 1048576 t268 _ ?side1 ?side2 A3.out).mono ?_);(case side1=>exact kc HR0_0);(case side2=>exact HC0_0.out);rintro e w15 ⟨rfl,hb⟩;refine ⟨_,rfl,?_⟩;replace BK267:=Aside0.mk (blk_below (bk BK267) hb);replace HB:=Aside0.mk (below_step bl hb);(try clear hb);(try clear hb2);(try clear hk);(try clear hi);obtain ⟨hcz16_0,hcz16_1,hfz16_0,hfz16_1⟩:=ck2 BK267.out)|((with_reducible refine gate_callee (f:=11) rfl ?_);refine gl (some 23) Try.func11 #[.agg #[.slice A0_0 l0_0.length c0_0,.int .i64 a0_1]] ?_;(with_reducible refine (laws_toHeap.calls k _ _ l0_0 a0_1 t269 t272 _ ?side1 ?side2 A8.out).mono ?_);(case side1=>exact kc HR0_0);(case side2=>exact HC0_0.out);rintro e w17 ⟨v270,rfl,ho0,hb⟩;refine ⟨_,rfl,?_⟩;have HO271:=Aside0.mk (Kd.R_lower ho0 (below_size bl));replace BK267:=Aside0.mk (blk_below (bk BK267) hb);replace HB:=Aside0.mk (below_step bl hb);(try clear hb);(try clear hb2);(try clear hk);(try clear hi);(try clear ho0);obtain ⟨Ao18,co18,eo18⟩:=Kd.R_slice HO271.out;subst eo18)|((with_reducible refine gate_callee (f:=10) rfl ?_);refine gl (some 25) Try.func10 #[.agg #[.slice Ao18 t269.length co18,.int .i64 t272],.int .i64 a1] ?_;(with_reducible refine (spec_CancelDue.calls k _ _ t269 t272 a1 t273 t276 t277 _ ?side1 ?side2 A9.out).mono ?_);(case side1=>repeat (first|exact (Kd.R_reads' HO271.out).2.2|(with_reducible refine Kd.C_alloc ?_ _)|(with_reducible refine Kd.C_drewN ?_ _)|(with_reducible refine Kd.C_drew ?_)));(case side2=>exact (Kd.R_reads' HO271.out).2.1);rintro e w19 ⟨v274,rfl,ho0,hb⟩;refine ⟨_,rfl,?_⟩;have HO275:=Aside0.mk (Kd.R_lower (Kd.R_new' ho0 (Kd.R_lt (kr HO271))) (below_size bl));replace HO271:=Aside0.mk (Kd.R_elder' (kr HO271) (Kd.R_base ho0) hb);replace BK267:=Aside0.mk (blk_below (bk BK267) hb);replace HB:=Aside0.mk (below_step bl hb);(try clear hb);(try clear hb2);(try clear hk);(try clear hi);(try clear ho0))|((with_reducible refine gate_dst (N:=6) rfl ?_);refine bx 6 #[.slice none 0 0,.int .i64 0] 28 ?_;intro gb278 hg w20 hbox hb;replace HO271:=Aside0.mk (Kd.R_below (kr HO271) hb);replace HO275:=Aside0.mk (Kd.R_below (kr HO275) hb);have BK278:=Aside0.mk (hbox);have GW278:=Aside0.mk (bz hg:w.heap.size≤gb278);have GE278:=GW278;replace HB:=Aside0.mk (below_step bl hb);have NB267_278:=Aside0.mk (nl hg BK267:gb267≠gb278);have NB278_267:=Aside0.mk (nr hg BK267:gb278≠gb267);replace BK267:=Aside0.mk (blk_below (bk BK267) hb);clear hb hbox hg;obtain ⟨Ao21,co21,eo21⟩:=Kd.R_slice HO275.out;subst eo21;have hnb22:=NB278_267.out;have hnc22:=NB267_278.out;obtain ⟨hcz23_0,hcz23_1,hfz23_0,hfz23_1⟩:=ck2 BK278.out;obtain ⟨hcz24_0,hcz24_1,hfz24_0,hfz24_1⟩:=ck2 BK267.out)|((with_reducible refine gate_callee (f:=11) rfl ?_);refine gl (some 29) Try.func11 #[.agg #[.slice A0_0 l0_0.length c0_0,.int .i64 a0_1]] ?_;(with_reducible refine (laws_toHeap.calls k _ _ l0_0 a0_1 t279 t282 _ ?side1 ?side2 A10.out).mono ?_);(case side1=>exact Kd.C_below HR0_0.out bl);(case side2=>exact HC0_0.out);rintro e w25 ⟨v280,rfl,ho0,hb⟩;refine ⟨_,rfl,?_⟩;have HO281:=Aside0.mk (Kd.R_lower (Kd.R_new' (Kd.R_new' ho0 (Kd.R_lt (by (with_reducible repeat (first|apply Kd.R_alloc|apply Kd.R_drewN|apply Kd.R_drew));exact (Kd.R_mono (Kd.R_far (p:=⟨gb278,1,none⟩) (Kd.R_far (p:=⟨gb278,0,none⟩) (Kd.R_types HO271.out BK278.out (by decide)) (fun _ hk=>hk.2) (.slice Ao21 t273.length co21)) (fun _ hk=>hk.2) (.int .i64 t276)) (fun _ h_=>h_.1))))) (Kd.R_lt (by (with_reducible repeat (first|apply Kd.R_alloc|apply Kd.R_drewN|apply Kd.R_drew));exact (Kd.R_mono (Kd.R_far (p:=⟨gb278,1,none⟩) (Kd.R_far (p:=⟨gb278,0,none⟩) (Kd.R_types HO275.out BK278.out (by decide)) (fun _ hk=>hk.2) (.slice Ao21 t273.length co21)) (fun _ hk=>hk.2) (.int .i64 t276)) (fun _ h_=>h_.1))))) (below_size bl));replace HO271:=Aside0.mk (Kd.R_elder' (by (with_reducible repeat (first|apply Kd.R_alloc|apply Kd.R_drewN|apply Kd.R_drew));exact (Kd.R_mono (Kd.R_far (p:=⟨gb278,1,none⟩) (Kd.R_far (p:=⟨gb278,0,none⟩) (Kd.R_types HO271.out BK278.out (by decide)) (fun _ hk=>hk.2) (.slice Ao21 t273.length co21)) (fun _ hk=>hk.2) (.int .i64 t276)) (fun _ h_=>h_.1))) (Kd.R_base ho0) hb);replace HO275:=Aside0.mk (Kd.R_elder' (by (with_reducible repeat (first|apply Kd.R_alloc|apply Kd.R_drewN|apply Kd.R_drew));exact (Kd.R_mono (Kd.R_far (p:=⟨gb278,1,none⟩) (Kd.R_far (p:=⟨gb278,0,none⟩) (Kd.R_types HO275.out BK278.out (by decide)) (fun _ hk=>hk.2) (.slice Ao21 t273.length co21)) (fun _ hk=>hk.2) (.int .i64 t276)) (fun _ h_=>h_.1))) (Kd.R_base ho0) hb);replace BK267:=Aside0.mk (blk_below (g:=gb267) (o:=.cells #[.slice A0_0 l0_0.length c0_0,.int .i64 a0_1] 24 (0,0)) (bf BK267) hb);replace BK278:=Aside0.mk (blk_below (g:=gb278) (o:=.cells #[.slice Ao21 t273.length co21,.int .i64 t276] 28 (0,0)) (by (with_reducible repeat (first|refine blk_drewN ?_ _|refine blk_drew ?_|refine blk_alloc ?_ _));refine blk_put (cs:=#[.slice Ao21 t273.length co21,.int .i64 0]) ?_ 1 _ rfl;(with_reducible repeat (first|refine blk_drewN ?_ _|refine blk_drew ?_|refine blk_alloc ?_ _));refine blk_put (cs:=#[.slice none 0 0,.int .i64 0]) ?_ 0 _ rfl;(with_reducible repeat (first|refine blk_drewN ?_ _|refine blk_drew ?_|refine blk_alloc ?_ _));exact BK278.out) hb);replace HB:=Aside0.mk (below_step bl hb);(try clear hb);(try clear hb2);(try clear hk);(try clear hi);(try clear ho0))|((with_reducible refine gate_dst (N:=8) rfl ?_);refine bx 8 #[.slice none 0 0,.int .i64 0] 28 ?_;intro gb283 hg w26 hbox hb;replace HO271:=Aside0.mk (Kd.R_below (kr HO271) hb);replace HO275:=Aside0.mk (Kd.R_below (kr HO275) hb);replace HO281:=Aside0.mk (Kd.R_below (kr HO281) hb);have BK283:=Aside0.mk (hbox);have GW283:=Aside0.mk (bz hg:w.heap.size≤gb283);have GE283:=GW283;replace HB:=Aside0.mk (below_step bl hb);have NB267_283:=Aside0.mk (nl hg BK267:gb267≠gb283);have NB283_267:=Aside0.mk (nr hg BK267:gb283≠gb267);replace BK267:=Aside0.mk (blk_below (bk BK267) hb);have NB278_283:=Aside0.mk (nl hg BK278:gb278≠gb283);have NB283_278:=Aside0.mk (nr hg BK278:gb283≠gb278);replace BK278:=Aside0.mk (blk_below (bk BK278) hb);clear hb hbox hg;obtain ⟨Ao27,co27,eo27⟩:=Kd.R_slice HO281.out;subst eo27;have hnb28:=NB283_267.out;have hnc28:=NB267_283.out;have hnb29:=NB283_278.out;have hnc29:=NB278_283.out;obtain ⟨hcz30_0,hcz30_1,hfz30_0,hfz30_1⟩:=ck2 BK283.out)|((with_reducible refine gate_callee (f:=12) rfl ?_);refine gl (some 33) Try.func12 #[.agg #[.slice Ao27 t279.length co27,.int .i64 t282],.int .i64 a1] ?_;(with_reducible refine (impl_CancelDue.calls k _ _ t279 t282 a1 t284 t287 t288 _ ?side1 ?side2 A11.out).mono ?_);(case side1=>refine (Kd.R_reads' (e:=56) (base:=w.heap.size) (ok:=fun k_=>((True∧some k_≠(.slice Ao18 t269.length co18:Value).ownBlock)∧some k_≠(.slice Ao21 t273.length co21:Value).ownBlock)) (n:=t279.length) (c:=co27) ?_).2.2;exact (by (with_reducible repeat (first|apply Kd.R_alloc|apply Kd.R_drewN|apply Kd.R_drew));exact (Kd.R_mono (Kd.R_far (p:=⟨gb283,1,none⟩) (Kd.R_far (p:=⟨gb283,0,none⟩) (Kd.R_types HO281.out BK283.out (by decide)) (fun _ hk=>hk.2) (.slice Ao27 t279.length co27)) (fun _ hk=>hk.2) (.int .i64 t282)) (fun _ h_=>h_.1))));(case side2=>exact (Kd.R_reads' HO281.out).2.1);rintro e w31 ⟨v285,rfl,ho0,hb⟩;refine ⟨_,rfl,?_⟩;have HO286:=Aside0.mk (Kd.R_lower (Kd.R_new' (Kd.R_new' (Kd.R_new' ho0 (Kd.R_lt (by (with_reducible repeat (first|apply Kd.R_alloc|apply Kd.R_drewN|apply Kd.R_drew));exact (Kd.R_mono (Kd.R_far (p:=⟨gb283,1,none⟩) (Kd.R_far (p:=⟨gb283,0,none⟩) (Kd.R_types HO271.out BK283.out (by decide)) (fun _ hk=>hk.2) (.slice Ao27 t279.length co27)) (fun _ hk=>hk.2) (.int .i64 t282)) (fun _ h_=>h_.1))))) (Kd.R_lt (by (with_reducible repeat (first|apply Kd.R_alloc|apply Kd.R_drewN|apply Kd.R_drew));exact (Kd.R_mono (Kd.R_far (p:=⟨gb283,1,none⟩) (Kd.R_far (p:=⟨gb283,0,none⟩) (Kd.R_types HO275.out BK283.out (by decide)) (fun _ hk=>hk.2) (.slice Ao27 t279.length co27)) (fun _ hk=>hk.2) (.int .i64 t282)) (fun _ h_=>h_.1))))) (Kd.R_lt (by (with_reducible repeat (first|apply Kd.R_alloc|apply Kd.R_drewN|apply Kd.R_drew));exact (Kd.R_mono (Kd.R_far (p:=⟨gb283,1,none⟩) (Kd.R_far (p:=⟨gb283,0,none⟩) (Kd.R_types HO281.out BK283.out (by decide)) (fun _ hk=>hk.2) (.slice Ao27 t279.length co27)) (fun _ hk=>hk.2) (.int .i64 t282)) (fun _ h_=>h_.1))))) (below_size bl));replace HO271:=Aside0.mk (Kd.R_elder' (by (with_reducible repeat (first|apply Kd.R_alloc|apply Kd.R_drewN|apply Kd.R_drew));exact (Kd.R_mono (Kd.R_far (p:=⟨gb283,1,none⟩) (Kd.R_far (p:=⟨gb283,0,none⟩) (Kd.R_types HO271.out BK283.out (by decide)) (fun _ hk=>hk.2) (.slice Ao27 t279.length co27)) (fun _ hk=>hk.2) (.int .i64 t282)) (fun _ h_=>h_.1))) (Kd.R_base ho0) hb);replace HO275:=Aside0.mk (Kd.R_elder' (by (with_reducible repeat (first|apply Kd.R_alloc|apply Kd.R_drewN|apply Kd.R_drew));exact (Kd.R_mono (Kd.R_far (p:=⟨gb283,1,none⟩) (Kd.R_far (p:=⟨gb283,0,none⟩) (Kd.R_types HO275.out BK283.out (by decide)) (fun _ hk=>hk.2) (.slice Ao27 t279.length co27)) (fun _ hk=>hk.2) (.int .i64 t282)) (fun _ h_=>h_.1))) (Kd.R_base ho0) hb);replace HO281:=Aside0.mk (Kd.R_elder' (by (with_reducible repeat (first|apply Kd.R_alloc|apply Kd.R_drewN|apply Kd.R_drew));exact (Kd.R_mono (Kd.R_far (p:=⟨gb283,1,none⟩) (Kd.R_far (p:=⟨gb283,0,none⟩) (Kd.R_types HO281.out BK283.out (by decide)) (fun _ hk=>hk.2) (.slice Ao27 t279.length co27)) (fun _ hk=>hk.2) (.int .i64 t282)) (fun _ h_=>h_.1))) (Kd.R_base ho0) hb);replace BK267:=Aside0.mk (blk_below (g:=gb267) (o:=.cells #[.slice A0_0 l0_0.length c0_0,.int .i64 a0_1] 24 (0,0)) (bf BK267) hb);replace BK278:=Aside0.mk (blk_below (g:=gb278) (o:=.cells #[.slice Ao21 t273.length co21,.int .i64 t276] 28 (0,0)) (bf BK278) hb);replace BK283:=Aside0.mk (blk_below (g:=gb283) (o:=.cells #[.slice Ao27 t279.length co27,.int .i64 t282] 28 (0,0)) (by (with_reducible repeat (first|refine blk_drewN ?_ _|refine blk_drew ?_|refine blk_alloc ?_ _));refine blk_put (cs:=#[.slice Ao27 t279.length co27,.int .i64 0]) ?_ 1 _ rfl;(with_reducible repeat (first|refine blk_drewN ?_ _|refine blk_drew ?_|refine blk_alloc ?_ _));refine blk_put (cs:=#[.slice none 0 0,.int .i64 0]) ?_ 0 _ rfl;(with_reducible repeat (first|refine blk_drewN ?_ _|refine blk_drew ?_|refine blk_alloc ?_ _));exact BK283.out) hb);replace HB:=Aside0.mk (below_step bl hb);(try clear hb);(try clear hb2);(try clear hk);(try clear hi);(try clear ho0))|((with_reducible refine gate_dst (N:=9) rfl ?_);refine bx 9 #[.slice none 0 0,.int .i64 0] 28 ?_;intro gb289 hg w32 hbox hb;replace HO271:=Aside0.mk (Kd.R_below (kr HO271) hb);replace HO275:=Aside0.mk (Kd.R_below (kr HO275) hb);replace HO281:=Aside0.mk (Kd.R_below (kr HO281) hb);replace HO286:=Aside0.mk (Kd.R_below (kr HO286) hb);have BK289:=Aside0.mk (hbox);have GW289:=Aside0.mk (bz hg:w.heap.size≤gb289);have GE289:=GW289;replace HB:=Aside0.mk (below_step bl hb);have NB267_289:=Aside0.mk (nl hg BK267:gb267≠gb289);have NB289_267:=Aside0.mk (nr hg BK267:gb289≠gb267);replace BK267:=Aside0.mk (blk_below (bk BK267) hb);have NB278_289:=Aside0.mk (nl hg BK278:gb278≠gb289);have NB289_278:=Aside0.mk (nr hg BK278:gb289≠gb278);replace BK278:=Aside0.mk (blk_below (bk BK278) hb);have NB283_289:=Aside0.mk (nl hg BK283:gb283≠gb289);have NB289_283:=Aside0.mk (nr hg BK283:gb289≠gb283);replace BK283:=Aside0.mk (blk_below (bk BK283) hb);clear hb hbox hg;obtain ⟨Ao33,co33,eo33⟩:=Kd.R_slice HO286.out;subst eo33;have hnb34:=NB289_267.out;have hnc34:=NB267_289.out;have hnb35:=NB289_278.out;have hnc35:=NB278_289.out;have hnb36:=NB289_283.out;have hnc36:=NB283_289.out;obtain ⟨hcz37_0,hcz37_1,hfz37_0,hfz37_1⟩:=ck2 BK289.out))
  (try simp only [Act.put,List.setIfInBounds_toArray,List.set_cons_zero,List.set_cons_succ])
  go_cut [44] (fun v44 wc=>∃ (kq:Nat) (x44_11:Bool),v44 = .bool x44_11∧Aside0 (laws_FnExactCancelDue.j0 kq a1 t277 t288 x44_11 l0_0 a0_1 t273 t276 t279 t282 t284 t287=some r)∧Aside0 (kq≤k)∧Aside0 (Kd.R k56 56 wc w.heap.size (fun k_=>some k_≠((.slice Ao27 t279.length co27):Value).ownBlock∧some k_≠((.slice Ao33 t284.length co33):Value).ownBlock) (.slice Ao21 t273.length co21) t273)∧Aside0 (Kd.R k56 56 wc w.heap.size (fun k_=>some k_≠((.slice Ao21 t273.length co21):Value).ownBlock∧some k_≠((.slice Ao33 t284.length co33):Value).ownBlock) (.slice Ao27 t279.length co27) t279)∧Aside0 (Kd.R k56 56 wc w.heap.size (fun k_=>some k_≠((.slice Ao21 t273.length co21):Value).ownBlock∧some k_≠((.slice Ao27 t279.length co27):Value).ownBlock) (.slice Ao33 t284.length co33) t284)∧Aside0 (wc.heap[gb267]? = some (.cells #[(.slice A0_0 l0_0.length c0_0),.int .i64 a0_1] 24 (0,0)))∧Aside0 (wc.heap[gb278]? = some (.cells #[(.slice Ao21 t273.length co21),.int .i64 t276] 28 (0,0)))∧Aside0 (wc.heap[gb283]? = some (.cells #[(.slice Ao27 t279.length co27),.int .i64 t282] 28 (0,0)))∧Aside0 (wc.heap[gb289]? = some (.cells #[(.slice Ao33 t284.length co33),.int .i64 t287] 28 (0,0)))∧Aside0 (Below w.heap.size w wc))
  case first =>
   have H:=HC12.out
   clear HC12
   replace H:=Option.bind_eq_some_iff.mp H
   obtain ⟨t290,A380,H⟩:=H
   have A38:=Aside0.mk A380
   clear A380
   by_cases c39:t290=true
   ·subst c39
    rw [if_pos rfl] at H
    have H':=Aside0.mk H
    clear H
    have hnb40:=NB289_267.out
    have hnc40:=NB267_289.out
    have hnb41:=NB289_278.out
    have hnc41:=NB278_289.out
    have hnb42:=NB289_283.out
    have hnc42:=NB283_289.out
    obtain ⟨hcz43_0,hcz43_1,hfz43_0,hfz43_1⟩:=ck2 BK289.out
    have hnb44:=NB278_267.out
    have hnc44:=NB267_278.out
    have hnb45:=NB278_283.out
    have hnc45:=NB283_278.out
    obtain ⟨hcz46_0,hcz46_1,hfz46_0,hfz46_1⟩:=ck2 BK278.out
    go_wp2_with (first|((with_reducible refine gate_callee (f:=13) rfl ?_);refine gl (some 38) Try.func13 #[.agg #[.slice Ao33 t284.length co33,.int .i64 t287],.agg #[.slice Ao21 t273.length co21,.int .i64 t276]] ?_;(with_reducible refine (laws_eqHeap.calls k _ _ t284 t287 _ _ t273 t276 true _ ?side1 ?side2 ?side3 ?side4 A38.out).mono ?_);(case side1=>refine (Kd.R_reads' (e:=56) (base:=w.heap.size) (ok:=fun k_=>(((True∧some k_≠(.slice Ao18 t269.length co18:Value).ownBlock)∧some k_≠(.slice Ao21 t273.length co21:Value).ownBlock)∧some k_≠(.slice Ao27 t279.length co27:Value).ownBlock)) (n:=t284.length) (c:=co33) ?_).2.2;exact (by (with_reducible repeat (first|apply Kd.R_alloc|apply Kd.R_drewN|apply Kd.R_drew));exact (Kd.R_mono (Kd.R_far (p:=⟨gb289,1,none⟩) (Kd.R_far (p:=⟨gb289,0,none⟩) (Kd.R_types HO286.out BK289.out (by decide)) (fun _ hk=>hk.2) (.slice Ao33 t284.length co33)) (fun _ hk=>hk.2) (.int .i64 t287)) (fun _ h_=>h_.1))));(case side2=>exact (Kd.R_reads' HO286.out).2.1);(case side3=>refine (Kd.R_reads' (e:=56) (base:=w.heap.size) (ok:=fun k_=>(((True∧some k_≠(.slice Ao18 t269.length co18:Value).ownBlock)∧some k_≠(.slice Ao27 t279.length co27:Value).ownBlock)∧some k_≠(.slice Ao33 t284.length co33:Value).ownBlock)) (n:=t273.length) (c:=co21) ?_).2.2;exact (by (with_reducible repeat (first|apply Kd.R_alloc|apply Kd.R_drewN|apply Kd.R_drew));exact (Kd.R_mono (Kd.R_far (p:=⟨gb289,1,none⟩) (Kd.R_far (p:=⟨gb289,0,none⟩) (Kd.R_types HO275.out BK289.out (by decide)) (fun _ hk=>hk.2) (.slice Ao33 t284.length co33)) (fun _ hk=>hk.2) (.int .i64 t287)) (fun _ h_=>h_.1))));(case side4=>exact (Kd.R_reads' HO275.out).2.1);rintro e w47 ⟨rfl,hb⟩;refine ⟨_,rfl,?_⟩;replace HO271:=Aside0.mk (Kd.R_below (by (with_reducible repeat (first|apply Kd.R_alloc|apply Kd.R_drewN|apply Kd.R_drew));exact (Kd.R_mono (Kd.R_far (p:=⟨gb289,1,none⟩) (Kd.R_far (p:=⟨gb289,0,none⟩) (Kd.R_types HO271.out BK289.out (by decide)) (fun _ hk=>hk.2) (.slice Ao33 t284.length co33)) (fun _ hk=>hk.2) (.int .i64 t287)) (fun _ h_=>h_.1))) hb);replace HO275:=Aside0.mk (Kd.R_below (by (with_reducible repeat (first|apply Kd.R_alloc|apply Kd.R_drewN|apply Kd.R_drew));exact (Kd.R_mono (Kd.R_far (p:=⟨gb289,1,none⟩) (Kd.R_far (p:=⟨gb289,0,none⟩) (Kd.R_types HO275.out BK289.out (by decide)) (fun _ hk=>hk.2) (.slice Ao33 t284.length co33)) (fun _ hk=>hk.2) (.int .i64 t287)) (fun _ h_=>h_.1))) hb);replace HO281:=Aside0.mk (Kd.R_below (by (with_reducible repeat (first|apply Kd.R_alloc|apply Kd.R_drewN|apply Kd.R_drew));exact (Kd.R_mono (Kd.R_far (p:=⟨gb289,1,none⟩) (Kd.R_far (p:=⟨gb289,0,none⟩) (Kd.R_types HO281.out BK289.out (by decide)) (fun _ hk=>hk.2) (.slice Ao33 t284.length co33)) (fun _ hk=>hk.2) (.int .i64 t287)) (fun _ h_=>h_.1))) hb);replace HO286:=Aside0.mk (Kd.R_below (by (with_reducible repeat (first|apply Kd.R_alloc|apply Kd.R_drewN|apply Kd.R_drew));exact (Kd.R_mono (Kd.R_far (p:=⟨gb289,1,none⟩) (Kd.R_far (p:=⟨gb289,0,none⟩) (Kd.R_types HO286.out BK289.out (by decide)) (fun _ hk=>hk.2) (.slice Ao33 t284.length co33)) (fun _ hk=>hk.2) (.int .i64 t287)) (fun _ h_=>h_.1))) hb);replace BK267:=Aside0.mk (blk_below (g:=gb267) (o:=.cells #[.slice A0_0 l0_0.length c0_0,.int .i64 a0_1] 24 (0,0)) (bf BK267) hb);replace BK278:=Aside0.mk (blk_below (g:=gb278) (o:=.cells #[.slice Ao21 t273.length co21,.int .i64 t276] 28 (0,0)) (bf BK278) hb);replace BK283:=Aside0.mk (blk_below (g:=gb283) (o:=.cells #[.slice Ao27 t279.length co27,.int .i64 t282] 28 (0,0)) (bf BK283) hb);replace BK289:=Aside0.mk (blk_below (g:=gb289) (o:=.cells #[.slice Ao33 t284.length co33,.int .i64 t287] 28 (0,0)) (by (with_reducible repeat (first|refine blk_drewN ?_ _|refine blk_drew ?_|refine blk_alloc ?_ _));refine blk_put (cs:=#[.slice Ao33 t284.length co33,.int .i64 0]) ?_ 1 _ rfl;(with_reducible repeat (first|refine blk_drewN ?_ _|refine blk_drew ?_|refine blk_alloc ?_ _));refine blk_put (cs:=#[.slice none 0 0,.int .i64 0]) ?_ 0 _ rfl;(with_reducible repeat (first|refine blk_drewN ?_ _|refine blk_drew ?_|refine blk_alloc ?_ _));exact BK289.out) hb);replace HB:=Aside0.mk (below_step bl hb);(try clear hb);(try clear hb2);(try clear hk);(try clear hi)))
    go_meet
    case rel=>exact ⟨_,((t288 != t277)),(by first|rfl|(simp;done)|(simp [*];done)),H',⟨by first|omega|exact Nat.le_refl _⟩,⟨by (with_reducible repeat (first|apply Kd.R_alloc|apply Kd.R_drewN|apply Kd.R_drew));exact Kd.R_mono HO275.out (fun _ hk=>⟨hk.1.2,hk.2⟩)⟩,⟨by (with_reducible repeat (first|apply Kd.R_alloc|apply Kd.R_drewN|apply Kd.R_drew));exact Kd.R_mono HO281.out (fun _ hk=>⟨hk.1.2,hk.2⟩)⟩,⟨by (with_reducible repeat (first|apply Kd.R_alloc|apply Kd.R_drewN|apply Kd.R_drew));exact Kd.R_mono HO286.out (fun _ hk=>⟨hk.1.2,hk.2⟩)⟩,⟨bk BK267⟩,⟨bk BK278⟩,⟨bk BK283⟩,⟨bk BK289⟩,⟨bl⟩⟩
   ·replace c39:=Bool.eq_false_iff.mpr c39
    subst c39
    rw [if_neg nft] at H
    have H':=Aside0.mk H
    clear H
    have hnb48:=NB289_267.out
    have hnc48:=NB267_289.out
    have hnb49:=NB289_278.out
    have hnc49:=NB278_289.out
    have hnb50:=NB289_283.out
    have hnc50:=NB283_289.out
    obtain ⟨hcz51_0,hcz51_1,hfz51_0,hfz51_1⟩:=ck2 BK289.out
    have hnb52:=NB278_267.out
    have hnc52:=NB267_278.out
    have hnb53:=NB278_283.out
    have hnc53:=NB283_278.out
    obtain ⟨hcz54_0,hcz54_1,hfz54_0,hfz54_1⟩:=ck2 BK278.out
    go_wp2_with (first|((with_reducible refine gate_callee (f:=13) rfl ?_);refine gl (some 38) Try.func13 #[.agg #[.slice Ao33 t284.length co33,.int .i64 t287],.agg #[.slice Ao21 t273.length co21,.int .i64 t276]] ?_;(with_reducible refine (laws_eqHeap.calls k _ _ t284 t287 _ _ t273 t276 false _ ?side1 ?side2 ?side3 ?side4 A38.out).mono ?_);(case side1=>refine (Kd.R_reads' (e:=56) (base:=w.heap.size) (ok:=fun k_=>(((True∧some k_≠(.slice Ao18 t269.length co18:Value).ownBlock)∧some k_≠(.slice Ao21 t273.length co21:Value).ownBlock)∧some k_≠(.slice Ao27 t279.length co27:Value).ownBlock)) (n:=t284.length) (c:=co33) ?_).2.2;exact (by (with_reducible repeat (first|apply Kd.R_alloc|apply Kd.R_drewN|apply Kd.R_drew));exact (Kd.R_mono (Kd.R_far (p:=⟨gb289,1,none⟩) (Kd.R_far (p:=⟨gb289,0,none⟩) (Kd.R_types HO286.out BK289.out (by decide)) (fun _ hk=>hk.2) (.slice Ao33 t284.length co33)) (fun _ hk=>hk.2) (.int .i64 t287)) (fun _ h_=>h_.1))));(case side2=>exact (Kd.R_reads' HO286.out).2.1);(case side3=>refine (Kd.R_reads' (e:=56) (base:=w.heap.size) (ok:=fun k_=>(((True∧some k_≠(.slice Ao18 t269.length co18:Value).ownBlock)∧some k_≠(.slice Ao27 t279.length co27:Value).ownBlock)∧some k_≠(.slice Ao33 t284.length co33:Value).ownBlock)) (n:=t273.length) (c:=co21) ?_).2.2;exact (by (with_reducible repeat (first|apply Kd.R_alloc|apply Kd.R_drewN|apply Kd.R_drew));exact (Kd.R_mono (Kd.R_far (p:=⟨gb289,1,none⟩) (Kd.R_far (p:=⟨gb289,0,none⟩) (Kd.R_types HO275.out BK289.out (by decide)) (fun _ hk=>hk.2) (.slice Ao33 t284.length co33)) (fun _ hk=>hk.2) (.int .i64 t287)) (fun _ h_=>h_.1))));(case side4=>exact (Kd.R_reads' HO275.out).2.1);rintro e w55 ⟨rfl,hb⟩;refine ⟨_,rfl,?_⟩;replace HO271:=Aside0.mk (Kd.R_below (by (with_reducible repeat (first|apply Kd.R_alloc|apply Kd.R_drewN|apply Kd.R_drew));exact (Kd.R_mono (Kd.R_far (p:=⟨gb289,1,none⟩) (Kd.R_far (p:=⟨gb289,0,none⟩) (Kd.R_types HO271.out BK289.out (by decide)) (fun _ hk=>hk.2) (.slice Ao33 t284.length co33)) (fun _ hk=>hk.2) (.int .i64 t287)) (fun _ h_=>h_.1))) hb);replace HO275:=Aside0.mk (Kd.R_below (by (with_reducible repeat (first|apply Kd.R_alloc|apply Kd.R_drewN|apply Kd.R_drew));exact (Kd.R_mono (Kd.R_far (p:=⟨gb289,1,none⟩) (Kd.R_far (p:=⟨gb289,0,none⟩) (Kd.R_types HO275.out BK289.out (by decide)) (fun _ hk=>hk.2) (.slice Ao33 t284.length co33)) (fun _ hk=>hk.2) (.int .i64 t287)) (fun _ h_=>h_.1))) hb);replace HO281:=Aside0.mk (Kd.R_below (by (with_reducible repeat (first|apply Kd.R_alloc|apply Kd.R_drewN|apply Kd.R_drew));exact (Kd.R_mono (Kd.R_far (p:=⟨gb289,1,none⟩) (Kd.R_far (p:=⟨gb289,0,none⟩) (Kd.R_types HO281.out BK289.out (by decide)) (fun _ hk=>hk.2) (.slice Ao33 t284.length co33)) (fun _ hk=>hk.2) (.int .i64 t287)) (fun _ h_=>h_.1))) hb);replace HO286:=Aside0.mk (Kd.R_below (by (with_reducible repeat (first|apply Kd.R_alloc|apply Kd.R_drewN|apply Kd.R_drew));exact (Kd.R_mono (Kd.R_far (p:=⟨gb289,1,none⟩) (Kd.R_far (p:=⟨gb289,0,none⟩) (Kd.R_types HO286.out BK289.out (by decide)) (fun _ hk=>hk.2) (.slice Ao33 t284.length co33)) (fun _ hk=>hk.2) (.int .i64 t287)) (fun _ h_=>h_.1))) hb);replace BK267:=Aside0.mk (blk_below (g:=gb267) (o:=.cells #[.slice A0_0 l0_0.length c0_0,.int .i64 a0_1] 24 (0,0)) (bf BK267) hb);replace BK278:=Aside0.mk (blk_below (g:=gb278) (o:=.cells #[.slice Ao21 t273.length co21,.int .i64 t276] 28 (0,0)) (bf BK278) hb);replace BK283:=Aside0.mk (blk_below (g:=gb283) (o:=.cells #[.slice Ao27 t279.length co27,.int .i64 t282] 28 (0,0)) (bf BK283) hb);replace BK289:=Aside0.mk (blk_below (g:=gb289) (o:=.cells #[.slice Ao33 t284.length co33,.int .i64 t287] 28 (0,0)) (by (with_reducible repeat (first|refine blk_drewN ?_ _|refine blk_drew ?_|refine blk_alloc ?_ _));refine blk_put (cs:=#[.slice Ao33 t284.length co33,.int .i64 0]) ?_ 1 _ rfl;(with_reducible repeat (first|refine blk_drewN ?_ _|refine blk_drew ?_|refine blk_alloc ?_ _));refine blk_put (cs:=#[.slice none 0 0,.int .i64 0]) ?_ 0 _ rfl;(with_reducible repeat (first|refine blk_drewN ?_ _|refine blk_drew ?_|refine blk_alloc ?_ _));exact BK289.out) hb);replace HB:=Aside0.mk (below_step bl hb);(try clear hb);(try clear hb2);(try clear hk);(try clear hi)))
    go_meet
    case rel=>exact ⟨_,(true),(by first|rfl|(simp;done)|(simp [*];done)),H',⟨by first|omega|exact Nat.le_refl _⟩,⟨by (with_reducible repeat (first|apply Kd.R_alloc|apply Kd.R_drewN|apply Kd.R_drew));exact Kd.R_mono HO275.out (fun _ hk=>⟨hk.1.2,hk.2⟩)⟩,⟨by (with_reducible repeat (first|apply Kd.R_alloc|apply Kd.R_drewN|apply Kd.R_drew));exact Kd.R_mono HO281.out (fun _ hk=>⟨hk.1.2,hk.2⟩)⟩,⟨by (with_reducible repeat (first|apply Kd.R_alloc|apply Kd.R_drewN|apply Kd.R_drew));exact Kd.R_mono HO286.out (fun _ hk=>⟨hk.1.2,hk.2⟩)⟩,⟨bk BK267⟩,⟨bk BK278⟩,⟨bk BK283⟩,⟨bk BK289⟩,⟨bl⟩⟩
  case rest =>
   clear HC12
   try clear c1
   try clear c2
   try clear p2
   try clear c3
   try clear c4
   try clear c4b0
   try clear c5
   try clear c9
   try clear c10
   try clear c11
   try clear c12
   try clear c13
   try clear c22
   try clear c28
   try clear c29
   try clear c34
   try clear c35
   try clear c36
   try clear c39
   try clear c40
   try clear c41
   try clear c42
   try clear c44
   try clear c45
   try clear c48
   try clear c49
   try clear c50
   try clear c52
   try clear c53
   try clear hcz14_0
   try clear hcz14_1
   try clear hcz16_0
   try clear hcz16_1
   try clear hcz23_0
   try clear hcz23_1
   try clear hcz24_0
   try clear hcz24_1
   try clear hcz30_0
   try clear hcz30_1
   try clear hcz37_0
   try clear hcz37_1
   try clear hcz43_0
   try clear hcz43_1
   try clear hcz46_0
   try clear hcz46_1
   try clear hcz51_0
   try clear hcz51_1
   try clear hcz54_0
   try clear hcz54_1
   try clear hcz6_0
   try clear hcz6_1
   try clear hfz14_0
   try clear hfz14_1
   try clear hfz16_0
   try clear hfz16_1
   try clear hfz23_0
   try clear hfz23_1
   try clear hfz24_0
   try clear hfz24_1
   try clear hfz30_0
   try clear hfz30_1
   try clear hfz37_0
   try clear hfz37_1
   try clear hfz43_0
   try clear hfz43_1
   try clear hfz46_0
   try clear hfz46_1
   try clear hfz51_0
   try clear hfz51_1
   try clear hfz54_0
   try clear hfz54_1
   try clear hfz6_0
   try clear hfz6_1
   obtain ⟨kq,x44_11,rfl,HA,HJ11,HO_279000,HO_284000,HO_290000,BK267,BK278,BK283,BK289,HB⟩:=hcut
   cases kq with
   | zero=>exact absurd HA.out (by simp [laws_FnExactCancelDue.j0])
   | succ kj11 =>
    have H:=HA.out
    clear HA
    simp only [laws_FnExactCancelDue.j0] at H
    by_cases c56:x44_11=true
    ·subst c56
     rw [if_pos rfl] at H
     exact absurd H (by simp)
    ·replace c56:=Bool.eq_false_iff.mpr c56
     subst c56
     rw [if_neg nft] at H
     replace H:=Option.bind_eq_some_iff.mp H
     obtain ⟨⟨t291,t294⟩,A570,H⟩:=H
     replace H:((laws_eqHeap.f kj11 t279 t282 t291 t294).bind fun t295=>(if t295=true then ((laws_markHeap.f kj11 t279 t282 1).bind fun bt296=>(if bt296.1 < 0 then (laws_FnExactCancelDue.j1 kj11 a1 t277 true l0_0 a0_1 t273 t276 t284 t287) else ((laws_eqHeap.f kj11 t284 t287 t273 t276).bind fun t298=>(if t298=true then (laws_FnExactCancelDue.j1 kj11 a1 t277 (t288 != t277) l0_0 a0_1 t273 t276 t284 t287) else (laws_FnExactCancelDue.j1 kj11 a1 t277 true l0_0 a0_1 t273 t276 t284 t287))))) else (none)))=some r:=H
     have A57:=Aside0.mk A570
     clear A570
     replace H:=Option.bind_eq_some_iff.mp H
     obtain ⟨t295,A580,H⟩:=H
     have A58:=Aside0.mk A580
     clear A580
     by_cases c59:t295=true
     ·subst c59
      rw [if_pos rfl] at H
      replace H:=Option.bind_eq_some_iff.mp H
      obtain ⟨⟨t296,t297⟩,A600,H⟩:=H
      replace H:(if t296 < 0 then (laws_FnExactCancelDue.j1 kj11 a1 t277 true l0_0 a0_1 t273 t276 t284 t287) else ((laws_eqHeap.f kj11 t284 t287 t273 t276).bind fun t298=>(if t298=true then (laws_FnExactCancelDue.j1 kj11 a1 t277 (t288 != t277) l0_0 a0_1 t273 t276 t284 t287) else (laws_FnExactCancelDue.j1 kj11 a1 t277 true l0_0 a0_1 t273 t276 t284 t287))))=some r:=H
      have A60:=Aside0.mk A600
      clear A600
      have HC61:=Aside0.mk H
      clear H
      try go_wp2
      replace HO_279000:=Aside0.mk (Kd.R_drew HO_279000.out)
      replace HO_284000:=Aside0.mk (Kd.R_drew HO_284000.out)
      replace HO_290000:=Aside0.mk (Kd.R_drew HO_290000.out)
      replace BK267:=Aside0.mk (blk_drew BK267.out)
      replace BK278:=Aside0.mk (blk_drew BK278.out)
      replace BK283:=Aside0.mk (blk_drew BK283.out)
      replace BK289:=Aside0.mk (blk_drew BK289.out)
      replace HB:=Aside0.mk (below_drew1 HB.out)
      refine start_ (n:=5) (S:=fun w'=>w'.cell? ⟨gb283,0,none⟩=some (.slice Ao27 t279.length co27)∧w'.cell? ⟨gb283,1,none⟩=some (.int .i64 t282)∧w'.cell? ⟨gb267,0,none⟩=some (.slice A0_0 l0_0.length c0_0)∧w'.cell? ⟨gb267,1,none⟩=some (.int .i64 a0_1)) (ds:=[]) (bs 5 0) (by kernel_rfl) rfl rfl ⟨bc BK283 0,bc BK283 1,bc BK267 0,bc BK267 1⟩ (fun hHeld=>?_)
      generalize wc.drew=w62 at HO_279000 HO_284000 HO_290000 BK267 BK278 BK283 BK289 HB hHeld ⊢
      refine tk 0 45 (bs 5 1) hHeld ?_
      refine tk 1 46 (bs 5 3) hHeld ?_
      refine one_ (i:=2) (N:=some 47) (bs 5 7) rfl rfl (by kernel_rfl) (by decide) (fun K hK=>?_)
      refine goes_ Try.func11 (by kernel_rfl) rfl #[.agg #[.slice A0_0 l0_0.length c0_0,.int .i64 a0_1]] (by rfl) rfl rfl (by (try simp only [List.map_toArray,List.map_cons,List.map_nil]);first|done|rfl|(simp only [List.length_drop,List.length_take];rfl)) ?_
      with_reducible refine (laws_toHeap.calls kj11 _ _ l0_0 a0_1 t291 t294 _ ?side1 ?side2 A57.out).mono ?_
      (case side1=>exact kc HR0_0)
      (case side2=>exact HC0_0.out)
      rintro e w63 ⟨v292,rfl,ho0,hb⟩
      refine ⟨_,rfl,?_⟩
      have HO293:=Aside0.mk (Kd.R_lower (Kd.R_new' (Kd.R_new' (Kd.R_new' ho0 (Kd.R_lt (kr HO_279000))) (Kd.R_lt (kr HO_284000))) (Kd.R_lt (kr HO_290000))) (below_size bl))
      replace HO_279000:=Aside0.mk (Kd.R_elder' (kr HO_279000) (Kd.R_base ho0) hb)
      replace HO_284000:=Aside0.mk (Kd.R_elder' (kr HO_284000) (Kd.R_base ho0) hb)
      replace HO_290000:=Aside0.mk (Kd.R_elder' (kr HO_290000) (Kd.R_base ho0) hb)
      replace BK267:=Aside0.mk (blk_below (bk BK267) hb)
      replace BK278:=Aside0.mk (blk_below (bk BK278) hb)
      replace BK283:=Aside0.mk (blk_below (bk BK283) hb)
      replace BK289:=Aside0.mk (blk_below (bk BK289) hb)
      replace HB:=Aside0.mk (below_step bl hb)
      (try clear hb)
      (try clear hb2)
      (try clear hk)
      (try clear hi)
      (try clear ho0)
      obtain ⟨Ao64,co64,eo64⟩:=Kd.R_slice HO293.out
      (first|subst eo64|(injection eo64 with f1_ f2_ f3_;have f4_:=f1_.symm;have f5_:=f3_.symm;clear f1_ f2_ f3_;subst f4_;subst f5_))
      refine hK.out _ _ ⟨bc BK283 0,bc BK283 1,bc BK267 0,bc BK267 1⟩ (fun hHeld=>?_)
      clear hK K
      refine nrm ?_
      refine one_ (i:=3) (N:=some 48) (bs 5 15) rfl rfl (by kernel_rfl) (by decide) (fun K hK=>?_)
      refine goes_ Try.func13 (by kernel_rfl) rfl #[.agg #[.slice Ao27 t279.length co27,.int .i64 t282],.agg #[.slice Ao64 t291.length co64,.int .i64 t294]] (by rfl) rfl rfl (by (try simp only [List.map_toArray,List.map_cons,List.map_nil]);first|done|rfl|(simp only [List.length_drop,List.length_take];rfl)) ?_
      with_reducible refine (laws_eqHeap.calls kj11 _ _ t279 t282 _ _ t291 t294 true _ ?side1 ?side2 ?side3 ?side4 A58.out).mono ?_
      (case side1=>repeat (first|exact (Kd.R_reads' HO_284000.out).2.2|(with_reducible refine Kd.C_alloc ?_ _)|(with_reducible refine Kd.C_drewN ?_ _)|(with_reducible refine Kd.C_drew ?_)))
      (case side2=>exact (Kd.R_reads' HO_284000.out).2.1)
      (case side3=>repeat (first|exact (Kd.R_reads' HO293.out).2.2|(with_reducible refine Kd.C_alloc ?_ _)|(with_reducible refine Kd.C_drewN ?_ _)|(with_reducible refine Kd.C_drew ?_)))
      (case side4=>exact (Kd.R_reads' HO293.out).2.1)
      rintro e w65 ⟨rfl,hb⟩
      refine ⟨_,rfl,?_⟩
      replace HO_279000:=Aside0.mk (Kd.R_below (kr HO_279000) hb)
      replace HO_284000:=Aside0.mk (Kd.R_below (kr HO_284000) hb)
      replace HO_290000:=Aside0.mk (Kd.R_below (kr HO_290000) hb)
      replace HO293:=Aside0.mk (Kd.R_below (kr HO293) hb)
      replace BK267:=Aside0.mk (blk_below (bk BK267) hb)
      replace BK278:=Aside0.mk (blk_below (bk BK278) hb)
      replace BK283:=Aside0.mk (blk_below (bk BK283) hb)
      replace BK289:=Aside0.mk (blk_below (bk BK289) hb)
      replace HB:=Aside0.mk (below_step bl hb)
      (try clear hb)
      (try clear hb2)
      (try clear hk)
      (try clear hi)
      refine hK.out _ _ ⟨bc BK283 0,bc BK283 1,bc BK267 0,bc BK267 1⟩ (fun hHeld=>?_)
      clear hK K
      refine nrm ?_
      refine pk 4 49 (bs 5 31) ?_
      refine done_ (by kernel_rfl) ?_
      have hnb66:=NB283_267.out
      have hnc66:=NB267_283.out
      have hnb67:=NB283_278.out
      have hnc67:=NB278_283.out
      have hnb68:=NB283_289.out
      have hnc68:=NB289_283.out
      obtain ⟨hcz69_0,hcz69_1,hfz69_0,hfz69_1⟩:=ck2 BK283.out
      go_upto_region 14 with (first|((with_reducible refine gate_callee (f:=14) rfl ?_);refine gl (some 52) Try.func14 #[.agg #[.slice Ao27 t279.length co27,.int .i64 t282],.int .i64 1] ?_;(with_reducible refine (laws_markHeap.calls kj11 (fun k_=>some k_=(.slice Ao27 t279.length co27:Value).ownBlock) (.slice Ao27 t279.length co27) t279 t282 1 t296 t297 w _ ?side1 ?side2 A60.out).mono ?_);(case side1=>repeat (first|(with_reducible first|exact HB.out|apply below_alloc|apply pw_below_drewN|apply below_drew1|refine below_set ?_ GE267.out|refine below_set ?_ GE278.out|refine below_set ?_ GE283.out|refine below_set ?_ GE289.out)|exact HB.out));(case side2=>exact Kd.R_tight rfl HO_284000.out);rintro e w70 ⟨rfl,hy0,hb,hkp⟩;refine ⟨_,rfl,?_⟩;replace HO_279000:=Aside0.mk (Kd.R_mono (ok':=fun k_=>some k_≠(.slice Ao27 t279.length co27:Value).ownBlock∧some k_≠(.slice Ao33 t284.length co33:Value).ownBlock∧some k_≠(.slice Ao64 t291.length co64:Value).ownBlock) (Kd.R_keptB (HO_279000.out) hkp (fun k_ hk_ hs_=>by first|exact ((hk_.1.1) hs_)|(rcases hs_ with e_|e_ <;> simp_all)|simp_all)) (fun k_ hk_=>by first|exact (⟨hk_.1.1.1,hk_.1.1.2,hk_.1.2⟩)|simp_all));replace HO_290000:=Aside0.mk (Kd.R_mono (ok':=fun k_=>some k_≠(.slice Ao21 t273.length co21:Value).ownBlock∧some k_≠(.slice Ao27 t279.length co27:Value).ownBlock∧some k_≠(.slice Ao64 t291.length co64:Value).ownBlock) (Kd.R_keptB (HO_290000.out) hkp (fun k_ hk_ hs_=>by first|exact ((hk_.1.2) hs_)|(rcases hs_ with e_|e_ <;> simp_all)|simp_all)) (fun k_ hk_=>by first|exact (⟨hk_.1.1.1,hk_.1.1.2,hk_.1.2⟩)|simp_all));replace BK267:=Aside0.mk (blk_kept (bk BK267) hkp (fun hs_=>(fun e_=>(Kd.R_ne HO_284000.out BK267.out (by decide)) e_) hs_));replace BK278:=Aside0.mk (blk_kept (bk BK278) hkp (fun hs_=>(fun e_=>(Kd.R_ne HO_284000.out BK278.out (by decide)) e_) hs_));replace BK283:=Aside0.mk (blk_kept (bk BK283) hkp (fun hs_=>(fun e_=>(Kd.R_ne HO_284000.out BK283.out (by decide)) e_) hs_));replace BK289:=Aside0.mk (blk_kept (bk BK289) hkp (fun hs_=>(fun e_=>(Kd.R_ne HO_284000.out BK289.out (by decide)) e_) hs_));replace HO_284000:=Aside0.mk (Kd.R_reok rfl hy0 (fun k_ e_=>HO_284000.out.1 k_ e_));replace HO293:=Aside0.mk (Kd.R_mono (ok':=fun k_=>some k_≠(.slice Ao21 t273.length co21:Value).ownBlock∧some k_≠(.slice Ao27 t279.length co27:Value).ownBlock∧some k_≠(.slice Ao33 t284.length co33:Value).ownBlock) (Kd.R_keptB (HO293.out) hkp (fun k_ hk_ hs_=>by first|exact ((hk_.1.2) hs_)|(rcases hs_ with e_|e_ <;> simp_all)|simp_all)) (fun k_ hk_=>by first|exact (⟨hk_.1.1.1.2,hk_.1.1.2,hk_.1.2⟩)|simp_all));replace HB:=Aside0.mk (hb);(try clear hb);(try clear hkp);(try clear hy0)))
      (try simp only [Act.put,List.setIfInBounds_toArray,List.set_cons_zero,List.set_cons_succ])
      go_cut [65] (fun v65 wc=>∃ (kq:Nat) (x65_60:Bool),v65 = .bool x65_60∧Aside0 (laws_FnExactCancelDue.j1 kq a1 t277 x65_60 l0_0 a0_1 t273 t276 t284 t287=some r)∧Aside0 (kq≤kj11)∧Aside0 (Kd.R k56 56 wc w.heap.size (fun k_=>some k_≠((.slice Ao27 t279.length co27):Value).ownBlock∧some k_≠((.slice Ao33 t284.length co33):Value).ownBlock) (.slice Ao21 t273.length co21) t273)∧Aside0 (Kd.R k56 56 wc w.heap.size (fun k_=>some k_≠((.slice Ao21 t273.length co21):Value).ownBlock∧some k_≠((.slice Ao33 t284.length co33):Value).ownBlock) (.slice Ao27 t279.length co27) t297)∧Aside0 (Kd.R k56 56 wc w.heap.size (fun k_=>some k_≠((.slice Ao21 t273.length co21):Value).ownBlock∧some k_≠((.slice Ao27 t279.length co27):Value).ownBlock) (.slice Ao33 t284.length co33) t284)∧Aside0 (wc.heap[gb267]? = some (.cells #[(.slice A0_0 l0_0.length c0_0),.int .i64 a0_1] 24 (0,0)))∧Aside0 (wc.heap[gb278]? = some (.cells #[(.slice Ao21 t273.length co21),.int .i64 t276] 28 (0,0)))∧Aside0 (wc.heap[gb283]? = some (.cells #[(.slice Ao27 t279.length co27),.int .i64 t282] 28 (0,0)))∧Aside0 (wc.heap[gb289]? = some (.cells #[(.slice Ao33 t284.length co33),.int .i64 t287] 28 (0,0)))∧Aside0 (Below w.heap.size w wc))
      case first =>
       have H:=HC61.out
       clear HC61
       by_cases c71:t296 < 0
       ·rw [if_pos c71] at H
        have c71b0:decide (t296 < 0)=true:=decide_eq_true c71
        clear c71
        (first|rw [c71b0]|(simp only [i64_w,i32_w];rw [c71b0])|skip)
        have H':=Aside0.mk H
        clear H
        go_wp2
        go_meet
        case rel=>exact ⟨_,(true),(by first|rfl|(simp;done)|(simp [*];done)),H',⟨by have:=HJ11.out;first|omega|exact Nat.le_refl _⟩,⟨by (with_reducible repeat (first|apply Kd.R_alloc|apply Kd.R_drewN|apply Kd.R_drew));exact Kd.R_mono HO_279000.out (fun _ hk=>⟨hk.1,hk.2.1⟩)⟩,⟨by (with_reducible repeat (first|apply Kd.R_alloc|apply Kd.R_drewN|apply Kd.R_drew));exact Kd.R_mono HO_284000.out (fun _ hk=>⟨hk.1.1,hk.1.2⟩)⟩,⟨by (with_reducible repeat (first|apply Kd.R_alloc|apply Kd.R_drewN|apply Kd.R_drew));exact Kd.R_mono HO_290000.out (fun _ hk=>⟨hk.1,hk.2.1⟩)⟩,⟨bk BK267⟩,⟨bk BK278⟩,⟨bk BK283⟩,⟨bk BK289⟩,⟨bl⟩⟩
       ·rw [if_neg c71] at H
        have c71b0:decide (t296 < 0)=false:=decide_eq_false c71
        clear c71
        (first|rw [c71b0]|(simp only [i64_w,i32_w];rw [c71b0])|skip)
        replace H:=Option.bind_eq_some_iff.mp H
        obtain ⟨t298,A720,H⟩:=H
        have A72:=Aside0.mk A720
        clear A720
        by_cases c73:t298=true
        ·subst c73
         rw [if_pos rfl] at H
         have H':=Aside0.mk H
         clear H
         have hnb74:=NB289_267.out
         have hnc74:=NB267_289.out
         have hnb75:=NB289_278.out
         have hnc75:=NB278_289.out
         have hnb76:=NB289_283.out
         have hnc76:=NB283_289.out
         obtain ⟨hcz77_0,hcz77_1,hfz77_0,hfz77_1⟩:=ck2 BK289.out
         have hnb78:=NB278_267.out
         have hnc78:=NB267_278.out
         have hnb79:=NB278_283.out
         have hnc79:=NB283_278.out
         obtain ⟨hcz80_0,hcz80_1,hfz80_0,hfz80_1⟩:=ck2 BK278.out
         go_wp2_with (first|(go_at_call 13;(with_reducible refine (laws_eqHeap.calls kj11 _ _ t284 t287 _ _ t273 t276 true _ ?side1 ?side2 ?side3 ?side4 A72.out).mono ?_);(case side1=>repeat (first|exact (Kd.R_reads' HO_290000.out).2.2|(with_reducible refine Kd.C_alloc ?_ _)|(with_reducible refine Kd.C_drewN ?_ _)|(with_reducible refine Kd.C_drew ?_)));(case side2=>exact (Kd.R_reads' HO_290000.out).2.1);(case side3=>repeat (first|exact (Kd.R_reads' HO_279000.out).2.2|(with_reducible refine Kd.C_alloc ?_ _)|(with_reducible refine Kd.C_drewN ?_ _)|(with_reducible refine Kd.C_drew ?_)));(case side4=>exact (Kd.R_reads' HO_279000.out).2.1);rintro e w81 ⟨rfl,hb⟩;replace HO_279000:=Aside0.mk (Kd.R_below (kr HO_279000) hb);replace HO_284000:=Aside0.mk (Kd.R_below (kr HO_284000) hb);replace HO_290000:=Aside0.mk (Kd.R_below (kr HO_290000) hb);replace HO293:=Aside0.mk (Kd.R_below (kr HO293) hb);replace BK267:=Aside0.mk (blk_below (bk BK267) hb);replace BK278:=Aside0.mk (blk_below (bk BK278) hb);replace BK283:=Aside0.mk (blk_below (bk BK283) hb);replace BK289:=Aside0.mk (blk_below (bk BK289) hb);replace HB:=Aside0.mk (below_step bl hb);(try clear hb);(try clear hb2);(try clear hk);(try clear hi)))
         go_meet
         case rel=>exact ⟨_,((t288 != t277)),(by first|rfl|(simp;done)|(simp [*];done)),H',⟨by have:=HJ11.out;first|omega|exact Nat.le_refl _⟩,⟨by (with_reducible repeat (first|apply Kd.R_alloc|apply Kd.R_drewN|apply Kd.R_drew));exact Kd.R_mono HO_279000.out (fun _ hk=>⟨hk.1,hk.2.1⟩)⟩,⟨by (with_reducible repeat (first|apply Kd.R_alloc|apply Kd.R_drewN|apply Kd.R_drew));exact Kd.R_mono HO_284000.out (fun _ hk=>⟨hk.1.1,hk.1.2⟩)⟩,⟨by (with_reducible repeat (first|apply Kd.R_alloc|apply Kd.R_drewN|apply Kd.R_drew));exact Kd.R_mono HO_290000.out (fun _ hk=>⟨hk.1,hk.2.1⟩)⟩,⟨bk BK267⟩,⟨bk BK278⟩,⟨bk BK283⟩,⟨bk BK289⟩,⟨bl⟩⟩
        ·replace c73:=Bool.eq_false_iff.mpr c73
         subst c73
         rw [if_neg nft] at H
         have H':=Aside0.mk H
         clear H
         have hnb82:=NB289_267.out
         have hnc82:=NB267_289.out
         have hnb83:=NB289_278.out
         have hnc83:=NB278_289.out
         have hnb84:=NB289_283.out
         have hnc84:=NB283_289.out
         obtain ⟨hcz85_0,hcz85_1,hfz85_0,hfz85_1⟩:=ck2 BK289.out
         have hnb86:=NB278_267.out
         have hnc86:=NB267_278.out
         have hnb87:=NB278_283.out
         have hnc87:=NB283_278.out
         obtain ⟨hcz88_0,hcz88_1,hfz88_0,hfz88_1⟩:=ck2 BK278.out
         go_wp2_with (first|(go_at_call 13;(with_reducible refine (laws_eqHeap.calls kj11 _ _ t284 t287 _ _ t273 t276 false _ ?side1 ?side2 ?side3 ?side4 A72.out).mono ?_);(case side1=>repeat (first|exact (Kd.R_reads' HO_290000.out).2.2|(with_reducible refine Kd.C_alloc ?_ _)|(with_reducible refine Kd.C_drewN ?_ _)|(with_reducible refine Kd.C_drew ?_)));(case side2=>exact (Kd.R_reads' HO_290000.out).2.1);(case side3=>repeat (first|exact (Kd.R_reads' HO_279000.out).2.2|(with_reducible refine Kd.C_alloc ?_ _)|(with_reducible refine Kd.C_drewN ?_ _)|(with_reducible refine Kd.C_drew ?_)));(case side4=>exact (Kd.R_reads' HO_279000.out).2.1);rintro e w89 ⟨rfl,hb⟩;replace HO_279000:=Aside0.mk (Kd.R_below (kr HO_279000) hb);replace HO_284000:=Aside0.mk (Kd.R_below (kr HO_284000) hb);replace HO_290000:=Aside0.mk (Kd.R_below (kr HO_290000) hb);replace HO293:=Aside0.mk (Kd.R_below (kr HO293) hb);replace BK267:=Aside0.mk (blk_below (bk BK267) hb);replace BK278:=Aside0.mk (blk_below (bk BK278) hb);replace BK283:=Aside0.mk (blk_below (bk BK283) hb);replace BK289:=Aside0.mk (blk_below (bk BK289) hb);replace HB:=Aside0.mk (below_step bl hb);(try clear hb);(try clear hb2);(try clear hk);(try clear hi)))
         go_meet
         case rel=>exact ⟨_,(true),(by first|rfl|(simp;done)|(simp [*];done)),H',⟨by have:=HJ11.out;first|omega|exact Nat.le_refl _⟩,⟨by (with_reducible repeat (first|apply Kd.R_alloc|apply Kd.R_drewN|apply Kd.R_drew));exact Kd.R_mono HO_279000.out (fun _ hk=>⟨hk.1,hk.2.1⟩)⟩,⟨by (with_reducible repeat (first|apply Kd.R_alloc|apply Kd.R_drewN|apply Kd.R_drew));exact Kd.R_mono HO_284000.out (fun _ hk=>⟨hk.1.1,hk.1.2⟩)⟩,⟨by (with_reducible repeat (first|apply Kd.R_alloc|apply Kd.R_drewN|apply Kd.R_drew));exact Kd.R_mono HO_290000.out (fun _ hk=>⟨hk.1,hk.2.1⟩)⟩,⟨bk BK267⟩,⟨bk BK278⟩,⟨bk BK283⟩,⟨bk BK289⟩,⟨bl⟩⟩
      case rest =>
       clear HC61
       try clear c1
       try clear c2
       try clear p2
       try clear c3
       try clear c4
       try clear c4b0
       try clear c5
       try clear c6
       try clear c7
       try clear c8
       try clear c9
       try clear c10
       try clear c11
       try clear c12
       try clear c13
       try clear c14
       try clear c22
       try clear c28
       try clear c29
       try clear c34
       try clear c35
       try clear c36
       try clear c39
       try clear c40
       try clear c41
       try clear c42
       try clear c44
       try clear c45
       try clear c48
       try clear c49
       try clear c50
       try clear c52
       try clear c53
       try clear c56
       try clear c59
       try clear c66
       try clear c67
       try clear c68
       try clear c71
       try clear c71b0
       try clear c73
       try clear c74
       try clear c75
       try clear c76
       try clear c78
       try clear c79
       try clear c82
       try clear c83
       try clear c84
       try clear c86
       try clear c87
       try clear hcz14_0
       try clear hcz14_1
       try clear hcz16_0
       try clear hcz16_1
       try clear hcz23_0
       try clear hcz23_1
       try clear hcz24_0
       try clear hcz24_1
       try clear hcz30_0
       try clear hcz30_1
       try clear hcz37_0
       try clear hcz37_1
       try clear hcz43_0
       try clear hcz43_1
       try clear hcz46_0
       try clear hcz46_1
       try clear hcz51_0
       try clear hcz51_1
       try clear hcz54_0
       try clear hcz54_1
       try clear hcz69_0
       try clear hcz69_1
       try clear hcz6_0
       try clear hcz6_1
       try clear hcz77_0
       try clear hcz77_1
       try clear hcz80_0
       try clear hcz80_1
       try clear hcz85_0
       try clear hcz85_1
       try clear hcz88_0
       try clear hcz88_1
       try clear hfz14_0
       try clear hfz14_1
       try clear hfz16_0
       try clear hfz16_1
       try clear hfz23_0
       try clear hfz23_1
       try clear hfz24_0
       try clear hfz24_1
       try clear hfz30_0
       try clear hfz30_1
       try clear hfz37_0
       try clear hfz37_1
       try clear hfz43_0
       try clear hfz43_1
       try clear hfz46_0
       try clear hfz46_1
       try clear hfz51_0
       try clear hfz51_1
       try clear hfz54_0
       try clear hfz54_1
       try clear hfz69_0
       try clear hfz69_1
       try clear hfz6_0
       try clear hfz6_1
       try clear hfz77_0
       try clear hfz77_1
       try clear hfz80_0
       try clear hfz80_1
       try clear hfz85_0
       try clear hfz85_1
       try clear hfz88_0
       try clear hfz88_1
       try clear p2
       obtain ⟨kq,x65_60,rfl,HA,HJ60,HO_279000,HO_284000,HO_290000,BK267,BK278,BK283,BK289,HB⟩:=hcut
       have hl284000_60:=(Kd.R_reads' HO_284000.out).1
       rw [hl284000_60] at HO_284000
       (try simp only [hl284000_60])
       (try simp only [hl284000_60] at BK267)
       (try simp only [hl284000_60] at BK278)
       (try simp only [hl284000_60] at BK283)
       (try simp only [hl284000_60] at BK289)
       (try simp only [hl284000_60] at HO_279000)
       (try simp only [hl284000_60] at HO_290000)
       cases kq with
       | zero=>exact absurd HA.out (by simp [laws_FnExactCancelDue.j1])
       | succ kj60 =>
        have H:=HA.out
        clear HA
        simp only [laws_FnExactCancelDue.j1] at H
        by_cases c90:x65_60=true
        ·subst c90
         rw [if_pos rfl] at H
         exact absurd H (by simp)
        ·replace c90:=Bool.eq_false_iff.mpr c90
         subst c90
         rw [if_neg nft] at H
         replace H:=Option.bind_eq_some_iff.mp H
         obtain ⟨⟨t299,t300⟩,A910,H⟩:=H
         replace H:((laws_heldHeap.f kj60 t300 t287 1).bind fun t301=>(if t301 < 0 then (none) else (if t301=t299 then ((laws_toHeap.f kj60 l0_0 a0_1).bind fun bt302=>((impl_CancelDue.f kj60 bt302.1 bt302.2 a1).bind fun bt306=>((laws_eqHeap.f kj60 bt306.1 bt306.2.1 t273 t276).bind fun t312=>(if t312=true then (laws_FnExactCancelDue.j2 kj60 t299 (bt306.2.2 != t277) t300 t287) else (laws_FnExactCancelDue.j2 kj60 t299 true t300 t287))))) else (none))))=some r:=H
         have A91:=Aside0.mk A910
         clear A910
         replace H:=Option.bind_eq_some_iff.mp H
         obtain ⟨t301,A920,H⟩:=H
         have A92:=Aside0.mk A920
         clear A920
         by_cases c93:t301 < 0
         ·rw [if_pos c93] at H
          exact absurd H (by simp)
         ·rw [if_neg c93] at H
          have c93b0:decide (t301 < 0)=false:=decide_eq_false c93
          clear c93
          by_cases c94:t301=t299
          case neg =>
           rw [if_neg c94] at H
           exact absurd H (by simp)
          rw [if_pos c94] at H
          have c94b0:(t301 == t299)=true:=beq_iff_eq.mpr c94
          have c94b1:(t301 != t299)=false:=bne_eq_false_iff_eq.mpr c94
          clear c94
          replace H:=Option.bind_eq_some_iff.mp H
          obtain ⟨⟨t302,t305⟩,A950,H⟩:=H
          replace H:((impl_CancelDue.f kj60 t302 t305 a1).bind fun bt306=>((laws_eqHeap.f kj60 bt306.1 bt306.2.1 t273 t276).bind fun t312=>(if t312=true then (laws_FnExactCancelDue.j2 kj60 t299 (bt306.2.2 != t277) t300 t287) else (laws_FnExactCancelDue.j2 kj60 t299 true t300 t287))))=some r:=H
          have A95:=Aside0.mk A950
          clear A950
          replace H:=Option.bind_eq_some_iff.mp H
          obtain ⟨⟨t306,t309,t310⟩,A960,H⟩:=H
          replace H:((laws_eqHeap.f kj60 t306 t309 t273 t276).bind fun t312=>(if t312=true then (laws_FnExactCancelDue.j2 kj60 t299 (t310 != t277) t300 t287) else (laws_FnExactCancelDue.j2 kj60 t299 true t300 t287)))=some r:=H
          have A96:=Aside0.mk A960
          clear A960
          have HC97:=Aside0.mk H
          clear H
          have hnb98:=NB289_267.out
          have hnc98:=NB267_289.out
          have hnb99:=NB289_278.out
          have hnc99:=NB278_289.out
          have hnb100:=NB289_283.out
          have hnc100:=NB283_289.out
          obtain ⟨hcz101_0,hcz101_1,hfz101_0,hfz101_1⟩:=ck2 BK289.out
          go_upto_region 25 with (first|((with_reducible refine gate_callee (f:=14) rfl ?_);refine gl (some 68) Try.func14 #[.agg #[.slice Ao33 t284.length co33,.int .i64 t287],.int .i64 1] ?_;(with_reducible refine (laws_markHeap.calls kj60 (fun k_=>some k_=(.slice Ao33 t284.length co33:Value).ownBlock) (.slice Ao33 t284.length co33) t284 t287 1 t299 t300 w _ ?side1 ?side2 A91.out).mono ?_);(case side1=>repeat (first|(with_reducible first|exact HB.out|apply below_alloc|apply pw_below_drewN|apply below_drew1|refine below_set ?_ GE267.out|refine below_set ?_ GE278.out|refine below_set ?_ GE283.out|refine below_set ?_ GE289.out)|exact HB.out));(case side2=>exact Kd.R_tight rfl HO_290000.out);rintro e w102 ⟨rfl,hy0,hb,hkp⟩;refine ⟨_,rfl,?_⟩;replace HO_279000:=Aside0.mk (Kd.R_mono (ok':=fun k_=>some k_≠(.slice Ao27 t297.length co27:Value).ownBlock∧some k_≠(.slice Ao33 t284.length co33:Value).ownBlock) (Kd.R_keptB (HO_279000.out) hkp (fun k_ hk_ hs_=>by first|exact ((hk_.2) hs_)|(rcases hs_ with e_|e_ <;> simp_all)|simp_all)) (fun k_ hk_=>by first|exact (⟨hk_.1.1,hk_.1.2⟩)|simp_all));replace HO_284000:=Aside0.mk (Kd.R_mono (ok':=fun k_=>some k_≠(.slice Ao21 t273.length co21:Value).ownBlock∧some k_≠(.slice Ao33 t284.length co33:Value).ownBlock) (Kd.R_keptB (HO_284000.out) hkp (fun k_ hk_ hs_=>by first|exact ((hk_.2) hs_)|(rcases hs_ with e_|e_ <;> simp_all)|simp_all)) (fun k_ hk_=>by first|exact (⟨hk_.1.1,hk_.1.2⟩)|simp_all));replace BK267:=Aside0.mk (blk_kept (bk BK267) hkp (fun hs_=>(fun e_=>(Kd.R_ne HO_290000.out BK267.out (by decide)) e_) hs_));replace BK278:=Aside0.mk (blk_kept (bk BK278) hkp (fun hs_=>(fun e_=>(Kd.R_ne HO_290000.out BK278.out (by decide)) e_) hs_));replace BK283:=Aside0.mk (blk_kept (bk BK283) hkp (fun hs_=>(fun e_=>(Kd.R_ne HO_290000.out BK283.out (by decide)) e_) hs_));replace BK289:=Aside0.mk (blk_kept (bk BK289) hkp (fun hs_=>(fun e_=>(Kd.R_ne HO_290000.out BK289.out (by decide)) e_) hs_));replace HO_290000:=Aside0.mk (Kd.R_reok rfl hy0 (fun k_ e_=>HO_290000.out.1 k_ e_));replace HB:=Aside0.mk (hb);(try clear hb);(try clear hkp);(try clear hy0);obtain ⟨hcz103_0,hcz103_1,hfz103_0,hfz103_1⟩:=ck2 BK289.out)|((with_reducible refine gate_callee (f:=15) rfl ?_);refine goesL_ (some 71) rfl rfl Try.func15 (by kernel_rfl) rfl #[.agg #[.slice Ao33 t300.length co33,.int .i64 t287],.int .i64 1] rfl (by (try simp only [List.map_toArray,List.map_cons,List.map_nil]);first|done|(rw [show t300.length=t284.length from (Kd.R_reads' HO_290000.out).1.symm] <;> rfl)|rfl|(simp only [List.length_drop,List.length_take];rfl)) ?_;(with_reducible refine (laws_heldHeap.calls kj60 _ _ t300 t287 1 t301 _ ?side1 ?side2 A92.out).mono ?_);(case side1=>repeat (first|exact (Kd.R_reads' HO_290000.out).2.2|(with_reducible refine Kd.C_alloc ?_ _)|(with_reducible refine Kd.C_drewN ?_ _)|(with_reducible refine Kd.C_drew ?_)));(case side2=>rw [show t300.length=t284.length from (Kd.R_reads' HO_290000.out).1.symm];exact (Kd.R_reads' HO_290000.out).2.1);rintro e w104 ⟨rfl,hb⟩;refine ⟨_,rfl,?_⟩;replace HO_279000:=Aside0.mk (Kd.R_below (kr HO_279000) hb);replace HO_284000:=Aside0.mk (Kd.R_below (kr HO_284000) hb);replace HO_290000:=Aside0.mk (Kd.R_below (kr HO_290000) hb);replace BK267:=Aside0.mk (blk_below (bk BK267) hb);replace BK278:=Aside0.mk (blk_below (bk BK278) hb);replace BK283:=Aside0.mk (blk_below (bk BK283) hb);replace BK289:=Aside0.mk (blk_below (bk BK289) hb);replace HB:=Aside0.mk (below_step bl hb);(try clear hb);(try clear hb2);(try clear hk);(try clear hi);have hnb105:=NB267_278.out;have hnc105:=NB278_267.out;have hnb106:=NB267_283.out;have hnc106:=NB283_267.out;obtain ⟨hcz107_0,hcz107_1,hfz107_0,hfz107_1⟩:=ck2 BK267.out)|((with_reducible refine gate_callee (f:=11) rfl ?_);refine gl (some 79) Try.func11 #[.agg #[.slice A0_0 l0_0.length c0_0,.int .i64 a0_1]] ?_;(with_reducible refine (laws_toHeap.calls kj60 _ _ l0_0 a0_1 t302 t305 _ ?side1 ?side2 A95.out).mono ?_);(case side1=>exact kc HR0_0);(case side2=>exact HC0_0.out);rintro e w108 ⟨v303,rfl,ho0,hb⟩;refine ⟨_,rfl,?_⟩;have HO304:=Aside0.mk (Kd.R_lower (Kd.R_new' (Kd.R_new' (Kd.R_new' ho0 (Kd.R_lt (kr HO_279000))) (Kd.R_lt (kr HO_284000))) (Kd.R_lt (kr HO_290000))) (below_size bl));replace HO_279000:=Aside0.mk (Kd.R_elder' (kr HO_279000) (Kd.R_base ho0) hb);replace HO_284000:=Aside0.mk (Kd.R_elder' (kr HO_284000) (Kd.R_base ho0) hb);replace HO_290000:=Aside0.mk (Kd.R_elder' (kr HO_290000) (Kd.R_base ho0) hb);replace BK267:=Aside0.mk (blk_below (bk BK267) hb);replace BK278:=Aside0.mk (blk_below (bk BK278) hb);replace BK283:=Aside0.mk (blk_below (bk BK283) hb);replace BK289:=Aside0.mk (blk_below (bk BK289) hb);replace HB:=Aside0.mk (below_step bl hb);(try clear hb);(try clear hb2);(try clear hk);(try clear hi);(try clear ho0);obtain ⟨Ao109,co109,eo109⟩:=Kd.R_slice HO304.out;subst eo109)|((with_reducible refine gate_callee (f:=12) rfl ?_);refine gl (some 81) Try.func12 #[.agg #[.slice Ao109 t302.length co109,.int .i64 t305],.int .i64 a1] ?_;(with_reducible refine (impl_CancelDue.calls kj60 _ _ t302 t305 a1 t306 t309 t310 _ ?side1 ?side2 A96.out).mono ?_);(case side1=>repeat (first|exact (Kd.R_reads' HO304.out).2.2|(with_reducible refine Kd.C_alloc ?_ _)|(with_reducible refine Kd.C_drewN ?_ _)|(with_reducible refine Kd.C_drew ?_)));(case side2=>exact (Kd.R_reads' HO304.out).2.1);rintro e w110 ⟨v307,rfl,ho0,hb⟩;refine ⟨_,rfl,?_⟩;have HO308:=Aside0.mk (Kd.R_lower (Kd.R_new' (Kd.R_new' (Kd.R_new' (Kd.R_new' ho0 (Kd.R_lt (kr HO_279000))) (Kd.R_lt (kr HO_284000))) (Kd.R_lt (kr HO_290000))) (Kd.R_lt (kr HO304))) (below_size bl));replace HO_279000:=Aside0.mk (Kd.R_elder' (kr HO_279000) (Kd.R_base ho0) hb);replace HO_284000:=Aside0.mk (Kd.R_elder' (kr HO_284000) (Kd.R_base ho0) hb);replace HO_290000:=Aside0.mk (Kd.R_elder' (kr HO_290000) (Kd.R_base ho0) hb);replace HO304:=Aside0.mk (Kd.R_elder' (kr HO304) (Kd.R_base ho0) hb);replace BK267:=Aside0.mk (blk_below (bk BK267) hb);replace BK278:=Aside0.mk (blk_below (bk BK278) hb);replace BK283:=Aside0.mk (blk_below (bk BK283) hb);replace BK289:=Aside0.mk (blk_below (bk BK289) hb);replace HB:=Aside0.mk (below_step bl hb);(try clear hb);(try clear hb2);(try clear hk);(try clear hi);(try clear ho0))|((with_reducible refine gate_dst (N:=14) rfl ?_);refine bx 14 #[.slice none 0 0,.int .i64 0] 28 ?_;intro gb311 hg w111 hbox hb;replace HO_279000:=Aside0.mk (Kd.R_below (kr HO_279000) hb);replace HO_284000:=Aside0.mk (Kd.R_below (kr HO_284000) hb);replace HO_290000:=Aside0.mk (Kd.R_below (kr HO_290000) hb);replace HO304:=Aside0.mk (Kd.R_below (kr HO304) hb);replace HO308:=Aside0.mk (Kd.R_below (kr HO308) hb);have BK311:=Aside0.mk (hbox);have GW311:=Aside0.mk (bz hg:w.heap.size≤gb311);have GE311:=GW311;replace HB:=Aside0.mk (below_step bl hb);have NB267_311:=Aside0.mk (nl hg BK267:gb267≠gb311);have NB311_267:=Aside0.mk (nr hg BK267:gb311≠gb267);replace BK267:=Aside0.mk (blk_below (bk BK267) hb);have NB278_311:=Aside0.mk (nl hg BK278:gb278≠gb311);have NB311_278:=Aside0.mk (nr hg BK278:gb311≠gb278);replace BK278:=Aside0.mk (blk_below (bk BK278) hb);have NB283_311:=Aside0.mk (nl hg BK283:gb283≠gb311);have NB311_283:=Aside0.mk (nr hg BK283:gb311≠gb283);replace BK283:=Aside0.mk (blk_below (bk BK283) hb);have NB289_311:=Aside0.mk (nl hg BK289:gb289≠gb311);have NB311_289:=Aside0.mk (nr hg BK289:gb311≠gb289);replace BK289:=Aside0.mk (blk_below (bk BK289) hb);clear hb hbox hg;obtain ⟨Ao112,co112,eo112⟩:=Kd.R_slice HO308.out;subst eo112;have hnb113:=NB311_267.out;have hnc113:=NB267_311.out;have hnb114:=NB311_278.out;have hnc114:=NB278_311.out;have hnb115:=NB311_283.out;have hnc115:=NB283_311.out;have hnb116:=NB311_289.out;have hnc116:=NB289_311.out;obtain ⟨hcz117_0,hcz117_1,hfz117_0,hfz117_1⟩:=ck2 BK311.out))
          (try simp only [Act.put,List.setIfInBounds_toArray,List.set_cons_zero,List.set_cons_succ])
          go_cut [92] (fun v92 wc=>∃ (kq:Nat) (x92_96:Bool),v92 = .bool x92_96∧Aside0 (laws_FnExactCancelDue.j2 kq t299 x92_96 t300 t287=some r)∧Aside0 (kq≤kj60)∧Aside0 (Kd.R k56 56 wc w.heap.size (fun k_=>some k_≠((.slice Ao27 t297.length co27):Value).ownBlock∧some k_≠((.slice Ao33 t284.length co33):Value).ownBlock∧some k_≠((.slice Ao112 t306.length co112):Value).ownBlock) (.slice Ao21 t273.length co21) t273)∧Aside0 (Kd.R k56 56 wc w.heap.size (fun k_=>some k_≠((.slice Ao21 t273.length co21):Value).ownBlock∧some k_≠((.slice Ao33 t284.length co33):Value).ownBlock∧some k_≠((.slice Ao112 t306.length co112):Value).ownBlock) (.slice Ao27 t297.length co27) t297)∧Aside0 (Kd.R k56 56 wc w.heap.size (fun k_=>some k_≠((.slice Ao21 t273.length co21):Value).ownBlock∧some k_≠((.slice Ao27 t297.length co27):Value).ownBlock∧some k_≠((.slice Ao112 t306.length co112):Value).ownBlock) (.slice Ao33 t284.length co33) t300)∧Aside0 (Kd.R k56 56 wc w.heap.size (fun k_=>some k_≠((.slice Ao21 t273.length co21):Value).ownBlock∧some k_≠((.slice Ao27 t297.length co27):Value).ownBlock∧some k_≠((.slice Ao33 t284.length co33):Value).ownBlock) (.slice Ao112 t306.length co112) t306)∧Aside0 (wc.heap[gb267]? = some (.cells #[(.slice A0_0 l0_0.length c0_0),.int .i64 a0_1] 24 (0,0)))∧Aside0 (wc.heap[gb278]? = some (.cells #[(.slice Ao21 t273.length co21),.int .i64 t276] 28 (0,0)))∧Aside0 (wc.heap[gb283]? = some (.cells #[(.slice Ao27 t297.length co27),.int .i64 t282] 28 (0,0)))∧Aside0 (wc.heap[gb289]? = some (.cells #[(.slice Ao33 t284.length co33),.int .i64 t287] 28 (0,0)))∧Aside0 (wc.heap[gb311]? = some (.cells #[(.slice Ao112 t306.length co112),.int .i64 t309] 28 (0,0)))∧Aside0 (Below w.heap.size w wc))
          case first =>
           have H:=HC97.out
           clear HC97
           replace H:=Option.bind_eq_some_iff.mp H
           obtain ⟨t312,A1180,H⟩:=H
           have A118:=Aside0.mk A1180
           clear A1180
           by_cases c119:t312=true
           ·subst c119
            rw [if_pos rfl] at H
            have H':=Aside0.mk H
            clear H
            have hnb120:=NB311_267.out
            have hnc120:=NB267_311.out
            have hnb121:=NB311_278.out
            have hnc121:=NB278_311.out
            have hnb122:=NB311_283.out
            have hnc122:=NB283_311.out
            have hnb123:=NB311_289.out
            have hnc123:=NB289_311.out
            obtain ⟨hcz124_0,hcz124_1,hfz124_0,hfz124_1⟩:=ck2 BK311.out
            have hnb125:=NB278_267.out
            have hnc125:=NB267_278.out
            have hnb126:=NB278_283.out
            have hnc126:=NB283_278.out
            have hnb127:=NB278_289.out
            have hnc127:=NB289_278.out
            obtain ⟨hcz128_0,hcz128_1,hfz128_0,hfz128_1⟩:=ck2 BK278.out
            go_wp2_with (first|((with_reducible refine gate_callee (f:=13) rfl ?_);refine gl (some 86) Try.func13 #[.agg #[.slice Ao112 t306.length co112,.int .i64 t309],.agg #[.slice Ao21 t273.length co21,.int .i64 t276]] ?_;(with_reducible refine (laws_eqHeap.calls kj60 _ _ t306 t309 _ _ t273 t276 true _ ?side1 ?side2 ?side3 ?side4 A118.out).mono ?_);(case side1=>refine (Kd.R_reads' (e:=56) (base:=w.heap.size) (ok:=fun k_=>((((True∧some k_≠(.slice Ao21 t273.length co21:Value).ownBlock)∧some k_≠(.slice Ao27 t297.length co27:Value).ownBlock)∧some k_≠(.slice Ao33 t284.length co33:Value).ownBlock)∧some k_≠(.slice Ao109 t302.length co109:Value).ownBlock)) (n:=t306.length) (c:=co112) ?_).2.2;exact (by (with_reducible repeat (first|apply Kd.R_alloc|apply Kd.R_drewN|apply Kd.R_drew));exact (Kd.R_mono (Kd.R_far (p:=⟨gb311,1,none⟩) (Kd.R_far (p:=⟨gb311,0,none⟩) (Kd.R_types HO308.out BK311.out (by decide)) (fun _ hk=>hk.2) (.slice Ao112 t306.length co112)) (fun _ hk=>hk.2) (.int .i64 t309)) (fun _ h_=>h_.1))));(case side2=>exact (Kd.R_reads' HO308.out).2.1);(case side3=>refine (Kd.R_reads' (e:=56) (base:=w.heap.size) (ok:=fun k_=>(((some k_≠(.slice Ao27 t297.length co27:Value).ownBlock∧some k_≠(.slice Ao33 t284.length co33:Value).ownBlock)∧some k_≠(.slice Ao109 t302.length co109:Value).ownBlock)∧some k_≠(.slice Ao112 t306.length co112:Value).ownBlock)) (n:=t273.length) (c:=co21) ?_).2.2;exact (by (with_reducible repeat (first|apply Kd.R_alloc|apply Kd.R_drewN|apply Kd.R_drew));exact (Kd.R_mono (Kd.R_far (p:=⟨gb311,1,none⟩) (Kd.R_far (p:=⟨gb311,0,none⟩) (Kd.R_types HO_279000.out BK311.out (by decide)) (fun _ hk=>hk.2) (.slice Ao112 t306.length co112)) (fun _ hk=>hk.2) (.int .i64 t309)) (fun _ h_=>h_.1))));(case side4=>exact (Kd.R_reads' HO_279000.out).2.1);rintro e w129 ⟨rfl,hb⟩;refine ⟨_,rfl,?_⟩;replace HO_279000:=Aside0.mk (Kd.R_below (by (with_reducible repeat (first|apply Kd.R_alloc|apply Kd.R_drewN|apply Kd.R_drew));exact (Kd.R_mono (Kd.R_far (p:=⟨gb311,1,none⟩) (Kd.R_far (p:=⟨gb311,0,none⟩) (Kd.R_types HO_279000.out BK311.out (by decide)) (fun _ hk=>hk.2) (.slice Ao112 t306.length co112)) (fun _ hk=>hk.2) (.int .i64 t309)) (fun _ h_=>h_.1))) hb);replace HO_284000:=Aside0.mk (Kd.R_below (by (with_reducible repeat (first|apply Kd.R_alloc|apply Kd.R_drewN|apply Kd.R_drew));exact (Kd.R_mono (Kd.R_far (p:=⟨gb311,1,none⟩) (Kd.R_far (p:=⟨gb311,0,none⟩) (Kd.R_types HO_284000.out BK311.out (by decide)) (fun _ hk=>hk.2) (.slice Ao112 t306.length co112)) (fun _ hk=>hk.2) (.int .i64 t309)) (fun _ h_=>h_.1))) hb);replace HO_290000:=Aside0.mk (Kd.R_below (by (with_reducible repeat (first|apply Kd.R_alloc|apply Kd.R_drewN|apply Kd.R_drew));exact (Kd.R_mono (Kd.R_far (p:=⟨gb311,1,none⟩) (Kd.R_far (p:=⟨gb311,0,none⟩) (Kd.R_types HO_290000.out BK311.out (by decide)) (fun _ hk=>hk.2) (.slice Ao112 t306.length co112)) (fun _ hk=>hk.2) (.int .i64 t309)) (fun _ h_=>h_.1))) hb);replace HO304:=Aside0.mk (Kd.R_below (by (with_reducible repeat (first|apply Kd.R_alloc|apply Kd.R_drewN|apply Kd.R_drew));exact (Kd.R_mono (Kd.R_far (p:=⟨gb311,1,none⟩) (Kd.R_far (p:=⟨gb311,0,none⟩) (Kd.R_types HO304.out BK311.out (by decide)) (fun _ hk=>hk.2) (.slice Ao112 t306.length co112)) (fun _ hk=>hk.2) (.int .i64 t309)) (fun _ h_=>h_.1))) hb);replace HO308:=Aside0.mk (Kd.R_below (by (with_reducible repeat (first|apply Kd.R_alloc|apply Kd.R_drewN|apply Kd.R_drew));exact (Kd.R_mono (Kd.R_far (p:=⟨gb311,1,none⟩) (Kd.R_far (p:=⟨gb311,0,none⟩) (Kd.R_types HO308.out BK311.out (by decide)) (fun _ hk=>hk.2) (.slice Ao112 t306.length co112)) (fun _ hk=>hk.2) (.int .i64 t309)) (fun _ h_=>h_.1))) hb);replace BK267:=Aside0.mk (blk_below (g:=gb267) (o:=.cells #[.slice A0_0 l0_0.length c0_0,.int .i64 a0_1] 24 (0,0)) (bf BK267) hb);replace BK278:=Aside0.mk (blk_below (g:=gb278) (o:=.cells #[.slice Ao21 t273.length co21,.int .i64 t276] 28 (0,0)) (bf BK278) hb);replace BK283:=Aside0.mk (blk_below (g:=gb283) (o:=.cells #[.slice Ao27 t297.length co27,.int .i64 t282] 28 (0,0)) (bf BK283) hb);replace BK289:=Aside0.mk (blk_below (g:=gb289) (o:=.cells #[.slice Ao33 t284.length co33,.int .i64 t287] 28 (0,0)) (bf BK289) hb);replace BK311:=Aside0.mk (blk_below (g:=gb311) (o:=.cells #[.slice Ao112 t306.length co112,.int .i64 t309] 28 (0,0)) (by (with_reducible repeat (first|refine blk_drewN ?_ _|refine blk_drew ?_|refine blk_alloc ?_ _));refine blk_put (cs:=#[.slice Ao112 t306.length co112,.int .i64 0]) ?_ 1 _ rfl;(with_reducible repeat (first|refine blk_drewN ?_ _|refine blk_drew ?_|refine blk_alloc ?_ _));refine blk_put (cs:=#[.slice none 0 0,.int .i64 0]) ?_ 0 _ rfl;(with_reducible repeat (first|refine blk_drewN ?_ _|refine blk_drew ?_|refine blk_alloc ?_ _));exact BK311.out) hb);replace HB:=Aside0.mk (below_step bl hb);(try clear hb);(try clear hb2);(try clear hk);(try clear hi)))
            go_meet
            case rel=>exact ⟨_,((t310 != t277)),(by first|rfl|(simp;done)|(simp [*];done)),H',⟨by have:=HJ11.out;have:=HJ60.out;first|omega|exact Nat.le_refl _⟩,⟨by (try simp only [hl284000_60]);(with_reducible repeat (first|apply Kd.R_alloc|apply Kd.R_drewN|apply Kd.R_drew));exact Kd.R_mono HO_279000.out (fun _ hk=>⟨hk.1.1.1,⟨hk.1.1.2,hk.2⟩⟩)⟩,⟨by (try simp only [hl284000_60]);(with_reducible repeat (first|apply Kd.R_alloc|apply Kd.R_drewN|apply Kd.R_drew));exact Kd.R_mono HO_284000.out (fun _ hk=>⟨hk.1.1.1,⟨hk.1.1.2,hk.2⟩⟩)⟩,⟨by (try simp only [hl284000_60]);(with_reducible repeat (first|apply Kd.R_alloc|apply Kd.R_drewN|apply Kd.R_drew));exact Kd.R_mono HO_290000.out (fun _ hk=>⟨hk.1.1.1,⟨hk.1.1.2,hk.2⟩⟩)⟩,⟨by (try simp only [hl284000_60]);(with_reducible repeat (first|apply Kd.R_alloc|apply Kd.R_drewN|apply Kd.R_drew));exact Kd.R_mono HO308.out (fun _ hk=>⟨hk.1.1.1.2,⟨hk.1.1.2,hk.1.2⟩⟩)⟩,⟨by (try simp only [hl284000_60]);(with_reducible repeat (first|refine blk_drewN ?_ _|refine blk_drew ?_|refine blk_alloc ?_ _));exact BK267.out⟩,⟨by (try simp only [hl284000_60]);(with_reducible repeat (first|refine blk_drewN ?_ _|refine blk_drew ?_|refine blk_alloc ?_ _));exact BK278.out⟩,⟨by (try simp only [hl284000_60]);(with_reducible repeat (first|refine blk_drewN ?_ _|refine blk_drew ?_|refine blk_alloc ?_ _));exact BK283.out⟩,⟨by (try simp only [hl284000_60]);(with_reducible repeat (first|refine blk_drewN ?_ _|refine blk_drew ?_|refine blk_alloc ?_ _));exact BK289.out⟩,⟨by (try simp only [hl284000_60]);(with_reducible repeat (first|refine blk_drewN ?_ _|refine blk_drew ?_|refine blk_alloc ?_ _));exact BK311.out⟩,⟨bl⟩⟩
           ·replace c119:=Bool.eq_false_iff.mpr c119
            subst c119
            rw [if_neg nft] at H
            have H':=Aside0.mk H
            clear H
            have hnb130:=NB311_267.out
            have hnc130:=NB267_311.out
            have hnb131:=NB311_278.out
            have hnc131:=NB278_311.out
            have hnb132:=NB311_283.out
            have hnc132:=NB283_311.out
            have hnb133:=NB311_289.out
            have hnc133:=NB289_311.out
            obtain ⟨hcz134_0,hcz134_1,hfz134_0,hfz134_1⟩:=ck2 BK311.out
            have hnb135:=NB278_267.out
            have hnc135:=NB267_278.out
            have hnb136:=NB278_283.out
            have hnc136:=NB283_278.out
            have hnb137:=NB278_289.out
            have hnc137:=NB289_278.out
            obtain ⟨hcz138_0,hcz138_1,hfz138_0,hfz138_1⟩:=ck2 BK278.out
            go_wp2_with (first|((with_reducible refine gate_callee (f:=13) rfl ?_);refine gl (some 86) Try.func13 #[.agg #[.slice Ao112 t306.length co112,.int .i64 t309],.agg #[.slice Ao21 t273.length co21,.int .i64 t276]] ?_;(with_reducible refine (laws_eqHeap.calls kj60 _ _ t306 t309 _ _ t273 t276 false _ ?side1 ?side2 ?side3 ?side4 A118.out).mono ?_);(case side1=>refine (Kd.R_reads' (e:=56) (base:=w.heap.size) (ok:=fun k_=>((((True∧some k_≠(.slice Ao21 t273.length co21:Value).ownBlock)∧some k_≠(.slice Ao27 t297.length co27:Value).ownBlock)∧some k_≠(.slice Ao33 t284.length co33:Value).ownBlock)∧some k_≠(.slice Ao109 t302.length co109:Value).ownBlock)) (n:=t306.length) (c:=co112) ?_).2.2;exact (by (with_reducible repeat (first|apply Kd.R_alloc|apply Kd.R_drewN|apply Kd.R_drew));exact (Kd.R_mono (Kd.R_far (p:=⟨gb311,1,none⟩) (Kd.R_far (p:=⟨gb311,0,none⟩) (Kd.R_types HO308.out BK311.out (by decide)) (fun _ hk=>hk.2) (.slice Ao112 t306.length co112)) (fun _ hk=>hk.2) (.int .i64 t309)) (fun _ h_=>h_.1))));(case side2=>exact (Kd.R_reads' HO308.out).2.1);(case side3=>refine (Kd.R_reads' (e:=56) (base:=w.heap.size) (ok:=fun k_=>(((some k_≠(.slice Ao27 t297.length co27:Value).ownBlock∧some k_≠(.slice Ao33 t284.length co33:Value).ownBlock)∧some k_≠(.slice Ao109 t302.length co109:Value).ownBlock)∧some k_≠(.slice Ao112 t306.length co112:Value).ownBlock)) (n:=t273.length) (c:=co21) ?_).2.2;exact (by (with_reducible repeat (first|apply Kd.R_alloc|apply Kd.R_drewN|apply Kd.R_drew));exact (Kd.R_mono (Kd.R_far (p:=⟨gb311,1,none⟩) (Kd.R_far (p:=⟨gb311,0,none⟩) (Kd.R_types HO_279000.out BK311.out (by decide)) (fun _ hk=>hk.2) (.slice Ao112 t306.length co112)) (fun _ hk=>hk.2) (.int .i64 t309)) (fun _ h_=>h_.1))));(case side4=>exact (Kd.R_reads' HO_279000.out).2.1);rintro e w139 ⟨rfl,hb⟩;refine ⟨_,rfl,?_⟩;replace HO_279000:=Aside0.mk (Kd.R_below (by (with_reducible repeat (first|apply Kd.R_alloc|apply Kd.R_drewN|apply Kd.R_drew));exact (Kd.R_mono (Kd.R_far (p:=⟨gb311,1,none⟩) (Kd.R_far (p:=⟨gb311,0,none⟩) (Kd.R_types HO_279000.out BK311.out (by decide)) (fun _ hk=>hk.2) (.slice Ao112 t306.length co112)) (fun _ hk=>hk.2) (.int .i64 t309)) (fun _ h_=>h_.1))) hb);replace HO_284000:=Aside0.mk (Kd.R_below (by (with_reducible repeat (first|apply Kd.R_alloc|apply Kd.R_drewN|apply Kd.R_drew));exact (Kd.R_mono (Kd.R_far (p:=⟨gb311,1,none⟩) (Kd.R_far (p:=⟨gb311,0,none⟩) (Kd.R_types HO_284000.out BK311.out (by decide)) (fun _ hk=>hk.2) (.slice Ao112 t306.length co112)) (fun _ hk=>hk.2) (.int .i64 t309)) (fun _ h_=>h_.1))) hb);replace HO_290000:=Aside0.mk (Kd.R_below (by (with_reducible repeat (first|apply Kd.R_alloc|apply Kd.R_drewN|apply Kd.R_drew));exact (Kd.R_mono (Kd.R_far (p:=⟨gb311,1,none⟩) (Kd.R_far (p:=⟨gb311,0,none⟩) (Kd.R_types HO_290000.out BK311.out (by decide)) (fun _ hk=>hk.2) (.slice Ao112 t306.length co112)) (fun _ hk=>hk.2) (.int .i64 t309)) (fun _ h_=>h_.1))) hb);replace HO304:=Aside0.mk (Kd.R_below (by (with_reducible repeat (first|apply Kd.R_alloc|apply Kd.R_drewN|apply Kd.R_drew));exact (Kd.R_mono (Kd.R_far (p:=⟨gb311,1,none⟩) (Kd.R_far (p:=⟨gb311,0,none⟩) (Kd.R_types HO304.out BK311.out (by decide)) (fun _ hk=>hk.2) (.slice Ao112 t306.length co112)) (fun _ hk=>hk.2) (.int .i64 t309)) (fun _ h_=>h_.1))) hb);replace HO308:=Aside0.mk (Kd.R_below (by (with_reducible repeat (first|apply Kd.R_alloc|apply Kd.R_drewN|apply Kd.R_drew));exact (Kd.R_mono (Kd.R_far (p:=⟨gb311,1,none⟩) (Kd.R_far (p:=⟨gb311,0,none⟩) (Kd.R_types HO308.out BK311.out (by decide)) (fun _ hk=>hk.2) (.slice Ao112 t306.length co112)) (fun _ hk=>hk.2) (.int .i64 t309)) (fun _ h_=>h_.1))) hb);replace BK267:=Aside0.mk (blk_below (g:=gb267) (o:=.cells #[.slice A0_0 l0_0.length c0_0,.int .i64 a0_1] 24 (0,0)) (bf BK267) hb);replace BK278:=Aside0.mk (blk_below (g:=gb278) (o:=.cells #[.slice Ao21 t273.length co21,.int .i64 t276] 28 (0,0)) (bf BK278) hb);replace BK283:=Aside0.mk (blk_below (g:=gb283) (o:=.cells #[.slice Ao27 t297.length co27,.int .i64 t282] 28 (0,0)) (bf BK283) hb);replace BK289:=Aside0.mk (blk_below (g:=gb289) (o:=.cells #[.slice Ao33 t284.length co33,.int .i64 t287] 28 (0,0)) (bf BK289) hb);replace BK311:=Aside0.mk (blk_below (g:=gb311) (o:=.cells #[.slice Ao112 t306.length co112,.int .i64 t309] 28 (0,0)) (by (with_reducible repeat (first|refine blk_drewN ?_ _|refine blk_drew ?_|refine blk_alloc ?_ _));refine blk_put (cs:=#[.slice Ao112 t306.length co112,.int .i64 0]) ?_ 1 _ rfl;(with_reducible repeat (first|refine blk_drewN ?_ _|refine blk_drew ?_|refine blk_alloc ?_ _));refine blk_put (cs:=#[.slice none 0 0,.int .i64 0]) ?_ 0 _ rfl;(with_reducible repeat (first|refine blk_drewN ?_ _|refine blk_drew ?_|refine blk_alloc ?_ _));exact BK311.out) hb);replace HB:=Aside0.mk (below_step bl hb);(try clear hb);(try clear hb2);(try clear hk);(try clear hi)))
            go_meet
            case rel=>exact ⟨_,(true),(by first|rfl|(simp;done)|(simp [*];done)),H',⟨by have:=HJ11.out;have:=HJ60.out;first|omega|exact Nat.le_refl _⟩,⟨by (try simp only [hl284000_60]);(with_reducible repeat (first|apply Kd.R_alloc|apply Kd.R_drewN|apply Kd.R_drew));exact Kd.R_mono HO_279000.out (fun _ hk=>⟨hk.1.1.1,⟨hk.1.1.2,hk.2⟩⟩)⟩,⟨by (try simp only [hl284000_60]);(with_reducible repeat (first|apply Kd.R_alloc|apply Kd.R_drewN|apply Kd.R_drew));exact Kd.R_mono HO_284000.out (fun _ hk=>⟨hk.1.1.1,⟨hk.1.1.2,hk.2⟩⟩)⟩,⟨by (try simp only [hl284000_60]);(with_reducible repeat (first|apply Kd.R_alloc|apply Kd.R_drewN|apply Kd.R_drew));exact Kd.R_mono HO_290000.out (fun _ hk=>⟨hk.1.1.1,⟨hk.1.1.2,hk.2⟩⟩)⟩,⟨by (try simp only [hl284000_60]);(with_reducible repeat (first|apply Kd.R_alloc|apply Kd.R_drewN|apply Kd.R_drew));exact Kd.R_mono HO308.out (fun _ hk=>⟨hk.1.1.1.2,⟨hk.1.1.2,hk.1.2⟩⟩)⟩,⟨by (try simp only [hl284000_60]);(with_reducible repeat (first|refine blk_drewN ?_ _|refine blk_drew ?_|refine blk_alloc ?_ _));exact BK267.out⟩,⟨by (try simp only [hl284000_60]);(with_reducible repeat (first|refine blk_drewN ?_ _|refine blk_drew ?_|refine blk_alloc ?_ _));exact BK278.out⟩,⟨by (try simp only [hl284000_60]);(with_reducible repeat (first|refine blk_drewN ?_ _|refine blk_drew ?_|refine blk_alloc ?_ _));exact BK283.out⟩,⟨by (try simp only [hl284000_60]);(with_reducible repeat (first|refine blk_drewN ?_ _|refine blk_drew ?_|refine blk_alloc ?_ _));exact BK289.out⟩,⟨by (try simp only [hl284000_60]);(with_reducible repeat (first|refine blk_drewN ?_ _|refine blk_drew ?_|refine blk_alloc ?_ _));exact BK311.out⟩,⟨bl⟩⟩
          case rest =>
           clear HC97
           try clear c1
           try clear c2
           try clear p2
           try clear c3
           try clear c4
           try clear c4b0
           try clear c5
           try clear c6
           try clear c7
           try clear c8
           try clear c9
           try clear c10
           try clear c11
           try clear c12
           try clear c13
           try clear c14
           try clear c15
           try clear c22
           try clear c28
           try clear c29
           try clear c34
           try clear c35
           try clear c36
           try clear c39
           try clear c40
           try clear c41
           try clear c42
           try clear c44
           try clear c45
           try clear c48
           try clear c49
           try clear c50
           try clear c52
           try clear c53
           try clear c56
           try clear c59
           try clear c66
           try clear c67
           try clear c68
           try clear c71
           try clear c71b0
           try clear c73
           try clear c74
           try clear c75
           try clear c76
           try clear c78
           try clear c79
           try clear c82
           try clear c83
           try clear c84
           try clear c86
           try clear c87
           try clear c90
           try clear c93
           try clear c93b0
           try clear c94
           try clear c94b0
           try clear c94b1
           try clear c98
           try clear c99
           try clear c100
           try clear c105
           try clear c106
           try clear c113
           try clear c114
           try clear c115
           try clear c116
           try clear c119
           try clear c120
           try clear c121
           try clear c122
           try clear c123
           try clear c125
           try clear c126
           try clear c127
           try clear c130
           try clear c131
           try clear c132
           try clear c133
           try clear c135
           try clear c136
           try clear c137
           try clear hcz101_0
           try clear hcz101_1
           try clear hcz103_0
           try clear hcz103_1
           try clear hcz107_0
           try clear hcz107_1
           try clear hcz117_0
           try clear hcz117_1
           try clear hcz124_0
           try clear hcz124_1
           try clear hcz128_0
           try clear hcz128_1
           try clear hcz134_0
           try clear hcz134_1
           try clear hcz138_0
           try clear hcz138_1
           try clear hcz14_0
           try clear hcz14_1
           try clear hcz16_0
           try clear hcz16_1
           try clear hcz23_0
           try clear hcz23_1
           try clear hcz24_0
           try clear hcz24_1
           try clear hcz30_0
           try clear hcz30_1
           try clear hcz37_0
           try clear hcz37_1
           try clear hcz43_0
           try clear hcz43_1
           try clear hcz46_0
           try clear hcz46_1
           try clear hcz51_0
           try clear hcz51_1
           try clear hcz54_0
           try clear hcz54_1
           try clear hcz69_0
           try clear hcz69_1
           try clear hcz6_0
           try clear hcz6_1
           try clear hcz77_0
           try clear hcz77_1
           try clear hcz80_0
           try clear hcz80_1
           try clear hcz85_0
           try clear hcz85_1
           try clear hcz88_0
           try clear hcz88_1
           try clear hfz101_0
           try clear hfz101_1
           try clear hfz103_0
           try clear hfz103_1
           try clear hfz107_0
           try clear hfz107_1
           try clear hfz117_0
           try clear hfz117_1
           try clear hfz124_0
           try clear hfz124_1
           try clear hfz128_0
           try clear hfz128_1
           try clear hfz134_0
           try clear hfz134_1
           try clear hfz138_0
           try clear hfz138_1
           try clear hfz14_0
           try clear hfz14_1
           try clear hfz16_0
           try clear hfz16_1
           try clear hfz23_0
           try clear hfz23_1
           try clear hfz24_0
           try clear hfz24_1
           try clear hfz30_0
           try clear hfz30_1
           try clear hfz37_0
           try clear hfz37_1
           try clear hfz43_0
           try clear hfz43_1
           try clear hfz46_0
           try clear hfz46_1
           try clear hfz51_0
           try clear hfz51_1
           try clear hfz54_0
           try clear hfz54_1
           try clear hfz69_0
           try clear hfz69_1
           try clear hfz6_0
           try clear hfz6_1
           try clear hfz77_0
           try clear hfz77_1
           try clear hfz80_0
           try clear hfz80_1
           try clear hfz85_0
           try clear hfz85_1
           try clear hfz88_0
           try clear hfz88_1
           try clear p2
           obtain ⟨kq,x92_96,rfl,HA,HJ96,HO_279000,HO_284000,HO_290000,HO_312000,BK267,BK278,BK283,BK289,BK311,HB⟩:=hcut
           have hl290000_96:=(Kd.R_reads' HO_290000.out).1
           rw [hl290000_96] at HO_290000
           (try simp only [hl290000_96])
           (try simp only [hl290000_96] at BK267)
           (try simp only [hl290000_96] at BK278)
           (try simp only [hl290000_96] at BK283)
           (try simp only [hl290000_96] at BK289)
           (try simp only [hl290000_96] at BK311)
           (try simp only [hl290000_96] at HO_279000)
           (try simp only [hl290000_96] at HO_284000)
           (try simp only [hl290000_96] at HO_312000)
           cases kq with
           | zero=>exact absurd HA.out (by simp [laws_FnExactCancelDue.j2])
           | succ kj96 =>
            have H:=HA.out
            clear HA
            simp only [laws_FnExactCancelDue.j2] at H
            by_cases c140:x92_96=true
            ·subst c140
             rw [if_pos rfl] at H
             exact absurd H (by simp)
            ·replace c140:=Bool.eq_false_iff.mpr c140
             subst c140
             rw [if_neg nft] at H
             replace H:=Option.bind_eq_some_iff.mp H
             obtain ⟨t313,A1410,H⟩:=H
             have A141:=Aside0.mk A1410
             clear A1410
             by_cases c142:t313 < 0
             ·rw [if_pos c142] at H
              exact absurd H (by simp)
             ·rw [if_neg c142] at H
              have c142b0:decide (t313 < 0)=false:=decide_eq_false c142
              clear c142
              by_cases c143:t313=t299
              case neg =>
               rw [if_neg c143] at H
               exact absurd H (by simp)
              rw [if_pos c143] at H
              have c143b0:(t313 == t299)=true:=beq_iff_eq.mpr c143
              have c143b1:(t313 != t299)=false:=bne_eq_false_iff_eq.mpr c143
              clear c143
              obtain rfl:=Option.some.inj H
              have hnb144:=NB289_267.out
              have hnc144:=NB267_289.out
              have hnb145:=NB289_278.out
              have hnc145:=NB278_289.out
              have hnb146:=NB289_283.out
              have hnc146:=NB283_289.out
              have hnb147:=NB289_311.out
              have hnc147:=NB311_289.out
              obtain ⟨hcz148_0,hcz148_1,hfz148_0,hfz148_1⟩:=ck2 BK289.out
              go_wp2_with (first|((with_reducible refine gate_callee (f:=15) rfl ?_);refine gl (some 95) Try.func15 #[.agg #[.slice Ao33 t300.length co33,.int .i64 t287],.int .i64 1] ?_;(with_reducible refine (laws_heldHeap.calls kj96 _ _ t300 t287 1 t313 _ ?side1 ?side2 A141.out).mono ?_);(case side1=>repeat (first|exact (Kd.R_reads' HO_290000.out).2.2|(with_reducible refine Kd.C_alloc ?_ _)|(with_reducible refine Kd.C_drewN ?_ _)|(with_reducible refine Kd.C_drew ?_)));(case side2=>exact (Kd.R_reads' HO_290000.out).2.1);rintro e w149 ⟨rfl,hb⟩;refine ⟨_,rfl,?_⟩;replace HO_279000:=Aside0.mk (Kd.R_below (kr HO_279000) hb);replace HO_284000:=Aside0.mk (Kd.R_below (kr HO_284000) hb);replace HO_290000:=Aside0.mk (Kd.R_below (kr HO_290000) hb);replace HO_312000:=Aside0.mk (Kd.R_below (kr HO_312000) hb);replace BK267:=Aside0.mk (blk_below (bk BK267) hb);replace BK278:=Aside0.mk (blk_below (bk BK278) hb);replace BK283:=Aside0.mk (blk_below (bk BK283) hb);replace BK289:=Aside0.mk (blk_below (bk BK289) hb);replace BK311:=Aside0.mk (blk_below (bk BK311) hb);replace HB:=Aside0.mk (below_step bl hb);(try clear hb);(try clear hb2);(try clear hk);(try clear hi)))
              go_ret
              exact ⟨er,bl⟩
     ·replace c59:=Bool.eq_false_iff.mpr c59
      subst c59
      rw [if_neg nft] at H
      exact absurd H (by simp)

end Go.Proofs.Ytdffkcbaijbhoaa.PFnExactCancelDue
