/- Contracts of functions of the given program: what each call answers. Written by a program of this session, out of the text of the functions. -/
import Derived.Test.YtnkpjpfmjkiidaaPFnExactMoveBackx0
import Derived.Test.YtnkpjpfmjkiidaaPFnExactMoveBackx1
import Derived.Test.YtnkpjpfmjkiidaaPFnExactMoveBackx5
import Derived.Test.YtnkpjpfmjkiidaaPFnExactMoveBackx10
import Derived.Test.YtnkpjpfmjkiidaaPFnExactMoveBackx11
import Derived.Test.YtnkpjpfmjkiidaaZFnExactMoveBack
namespace Go.Proofs.Ytnkpjpfmjkiidaa.PFnExactMoveBack
open Go.RowKit Go.Proofs.YtnkpjpfmjkiidaaW.PrintWords Go.Proofs.YtnkpjpfmjkiidaaW.PrintLast Go.Proofs.YtnkpjpfmjkiidaaW.PrintMore Go.Proofs.Ytnkpjpfmjkiidaa.Giv Go.Proofs.Ytnkpjpfmjkiidaa.Prs
attribute [local go_sem] max2_int min2_int max_two min_two max_three min_three max_four min_four   -- for this text's walks alone
set_option linter.unusedVariables false
set_option linter.unusedSimpArgs false

/-! ### laws_FnExactMoveBack: function 3 -/
mutual
def laws_FnExactMoveBack.j0:Nat→Int→Bool→Bool→Bool→List (S100)→Int→Int→Int→Int→List (S97)→Int→Int→Int→Int→List (S97)→Int→Int→Int→Int→List (S97)→Int→Int→Int→Int→Option (Bool)
 | 0,_,_,_,_,_,_,_,_,_,_,_,_,_,_,_,_,_,_,_,_,_,_,_,_=>none
 | k + 1,x1,x7,x10,x44,x350000,x350001,x350002,x350003,x350004,x367000,x367001,x367002,x367003,x367004,x375000,x375001,x375002,x375003,x375004,x384000,x384001,x384002,x384003,x384004=>if x44=true then (none) else ((laws_toQueue.f k x350000 x350001 x350002 x350003 x350004).bind fun bt385=>((laws_eqQueue.f k x375000 x375001 x375002 x375003 x375004 bt385.1 bt385.2.1 bt385.2.2.1 bt385.2.2.2.1 bt385.2.2.2.2).bind fun t392=>(if t392=true then ((laws_markQueue.f k x375000 x375001 x375002 x375003 x375004 1).bind fun bt393=>(if bt393.1 < 0 then (laws_FnExactMoveBack.j1 k x1 x7 true x350000 x350001 x350002 x350003 x350004 x367000 x367001 x367002 x367003 x367004 x384000 x384001 x384002 x384003 x384004) else ((laws_eqQueue.f k x384000 x384001 x384002 x384003 x384004 x367000 x367001 x367002 x367003 x367004).bind fun t395=>(if t395=true then (laws_FnExactMoveBack.j1 k x1 x7 (x10 != x7) x350000 x350001 x350002 x350003 x350004 x367000 x367001 x367002 x367003 x367004 x384000 x384001 x384002 x384003 x384004) else (laws_FnExactMoveBack.j1 k x1 x7 true x350000 x350001 x350002 x350003 x350004 x367000 x367001 x367002 x367003 x367004 x384000 x384001 x384002 x384003 x384004))))) else (none))))
def laws_FnExactMoveBack.j1:Nat→Int→Bool→Bool→List (S100)→Int→Int→Int→Int→List (S97)→Int→Int→Int→Int→List (S97)→Int→Int→Int→Int→Option (Bool)
 | 0,_,_,_,_,_,_,_,_,_,_,_,_,_,_,_,_,_,_=>none
 | k + 1,x1,x7,x65,x350000,x350001,x350002,x350003,x350004,x367000,x367001,x367002,x367003,x367004,x384000,x384001,x384002,x384003,x384004=>if x65=true then (none) else ((laws_markQueue.f k x384000 x384001 x384002 x384003 x384004 1).bind fun bt396=>((laws_heldQueue.f k bt396.2 x384001 x384002 x384003 x384004 1).bind fun t398=>(if t398 < 0 then (none) else (if t398=bt396.1 then ((laws_toQueue.f k x350000 x350001 x350002 x350003 x350004).bind fun bt399=>((impl_MoveBack.f k bt399.1 bt399.2.1 bt399.2.2.1 bt399.2.2.2.1 bt399.2.2.2.2 x1).bind fun bt406=>((laws_eqQueue.f k bt406.1 bt406.2.1 bt406.2.2.1 bt406.2.2.2.1 bt406.2.2.2.2.1 x367000 x367001 x367002 x367003 x367004).bind fun t415=>(if t415=true then (laws_FnExactMoveBack.j2 k bt396.1 (bt406.2.2.2.2.2 != x7) bt396.2 x384001 x384002 x384003 x384004) else (laws_FnExactMoveBack.j2 k bt396.1 true bt396.2 x384001 x384002 x384003 x384004))))) else (none)))))
def laws_FnExactMoveBack.j2:Nat→Int→Bool→List (S97)→Int→Int→Int→Int→Option (Bool)
 | 0,_,_,_,_,_,_,_=>none
 | k + 1,x12,x92,x384000,x384001,x384002,x384003,x384004=>if x92=true then (none) else ((laws_heldQueue.f k x384000 x384001 x384002 x384003 x384004 1).bind fun t416=>(if t416 < 0 then (none) else (if t416=x12 then (some true) else (none))))
end
def laws_FnExactMoveBack.f (k:Nat) (l0_0:List (S100)) (a0_1:Int) (a0_2:Int) (a0_3:Int) (a0_4:Int) (a1:Int):Option (Bool):=(laws_szQueue.f l0_0 a0_1 a0_2 a0_3 a0_4 1048576).bind fun t350=>(if t350 < 0 then (some true) else ((laws_toQueue.f k l0_0 a0_1 a0_2 a0_3 a0_4).bind fun bt351=>((spec_MoveBack.f k bt351.1 bt351.2.1 bt351.2.2.1 bt351.2.2.2.1 bt351.2.2.2.2 a1).bind fun bt358=>((laws_toQueue.f k l0_0 a0_1 a0_2 a0_3 a0_4).bind fun bt367=>((impl_MoveBack.f k bt367.1 bt367.2.1 bt367.2.2.1 bt367.2.2.2.1 bt367.2.2.2.2 a1).bind fun bt375=>((laws_eqQueue.f k bt375.1 bt375.2.1 bt375.2.2.1 bt375.2.2.2.1 bt375.2.2.2.2.1 bt358.1 bt358.2.1 bt358.2.2.1 bt358.2.2.2.1 bt358.2.2.2.2.1).bind fun t384=>(if t384=true then (laws_FnExactMoveBack.j0 k a1 bt358.2.2.2.2.2 bt375.2.2.2.2.2 (bt375.2.2.2.2.2 != bt358.2.2.2.2.2) l0_0 a0_1 a0_2 a0_3 a0_4 bt358.1 bt358.2.1 bt358.2.2.1 bt358.2.2.2.1 bt358.2.2.2.2.1 bt367.1 bt367.2.1 bt367.2.2.1 bt367.2.2.2.1 bt367.2.2.2.2 bt375.1 bt375.2.1 bt375.2.2.1 bt375.2.2.2.1 bt375.2.2.2.2.1) else (laws_FnExactMoveBack.j0 k a1 bt358.2.2.2.2.2 bt375.2.2.2.2.2 true l0_0 a0_1 a0_2 a0_3 a0_4 bt358.1 bt358.2.1 bt358.2.2.1 bt358.2.2.2.1 bt358.2.2.2.2.1 bt367.1 bt367.2.1 bt367.2.2.1 bt367.2.2.2.1 bt367.2.2.2.2 bt375.1 bt375.2.1 bt375.2.2.1 bt375.2.2.2.1 bt375.2.2.2.2.1))))))))
theorem laws_FnExactMoveBack.mono_l:∀ k,(∀ y0 y1 y2 y3 y4 y5 y6 y7 y8 y9 y10 y11 y12 y13 y14 y15 y16 y17 y18 y19 y20 y21 y22 y23,LeO (laws_FnExactMoveBack.j0 k y0 y1 y2 y3 y4 y5 y6 y7 y8 y9 y10 y11 y12 y13 y14 y15 y16 y17 y18 y19 y20 y21 y22 y23) (laws_FnExactMoveBack.j0 (k + 1) y0 y1 y2 y3 y4 y5 y6 y7 y8 y9 y10 y11 y12 y13 y14 y15 y16 y17 y18 y19 y20 y21 y22 y23))∧(∀ y0 y1 y2 y3 y4 y5 y6 y7 y8 y9 y10 y11 y12 y13 y14 y15 y16 y17,LeO (laws_FnExactMoveBack.j1 k y0 y1 y2 y3 y4 y5 y6 y7 y8 y9 y10 y11 y12 y13 y14 y15 y16 y17) (laws_FnExactMoveBack.j1 (k + 1) y0 y1 y2 y3 y4 y5 y6 y7 y8 y9 y10 y11 y12 y13 y14 y15 y16 y17))∧(∀ y0 y1 y2 y3 y4 y5 y6,LeO (laws_FnExactMoveBack.j2 k y0 y1 y2 y3 y4 y5 y6) (laws_FnExactMoveBack.j2 (k + 1) y0 y1 y2 y3 y4 y5 y6))
 | 0=>⟨fun _ _ _ _ _ _ _ _ _ _ _ _ _ _ _ _ _ _ _ _ _ _ _ _ r h=>by simp [laws_FnExactMoveBack.j0] at h,fun _ _ _ _ _ _ _ _ _ _ _ _ _ _ _ _ _ _ r h=>by simp [laws_FnExactMoveBack.j1] at h,fun _ _ _ _ _ _ _ r h=>by simp [laws_FnExactMoveBack.j2] at h⟩
 | k + 1=>by
  obtain ⟨ih0,ih1,ih2⟩:=laws_FnExactMoveBack.mono_l k
  refine ⟨?_,?_,?_⟩
  ·intro y0 y1 y2 y3 y4 y5 y6 y7 y8 y9 y10 y11 y12 y13 y14 y15 y16 y17 y18 y19 y20 y21 y22 y23
   unfold laws_FnExactMoveBack.j0
   repeat' first
   | (with_reducible exact ih0 _ _ _ _ _ _ _ _ _ _ _ _ _ _ _ _ _ _ _ _ _ _ _ _)
   | (with_reducible exact ih1 _ _ _ _ _ _ _ _ _ _ _ _ _ _ _ _ _ _)
   | (with_reducible exact ih2 _ _ _ _ _ _ _)
   | (with_reducible exact impl_MoveBack.mono _ _ _ _ _ _ _)
   | (with_reducible exact laws_eqQueue.mono _ _ _ _ _ _ _ _ _ _ _)
   | (with_reducible exact laws_heldQueue.mono _ _ _ _ _ _ _)
   | (with_reducible exact laws_markQueue.mono _ _ _ _ _ _ _)
   | (with_reducible exact laws_toQueue.mono _ _ _ _ _ _)
   | (with_reducible exact spec_MoveBack.mono _ _ _ _ _ _ _)
   | (with_reducible exact LeO.refl _)
   | (with_reducible exact LeO.none _)
   | (with_reducible refine LeO.ite ?_ ?_)
   | (with_reducible refine LeO.bind ?_ (fun _=>?_))
   | exact ih0 _ _ _ _ _ _ _ _ _ _ _ _ _ _ _ _ _ _ _ _ _ _ _ _
   | exact ih1 _ _ _ _ _ _ _ _ _ _ _ _ _ _ _ _ _ _
   | exact ih2 _ _ _ _ _ _ _
   | exact impl_MoveBack.mono _ _ _ _ _ _ _
   | exact laws_eqQueue.mono _ _ _ _ _ _ _ _ _ _ _
   | exact laws_heldQueue.mono _ _ _ _ _ _ _
   | exact laws_markQueue.mono _ _ _ _ _ _ _
   | exact laws_toQueue.mono _ _ _ _ _ _
   | exact spec_MoveBack.mono _ _ _ _ _ _ _
   | exact LeO.none _
   | refine LeO.ite ?_ ?_
   | refine LeO.bind ?_ (fun _=>?_)
  ·intro y0 y1 y2 y3 y4 y5 y6 y7 y8 y9 y10 y11 y12 y13 y14 y15 y16 y17
   unfold laws_FnExactMoveBack.j1
   repeat' first
   | (with_reducible exact ih0 _ _ _ _ _ _ _ _ _ _ _ _ _ _ _ _ _ _ _ _ _ _ _ _)
   | (with_reducible exact ih1 _ _ _ _ _ _ _ _ _ _ _ _ _ _ _ _ _ _)
   | (with_reducible exact ih2 _ _ _ _ _ _ _)
   | (with_reducible exact impl_MoveBack.mono _ _ _ _ _ _ _)
   | (with_reducible exact laws_eqQueue.mono _ _ _ _ _ _ _ _ _ _ _)
   | (with_reducible exact laws_heldQueue.mono _ _ _ _ _ _ _)
   | (with_reducible exact laws_markQueue.mono _ _ _ _ _ _ _)
   | (with_reducible exact laws_toQueue.mono _ _ _ _ _ _)
   | (with_reducible exact spec_MoveBack.mono _ _ _ _ _ _ _)
   | (with_reducible exact LeO.refl _)
   | (with_reducible exact LeO.none _)
   | (with_reducible refine LeO.ite ?_ ?_)
   | (with_reducible refine LeO.bind ?_ (fun _=>?_))
   | exact ih0 _ _ _ _ _ _ _ _ _ _ _ _ _ _ _ _ _ _ _ _ _ _ _ _
   | exact ih1 _ _ _ _ _ _ _ _ _ _ _ _ _ _ _ _ _ _
   | exact ih2 _ _ _ _ _ _ _
   | exact impl_MoveBack.mono _ _ _ _ _ _ _
   | exact laws_eqQueue.mono _ _ _ _ _ _ _ _ _ _ _
   | exact laws_heldQueue.mono _ _ _ _ _ _ _
   | exact laws_markQueue.mono _ _ _ _ _ _ _
   | exact laws_toQueue.mono _ _ _ _ _ _
   | exact spec_MoveBack.mono _ _ _ _ _ _ _
   | exact LeO.none _
   | refine LeO.ite ?_ ?_
   | refine LeO.bind ?_ (fun _=>?_)
  ·intro y0 y1 y2 y3 y4 y5 y6
   unfold laws_FnExactMoveBack.j2
   repeat' first
   | (with_reducible exact ih0 _ _ _ _ _ _ _ _ _ _ _ _ _ _ _ _ _ _ _ _ _ _ _ _)
   | (with_reducible exact ih1 _ _ _ _ _ _ _ _ _ _ _ _ _ _ _ _ _ _)
   | (with_reducible exact ih2 _ _ _ _ _ _ _)
   | (with_reducible exact impl_MoveBack.mono _ _ _ _ _ _ _)
   | (with_reducible exact laws_eqQueue.mono _ _ _ _ _ _ _ _ _ _ _)
   | (with_reducible exact laws_heldQueue.mono _ _ _ _ _ _ _)
   | (with_reducible exact laws_markQueue.mono _ _ _ _ _ _ _)
   | (with_reducible exact laws_toQueue.mono _ _ _ _ _ _)
   | (with_reducible exact spec_MoveBack.mono _ _ _ _ _ _ _)
   | (with_reducible exact LeO.refl _)
   | (with_reducible exact LeO.none _)
   | (with_reducible refine LeO.ite ?_ ?_)
   | (with_reducible refine LeO.bind ?_ (fun _=>?_))
   | exact ih0 _ _ _ _ _ _ _ _ _ _ _ _ _ _ _ _ _ _ _ _ _ _ _ _
   | exact ih1 _ _ _ _ _ _ _ _ _ _ _ _ _ _ _ _ _ _
   | exact ih2 _ _ _ _ _ _ _
   | exact impl_MoveBack.mono _ _ _ _ _ _ _
   | exact laws_eqQueue.mono _ _ _ _ _ _ _ _ _ _ _
   | exact laws_heldQueue.mono _ _ _ _ _ _ _
   | exact laws_markQueue.mono _ _ _ _ _ _ _
   | exact laws_toQueue.mono _ _ _ _ _ _
   | exact spec_MoveBack.mono _ _ _ _ _ _ _
   | exact LeO.none _
   | refine LeO.ite ?_ ?_
   | refine LeO.bind ?_ (fun _=>?_)
theorem laws_FnExactMoveBack.mono:∀ a0 a1 a2 a3 a4 a5 k,LeO (laws_FnExactMoveBack.f k a0 a1 a2 a3 a4 a5) (laws_FnExactMoveBack.f (k + 1) a0 a1 a2 a3 a4 a5):=by
 intro a0 a1 a2 a3 a4 a5 k
 obtain ⟨ih0,ih1,ih2⟩:=laws_FnExactMoveBack.mono_l k
 unfold laws_FnExactMoveBack.f
 repeat' first
   | (with_reducible exact ih0 _ _ _ _ _ _ _ _ _ _ _ _ _ _ _ _ _ _ _ _ _ _ _ _)
   | (with_reducible exact ih1 _ _ _ _ _ _ _ _ _ _ _ _ _ _ _ _ _ _)
   | (with_reducible exact ih2 _ _ _ _ _ _ _)
   | (with_reducible exact impl_MoveBack.mono _ _ _ _ _ _ _)
   | (with_reducible exact laws_eqQueue.mono _ _ _ _ _ _ _ _ _ _ _)
   | (with_reducible exact laws_heldQueue.mono _ _ _ _ _ _ _)
   | (with_reducible exact laws_markQueue.mono _ _ _ _ _ _ _)
   | (with_reducible exact laws_toQueue.mono _ _ _ _ _ _)
   | (with_reducible exact spec_MoveBack.mono _ _ _ _ _ _ _)
   | (with_reducible exact LeO.refl _)
   | (with_reducible exact LeO.none _)
   | (with_reducible refine LeO.ite ?_ ?_)
   | (with_reducible refine LeO.bind ?_ (fun _=>?_))
   | exact ih0 _ _ _ _ _ _ _ _ _ _ _ _ _ _ _ _ _ _ _ _ _ _ _ _
   | exact ih1 _ _ _ _ _ _ _ _ _ _ _ _ _ _ _ _ _ _
   | exact ih2 _ _ _ _ _ _ _
   | exact impl_MoveBack.mono _ _ _ _ _ _ _
   | exact laws_eqQueue.mono _ _ _ _ _ _ _ _ _ _ _
   | exact laws_heldQueue.mono _ _ _ _ _ _ _
   | exact laws_markQueue.mono _ _ _ _ _ _ _
   | exact laws_toQueue.mono _ _ _ _ _ _
   | exact spec_MoveBack.mono _ _ _ _ _ _ _
   | exact LeO.none _
   | refine LeO.ite ?_ ?_
   | refine LeO.bind ?_ (fun _=>?_)
set_option maxHeartbeats 8000000 in
set_option maxRecDepth 100000 in
theorem laws_FnExactMoveBack.calls (k:Nat) (A0_0:Option Addr) (c0_0:Nat) (l0_0:List (S100)) (a0_1:Int) (a0_2:Int) (a0_3:Int) (a0_4:Int) (a1:Int) (r:Bool) (w:World) (hr0_0:Kd.C k100 w A0_0 l0_0.length l0_0) (hc0_0:l0_0.length≤c0_0) (h:laws_FnExactMoveBack.f k l0_0 a0_1 a0_2 a0_3 a0_4 a1=some r) :
  Calls Try.prog 3 #[.agg #[.slice A0_0 l0_0.length c0_0,.int .i64 a0_1,.int .i64 a0_2,.int .i64 a0_3,.int .i64 a0_4],.int .i64 a1] w fun e w'=>e = .returned (.bool r)∧Below w.heap.size w w':=by
 have hu24:=Try.underlying24
 have hu28:=Try.underlying28
 have HR0_0:=Aside0.mk hr0_0
 have HC0_0:=Aside0.mk hc0_0
 clear hr0_0 hc0_0
 have HB:=Aside0.mk (Below.refl w.heap.size w)
 have H:((laws_szQueue.f l0_0 a0_1 a0_2 a0_3 a0_4 1048576).bind fun t350=>(if t350 < 0 then (some true) else ((laws_toQueue.f k l0_0 a0_1 a0_2 a0_3 a0_4).bind fun bt351=>((spec_MoveBack.f k bt351.1 bt351.2.1 bt351.2.2.1 bt351.2.2.2.1 bt351.2.2.2.2 a1).bind fun bt358=>((laws_toQueue.f k l0_0 a0_1 a0_2 a0_3 a0_4).bind fun bt367=>((impl_MoveBack.f k bt367.1 bt367.2.1 bt367.2.2.1 bt367.2.2.2.1 bt367.2.2.2.2 a1).bind fun bt375=>((laws_eqQueue.f k bt375.1 bt375.2.1 bt375.2.2.1 bt375.2.2.2.1 bt375.2.2.2.2.1 bt358.1 bt358.2.1 bt358.2.2.1 bt358.2.2.2.1 bt358.2.2.2.2.1).bind fun t384=>(if t384=true then (laws_FnExactMoveBack.j0 k a1 bt358.2.2.2.2.2 bt375.2.2.2.2.2 (bt375.2.2.2.2.2 != bt358.2.2.2.2.2) l0_0 a0_1 a0_2 a0_3 a0_4 bt358.1 bt358.2.1 bt358.2.2.1 bt358.2.2.2.1 bt358.2.2.2.2.1 bt367.1 bt367.2.1 bt367.2.2.1 bt367.2.2.2.1 bt367.2.2.2.2 bt375.1 bt375.2.1 bt375.2.2.1 bt375.2.2.2.1 bt375.2.2.2.2.1) else (laws_FnExactMoveBack.j0 k a1 bt358.2.2.2.2.2 bt375.2.2.2.2.2 true l0_0 a0_1 a0_2 a0_3 a0_4 bt358.1 bt358.2.1 bt358.2.2.1 bt358.2.2.2.1 bt358.2.2.2.2.1 bt367.1 bt367.2.1 bt367.2.2.1 bt367.2.2.2.1 bt367.2.2.2.2 bt375.1 bt375.2.1 bt375.2.2.1 bt375.2.2.2.1 bt375.2.2.2.2.1)))))))))=some r:=h
 clear h
 replace H:=Option.bind_eq_some_iff.mp H
 obtain ⟨t350,A30,H⟩:=H
 have A3:=Aside0.mk A30
 clear A30
 by_cases c4:t350 < 0
 ·rw [if_pos c4] at H
  have c4b0:decide (t350 < 0)=true:=decide_eq_true c4
  clear c4
  obtain rfl:=Option.some.inj H
  go_enter Try.func3,Try.ntmps3
  go_wp2_with (first|((with_reducible refine gate_dst (N:=2) rfl ?_);refine bx 2 #[.slice A0_0 l0_0.length c0_0,.int .i64 a0_1,.int .i64 a0_2,.int .i64 a0_3,.int .i64 a0_4] 24 ?_;intro gb349 hg w5 hbox hb;have BK349:=Aside0.mk (hbox);have GW349:=Aside0.mk (bz hg:w.heap.size≤gb349);have GE349:=GW349;replace HB:=Aside0.mk (below_step bl hb);clear hb hbox hg;obtain ⟨hcz6_0,hcz6_1,hcz6_2,hcz6_3,hcz6_4,hfz6_0,hfz6_1,hfz6_2,hfz6_3,hfz6_4⟩:=ck5 BK349.out)|((with_reducible refine gate_callee (f:=12) rfl ?_);refine gl Try.func12 #[.agg #[.slice A0_0 l0_0.length c0_0,.int .i64 a0_1,.int .i64 a0_2,.int .i64 a0_3,.int .i64 a0_4],.int .i64 1048576] ?_;(with_reducible refine (laws_szQueue.calls _ _ l0_0 a0_1 a0_2 a0_3 a0_4 1048576 t350 _ ?side1 ?side2 A3.out).mono ?_);(case side1=>exact kc HR0_0);(case side2=>exact HC0_0.out);rintro e w7 ⟨rfl,hb⟩;refine ⟨_,rfl,?_⟩;replace BK349:=Aside0.mk (blk_below (bk BK349) hb);replace HB:=Aside0.mk (below_step bl hb);(try clear hb);(try clear hb2);(try clear hk);(try clear hi)))
  go_ret
  exact ⟨by first|rfl|(simp [errW_none,errW_some] <;> rfl)|(simp [*,errW_none,errW_some] <;> rfl),bl⟩
 ·rw [if_neg c4] at H
  have c4b0:decide (t350 < 0)=false:=decide_eq_false c4
  clear c4
  replace H:=Option.bind_eq_some_iff.mp H
  obtain ⟨⟨t351,t354,t355,t356,t357⟩,A80,H⟩:=H
  replace H:((spec_MoveBack.f k t351 t354 t355 t356 t357 a1).bind fun bt358=>((laws_toQueue.f k l0_0 a0_1 a0_2 a0_3 a0_4).bind fun bt367=>((impl_MoveBack.f k bt367.1 bt367.2.1 bt367.2.2.1 bt367.2.2.2.1 bt367.2.2.2.2 a1).bind fun bt375=>((laws_eqQueue.f k bt375.1 bt375.2.1 bt375.2.2.1 bt375.2.2.2.1 bt375.2.2.2.2.1 bt358.1 bt358.2.1 bt358.2.2.1 bt358.2.2.2.1 bt358.2.2.2.2.1).bind fun t384=>(if t384=true then (laws_FnExactMoveBack.j0 k a1 bt358.2.2.2.2.2 bt375.2.2.2.2.2 (bt375.2.2.2.2.2 != bt358.2.2.2.2.2) l0_0 a0_1 a0_2 a0_3 a0_4 bt358.1 bt358.2.1 bt358.2.2.1 bt358.2.2.2.1 bt358.2.2.2.2.1 bt367.1 bt367.2.1 bt367.2.2.1 bt367.2.2.2.1 bt367.2.2.2.2 bt375.1 bt375.2.1 bt375.2.2.1 bt375.2.2.2.1 bt375.2.2.2.2.1) else (laws_FnExactMoveBack.j0 k a1 bt358.2.2.2.2.2 bt375.2.2.2.2.2 true l0_0 a0_1 a0_2 a0_3 a0_4 bt358.1 bt358.2.1 bt358.2.2.1 bt358.2.2.2.1 bt358.2.2.2.2.1 bt367.1 bt367.2.1 bt367.2.2.1 bt367.2.2.2.1 bt367.2.2.2.2 bt375.1 bt375.2.1 bt375.2.2.1 bt375.2.2.2.1 bt375.2.2.2.2.1))))))=some r:=H
  have A8:=Aside0.mk A80
  clear A80
  replace H:=Option.bind_eq_some_iff.mp H
  obtain ⟨⟨t358,t361,t362,t363,t364,t365⟩,A90,H⟩:=H
  replace H:((laws_toQueue.f k l0_0 a0_1 a0_2 a0_3 a0_4).bind fun bt367=>((impl_MoveBack.f k bt367.1 bt367.2.1 bt367.2.2.1 bt367.2.2.2.1 bt367.2.2.2.2 a1).bind fun bt375=>((laws_eqQueue.f k bt375.1 bt375.2.1 bt375.2.2.1 bt375.2.2.2.1 bt375.2.2.2.2.1 t358 t361 t362 t363 t364).bind fun t384=>(if t384=true then (laws_FnExactMoveBack.j0 k a1 t365 bt375.2.2.2.2.2 (bt375.2.2.2.2.2 != t365) l0_0 a0_1 a0_2 a0_3 a0_4 t358 t361 t362 t363 t364 bt367.1 bt367.2.1 bt367.2.2.1 bt367.2.2.2.1 bt367.2.2.2.2 bt375.1 bt375.2.1 bt375.2.2.1 bt375.2.2.2.1 bt375.2.2.2.2.1) else (laws_FnExactMoveBack.j0 k a1 t365 bt375.2.2.2.2.2 true l0_0 a0_1 a0_2 a0_3 a0_4 t358 t361 t362 t363 t364 bt367.1 bt367.2.1 bt367.2.2.1 bt367.2.2.2.1 bt367.2.2.2.2 bt375.1 bt375.2.1 bt375.2.2.1 bt375.2.2.2.1 bt375.2.2.2.2.1)))))=some r:=H
  have A9:=Aside0.mk A90
  clear A90
  replace H:=Option.bind_eq_some_iff.mp H
  obtain ⟨⟨t367,t370,t371,t372,t373⟩,A100,H⟩:=H
  replace H:((impl_MoveBack.f k t367 t370 t371 t372 t373 a1).bind fun bt375=>((laws_eqQueue.f k bt375.1 bt375.2.1 bt375.2.2.1 bt375.2.2.2.1 bt375.2.2.2.2.1 t358 t361 t362 t363 t364).bind fun t384=>(if t384=true then (laws_FnExactMoveBack.j0 k a1 t365 bt375.2.2.2.2.2 (bt375.2.2.2.2.2 != t365) l0_0 a0_1 a0_2 a0_3 a0_4 t358 t361 t362 t363 t364 t367 t370 t371 t372 t373 bt375.1 bt375.2.1 bt375.2.2.1 bt375.2.2.2.1 bt375.2.2.2.2.1) else (laws_FnExactMoveBack.j0 k a1 t365 bt375.2.2.2.2.2 true l0_0 a0_1 a0_2 a0_3 a0_4 t358 t361 t362 t363 t364 t367 t370 t371 t372 t373 bt375.1 bt375.2.1 bt375.2.2.1 bt375.2.2.2.1 bt375.2.2.2.2.1))))=some r:=H
  have A10:=Aside0.mk A100
  clear A100
  replace H:=Option.bind_eq_some_iff.mp H
  obtain ⟨⟨t375,t378,t379,t380,t381,t382⟩,A110,H⟩:=H
  replace H:((laws_eqQueue.f k t375 t378 t379 t380 t381 t358 t361 t362 t363 t364).bind fun t384=>(if t384=true then (laws_FnExactMoveBack.j0 k a1 t365 t382 (t382 != t365) l0_0 a0_1 a0_2 a0_3 a0_4 t358 t361 t362 t363 t364 t367 t370 t371 t372 t373 t375 t378 t379 t380 t381) else (laws_FnExactMoveBack.j0 k a1 t365 t382 true l0_0 a0_1 a0_2 a0_3 a0_4 t358 t361 t362 t363 t364 t367 t370 t371 t372 t373 t375 t378 t379 t380 t381)))=some r:=H
  have A11:=Aside0.mk A110
  clear A110
  have HC12:=Aside0.mk H
  clear H
  go_enter Try.func3,Try.ntmps3
  go_upto_region 8 with (first|((with_reducible refine gate_dst (N:=2) rfl ?_);refine bx 2 #[.slice A0_0 l0_0.length c0_0,.int .i64 a0_1,.int .i64 a0_2,.int .i64 a0_3,.int .i64 a0_4] 24 ?_;intro gb349 hg w13 hbox hb;have BK349:=Aside0.mk (hbox);have GW349:=Aside0.mk (bz hg:w.heap.size≤gb349);have GE349:=GW349;replace HB:=Aside0.mk (below_step bl hb);clear hb hbox hg;obtain ⟨hcz14_0,hcz14_1,hcz14_2,hcz14_3,hcz14_4,hfz14_0,hfz14_1,hfz14_2,hfz14_3,hfz14_4⟩:=ck5 BK349.out)|((with_reducible refine gate_callee (f:=12) rfl ?_);refine gl Try.func12 #[.agg #[.slice A0_0 l0_0.length c0_0,.int .i64 a0_1,.int .i64 a0_2,.int .i64 a0_3,.int .i64 a0_4],.int .i64 1048576] ?_;(with_reducible refine (laws_szQueue.calls _ _ l0_0 a0_1 a0_2 a0_3 a0_4 1048576 t350 _ ?side1 ?side2 A3.out).mono ?_);(case side1=>exact kc HR0_0);(case side2=>exact HC0_0.out);rintro e w15 ⟨rfl,hb⟩;refine ⟨_,rfl,?_⟩;replace BK349:=Aside0.mk (blk_below (bk BK349) hb);replace HB:=Aside0.mk (below_step bl hb);(try clear hb);(try clear hb2);(try clear hk);(try clear hi);obtain ⟨hcz16_0,hcz16_1,hcz16_2,hcz16_3,hcz16_4,hfz16_0,hfz16_1,hfz16_2,hfz16_3,hfz16_4⟩:=ck5 BK349.out)|((with_reducible refine gate_callee (f:=14) rfl ?_);refine gl Try.func14 #[.agg #[.slice A0_0 l0_0.length c0_0,.int .i64 a0_1,.int .i64 a0_2,.int .i64 a0_3,.int .i64 a0_4]] ?_;(with_reducible refine (laws_toQueue.calls k _ _ l0_0 a0_1 a0_2 a0_3 a0_4 t351 t354 t355 t356 t357 _ ?side1 ?side2 A8.out).mono ?_);(case side1=>exact kc HR0_0);(case side2=>exact HC0_0.out);rintro e w17 ⟨v352,rfl,ho0,hb⟩;refine ⟨_,rfl,?_⟩;have HO353:=Aside0.mk (Kd.R_lower ho0 (below_size bl));replace BK349:=Aside0.mk (blk_below (bk BK349) hb);replace HB:=Aside0.mk (below_step bl hb);(try clear hb);(try clear hb2);(try clear hk);(try clear hi);(try clear ho0);obtain ⟨Ao18,co18,eo18⟩:=Kd.R_slice HO353.out;subst eo18)|((with_reducible refine gate_callee (f:=13) rfl ?_);refine gl Try.func13 #[.agg #[.slice Ao18 t351.length co18,.int .i64 t354,.int .i64 t355,.int .i64 t356,.int .i64 t357],.int .i64 a1] ?_;(with_reducible refine (spec_MoveBack.calls k _ _ t351 t354 t355 t356 t357 a1 t358 t361 t362 t363 t364 t365 _ ?side1 ?side2 A9.out).mono ?_);(case side1=>repeat (first|exact (Kd.R_reads' HO353.out).2.2|(with_reducible refine Kd.C_alloc ?_ _)|(with_reducible refine Kd.C_drewN ?_ _)|(with_reducible refine Kd.C_drew ?_)));(case side2=>exact (Kd.R_reads' HO353.out).2.1);rintro e w19 ⟨v359,rfl,ho0,hb⟩;refine ⟨_,rfl,?_⟩;have HO360:=Aside0.mk (Kd.R_lower (Kd.R_new' ho0 (Kd.R_lt (kr HO353))) (below_size bl));replace HO353:=Aside0.mk (Kd.R_elder' (kr HO353) (Kd.R_base ho0) hb);replace BK349:=Aside0.mk (blk_below (bk BK349) hb);replace HB:=Aside0.mk (below_step bl hb);(try clear hb);(try clear hb2);(try clear hk);(try clear hi);(try clear ho0))|((with_reducible refine gate_dst (N:=6) rfl ?_);refine bx 6 #[.slice none 0 0,.int .i64 0,.int .i64 0,.int .i64 0,.int .i64 0] 28 ?_;intro gb366 hg w20 hbox hb;replace HO353:=Aside0.mk (Kd.R_below (kr HO353) hb);replace HO360:=Aside0.mk (Kd.R_below (kr HO360) hb);have BK366:=Aside0.mk (hbox);have GW366:=Aside0.mk (bz hg:w.heap.size≤gb366);have GE366:=GW366;replace HB:=Aside0.mk (below_step bl hb);have NB349_366:=Aside0.mk (nl hg BK349:gb349≠gb366);have NB366_349:=Aside0.mk (nr hg BK349:gb366≠gb349);replace BK349:=Aside0.mk (blk_below (bk BK349) hb);clear hb hbox hg;obtain ⟨Ao21,co21,eo21⟩:=Kd.R_slice HO360.out;subst eo21;have hnb22:=NB366_349.out;have hnc22:=NB349_366.out;obtain ⟨hcz23_0,hcz23_1,hcz23_2,hcz23_3,hcz23_4,hfz23_0,hfz23_1,hfz23_2,hfz23_3,hfz23_4⟩:=ck5 BK366.out;obtain ⟨hcz24_0,hcz24_1,hcz24_2,hcz24_3,hcz24_4,hfz24_0,hfz24_1,hfz24_2,hfz24_3,hfz24_4⟩:=ck5 BK349.out)|((with_reducible refine gate_callee (f:=14) rfl ?_);refine gl Try.func14 #[.agg #[.slice A0_0 l0_0.length c0_0,.int .i64 a0_1,.int .i64 a0_2,.int .i64 a0_3,.int .i64 a0_4]] ?_;(with_reducible refine (laws_toQueue.calls k _ _ l0_0 a0_1 a0_2 a0_3 a0_4 t367 t370 t371 t372 t373 _ ?side1 ?side2 A10.out).mono ?_);(case side1=>exact Kd.C_below HR0_0.out bl);(case side2=>exact HC0_0.out);rintro e w25 ⟨v368,rfl,ho0,hb⟩;refine ⟨_,rfl,?_⟩;have HO369:=Aside0.mk (Kd.R_lower (Kd.R_new' (Kd.R_new' ho0 (Kd.R_lt (by (with_reducible repeat (first|apply Kd.R_alloc|apply Kd.R_drewN|apply Kd.R_drew));exact (Kd.R_mono (Kd.R_far (p:=⟨gb366,4,none⟩) (Kd.R_far (p:=⟨gb366,3,none⟩) (Kd.R_far (p:=⟨gb366,2,none⟩) (Kd.R_far (p:=⟨gb366,1,none⟩) (Kd.R_far (p:=⟨gb366,0,none⟩) (Kd.R_types HO353.out BK366.out (by decide)) (fun _ hk=>hk.2) (.slice Ao21 t358.length co21)) (fun _ hk=>hk.2) (.int .i64 t361)) (fun _ hk=>hk.2) (.int .i64 t362)) (fun _ hk=>hk.2) (.int .i64 t363)) (fun _ hk=>hk.2) (.int .i64 t364)) (fun _ h_=>h_.1))))) (Kd.R_lt (by (with_reducible repeat (first|apply Kd.R_alloc|apply Kd.R_drewN|apply Kd.R_drew));exact (Kd.R_mono (Kd.R_far (p:=⟨gb366,4,none⟩) (Kd.R_far (p:=⟨gb366,3,none⟩) (Kd.R_far (p:=⟨gb366,2,none⟩) (Kd.R_far (p:=⟨gb366,1,none⟩) (Kd.R_far (p:=⟨gb366,0,none⟩) (Kd.R_types HO360.out BK366.out (by decide)) (fun _ hk=>hk.2) (.slice Ao21 t358.length co21)) (fun _ hk=>hk.2) (.int .i64 t361)) (fun _ hk=>hk.2) (.int .i64 t362)) (fun _ hk=>hk.2) (.int .i64 t363)) (fun _ hk=>hk.2) (.int .i64 t364)) (fun _ h_=>h_.1))))) (below_size bl));replace HO353:=Aside0.mk (Kd.R_elder' (by (with_reducible repeat (first|apply Kd.R_alloc|apply Kd.R_drewN|apply Kd.R_drew));exact (Kd.R_mono (Kd.R_far (p:=⟨gb366,4,none⟩) (Kd.R_far (p:=⟨gb366,3,none⟩) (Kd.R_far (p:=⟨gb366,2,none⟩) (Kd.R_far (p:=⟨gb366,1,none⟩) (Kd.R_far (p:=⟨gb366,0,none⟩) (Kd.R_types HO353.out BK366.out (by decide)) (fun _ hk=>hk.2) (.slice Ao21 t358.length co21)) (fun _ hk=>hk.2) (.int .i64 t361)) (fun _ hk=>hk.2) (.int .i64 t362)) (fun _ hk=>hk.2) (.int .i64 t363)) (fun _ hk=>hk.2) (.int .i64 t364)) (fun _ h_=>h_.1))) (Kd.R_base ho0) hb);replace HO360:=Aside0.mk (Kd.R_elder' (by (with_reducible repeat (first|apply Kd.R_alloc|apply Kd.R_drewN|apply Kd.R_drew));exact (Kd.R_mono (Kd.R_far (p:=⟨gb366,4,none⟩) (Kd.R_far (p:=⟨gb366,3,none⟩) (Kd.R_far (p:=⟨gb366,2,none⟩) (Kd.R_far (p:=⟨gb366,1,none⟩) (Kd.R_far (p:=⟨gb366,0,none⟩) (Kd.R_types HO360.out BK366.out (by decide)) (fun _ hk=>hk.2) (.slice Ao21 t358.length co21)) (fun _ hk=>hk.2) (.int .i64 t361)) (fun _ hk=>hk.2) (.int .i64 t362)) (fun _ hk=>hk.2) (.int .i64 t363)) (fun _ hk=>hk.2) (.int .i64 t364)) (fun _ h_=>h_.1))) (Kd.R_base ho0) hb);replace BK349:=Aside0.mk (blk_below (g:=gb349) (o:=.cells #[.slice A0_0 l0_0.length c0_0,.int .i64 a0_1,.int .i64 a0_2,.int .i64 a0_3,.int .i64 a0_4] 24 (0,0)) (bf BK349) hb);replace BK366:=Aside0.mk (blk_below (g:=gb366) (o:=.cells #[.slice Ao21 t358.length co21,.int .i64 t361,.int .i64 t362,.int .i64 t363,.int .i64 t364] 28 (0,0)) (by (with_reducible repeat (first|refine blk_drewN ?_ _|refine blk_drew ?_|refine blk_alloc ?_ _));refine blk_put (cs:=#[.slice Ao21 t358.length co21,.int .i64 t361,.int .i64 t362,.int .i64 t363,.int .i64 0]) ?_ 4 _ rfl;(with_reducible repeat (first|refine blk_drewN ?_ _|refine blk_drew ?_|refine blk_alloc ?_ _));refine blk_put (cs:=#[.slice Ao21 t358.length co21,.int .i64 t361,.int .i64 t362,.int .i64 0,.int .i64 0]) ?_ 3 _ rfl;(with_reducible repeat (first|refine blk_drewN ?_ _|refine blk_drew ?_|refine blk_alloc ?_ _));refine blk_put (cs:=#[.slice Ao21 t358.length co21,.int .i64 t361,.int .i64 0,.int .i64 0,.int .i64 0]) ?_ 2 _ rfl;(with_reducible repeat (first|refine blk_drewN ?_ _|refine blk_drew ?_|refine blk_alloc ?_ _));refine blk_put (cs:=#[.slice Ao21 t358.length co21,.int .i64 0,.int .i64 0,.int .i64 0,.int .i64 0]) ?_ 1 _ rfl;(with_reducible repeat (first|refine blk_drewN ?_ _|refine blk_drew ?_|refine blk_alloc ?_ _));refine blk_put (cs:=#[.slice none 0 0,.int .i64 0,.int .i64 0,.int .i64 0,.int .i64 0]) ?_ 0 _ rfl;(with_reducible repeat (first|refine blk_drewN ?_ _|refine blk_drew ?_|refine blk_alloc ?_ _));exact BK366.out) hb);replace HB:=Aside0.mk (below_step bl hb);(try clear hb);(try clear hb2);(try clear hk);(try clear hi);(try clear ho0))|((with_reducible refine gate_dst (N:=8) rfl ?_);refine bx 8 #[.slice none 0 0,.int .i64 0,.int .i64 0,.int .i64 0,.int .i64 0] 28 ?_;intro gb374 hg w26 hbox hb;replace HO353:=Aside0.mk (Kd.R_below (kr HO353) hb);replace HO360:=Aside0.mk (Kd.R_below (kr HO360) hb);replace HO369:=Aside0.mk (Kd.R_below (kr HO369) hb);have BK374:=Aside0.mk (hbox);have GW374:=Aside0.mk (bz hg:w.heap.size≤gb374);have GE374:=GW374;replace HB:=Aside0.mk (below_step bl hb);have NB349_374:=Aside0.mk (nl hg BK349:gb349≠gb374);have NB374_349:=Aside0.mk (nr hg BK349:gb374≠gb349);replace BK349:=Aside0.mk (blk_below (bk BK349) hb);have NB366_374:=Aside0.mk (nl hg BK366:gb366≠gb374);have NB374_366:=Aside0.mk (nr hg BK366:gb374≠gb366);replace BK366:=Aside0.mk (blk_below (bk BK366) hb);clear hb hbox hg;obtain ⟨Ao27,co27,eo27⟩:=Kd.R_slice HO369.out;subst eo27;have hnb28:=NB374_349.out;have hnc28:=NB349_374.out;have hnb29:=NB374_366.out;have hnc29:=NB366_374.out;obtain ⟨hcz30_0,hcz30_1,hcz30_2,hcz30_3,hcz30_4,hfz30_0,hfz30_1,hfz30_2,hfz30_3,hfz30_4⟩:=ck5 BK374.out)|((with_reducible refine gate_callee (f:=15) rfl ?_);refine gl Try.func15 #[.agg #[.slice Ao27 t367.length co27,.int .i64 t370,.int .i64 t371,.int .i64 t372,.int .i64 t373],.int .i64 a1] ?_;(with_reducible refine (impl_MoveBack.calls k _ _ t367 t370 t371 t372 t373 a1 t375 t378 t379 t380 t381 t382 _ ?side1 ?side2 A11.out).mono ?_);(case side1=>refine (Kd.R_reads' (e:=97) (base:=w.heap.size) (ok:=fun k_=>((True∧some k_≠(.slice Ao18 t351.length co18:Value).ownBlock)∧some k_≠(.slice Ao21 t358.length co21:Value).ownBlock)) (n:=t367.length) (c:=co27) ?_).2.2;exact (by (with_reducible repeat (first|apply Kd.R_alloc|apply Kd.R_drewN|apply Kd.R_drew));exact (Kd.R_mono (Kd.R_far (p:=⟨gb374,4,none⟩) (Kd.R_far (p:=⟨gb374,3,none⟩) (Kd.R_far (p:=⟨gb374,2,none⟩) (Kd.R_far (p:=⟨gb374,1,none⟩) (Kd.R_far (p:=⟨gb374,0,none⟩) (Kd.R_types HO369.out BK374.out (by decide)) (fun _ hk=>hk.2) (.slice Ao27 t367.length co27)) (fun _ hk=>hk.2) (.int .i64 t370)) (fun _ hk=>hk.2) (.int .i64 t371)) (fun _ hk=>hk.2) (.int .i64 t372)) (fun _ hk=>hk.2) (.int .i64 t373)) (fun _ h_=>h_.1))));(case side2=>exact (Kd.R_reads' HO369.out).2.1);rintro e w31 ⟨v376,rfl,ho0,hb⟩;refine ⟨_,rfl,?_⟩;have HO377:=Aside0.mk (Kd.R_lower (Kd.R_new' (Kd.R_new' (Kd.R_new' ho0 (Kd.R_lt (by (with_reducible repeat (first|apply Kd.R_alloc|apply Kd.R_drewN|apply Kd.R_drew));exact (Kd.R_mono (Kd.R_far (p:=⟨gb374,4,none⟩) (Kd.R_far (p:=⟨gb374,3,none⟩) (Kd.R_far (p:=⟨gb374,2,none⟩) (Kd.R_far (p:=⟨gb374,1,none⟩) (Kd.R_far (p:=⟨gb374,0,none⟩) (Kd.R_types HO353.out BK374.out (by decide)) (fun _ hk=>hk.2) (.slice Ao27 t367.length co27)) (fun _ hk=>hk.2) (.int .i64 t370)) (fun _ hk=>hk.2) (.int .i64 t371)) (fun _ hk=>hk.2) (.int .i64 t372)) (fun _ hk=>hk.2) (.int .i64 t373)) (fun _ h_=>h_.1))))) (Kd.R_lt (by (with_reducible repeat (first|apply Kd.R_alloc|apply Kd.R_drewN|apply Kd.R_drew));exact (Kd.R_mono (Kd.R_far (p:=⟨gb374,4,none⟩) (Kd.R_far (p:=⟨gb374,3,none⟩) (Kd.R_far (p:=⟨gb374,2,none⟩) (Kd.R_far (p:=⟨gb374,1,none⟩) (Kd.R_far (p:=⟨gb374,0,none⟩) (Kd.R_types HO360.out BK374.out (by decide)) (fun _ hk=>hk.2) (.slice Ao27 t367.length co27)) (fun _ hk=>hk.2) (.int .i64 t370)) (fun _ hk=>hk.2) (.int .i64 t371)) (fun _ hk=>hk.2) (.int .i64 t372)) (fun _ hk=>hk.2) (.int .i64 t373)) (fun _ h_=>h_.1))))) (Kd.R_lt (by (with_reducible repeat (first|apply Kd.R_alloc|apply Kd.R_drewN|apply Kd.R_drew));exact (Kd.R_mono (Kd.R_far (p:=⟨gb374,4,none⟩) (Kd.R_far (p:=⟨gb374,3,none⟩) (Kd.R_far (p:=⟨gb374,2,none⟩) (Kd.R_far (p:=⟨gb374,1,none⟩) (Kd.R_far (p:=⟨gb374,0,none⟩) (Kd.R_types HO369.out BK374.out (by decide)) (fun _ hk=>hk.2) (.slice Ao27 t367.length co27)) (fun _ hk=>hk.2) (.int .i64 t370)) (fun _ hk=>hk.2) (.int .i64 t371)) (fun _ hk=>hk.2) (.int .i64 t372)) (fun _ hk=>hk.2) (.int .i64 t373)) (fun _ h_=>h_.1))))) (below_size bl));replace HO353:=Aside0.mk (Kd.R_elder' (by (with_reducible repeat (first|apply Kd.R_alloc|apply Kd.R_drewN|apply Kd.R_drew));exact (Kd.R_mono (Kd.R_far (p:=⟨gb374,4,none⟩) (Kd.R_far (p:=⟨gb374,3,none⟩) (Kd.R_far (p:=⟨gb374,2,none⟩) (Kd.R_far (p:=⟨gb374,1,none⟩) (Kd.R_far (p:=⟨gb374,0,none⟩) (Kd.R_types HO353.out BK374.out (by decide)) (fun _ hk=>hk.2) (.slice Ao27 t367.length co27)) (fun _ hk=>hk.2) (.int .i64 t370)) (fun _ hk=>hk.2) (.int .i64 t371)) (fun _ hk=>hk.2) (.int .i64 t372)) (fun _ hk=>hk.2) (.int .i64 t373)) (fun _ h_=>h_.1))) (Kd.R_base ho0) hb);replace HO360:=Aside0.mk (Kd.R_elder' (by (with_reducible repeat (first|apply Kd.R_alloc|apply Kd.R_drewN|apply Kd.R_drew));exact (Kd.R_mono (Kd.R_far (p:=⟨gb374,4,none⟩) (Kd.R_far (p:=⟨gb374,3,none⟩) (Kd.R_far (p:=⟨gb374,2,none⟩) (Kd.R_far (p:=⟨gb374,1,none⟩) (Kd.R_far (p:=⟨gb374,0,none⟩) (Kd.R_types HO360.out BK374.out (by decide)) (fun _ hk=>hk.2) (.slice Ao27 t367.length co27)) (fun _ hk=>hk.2) (.int .i64 t370)) (fun _ hk=>hk.2) (.int .i64 t371)) (fun _ hk=>hk.2) (.int .i64 t372)) (fun _ hk=>hk.2) (.int .i64 t373)) (fun _ h_=>h_.1))) (Kd.R_base ho0) hb);replace HO369:=Aside0.mk (Kd.R_elder' (by (with_reducible repeat (first|apply Kd.R_alloc|apply Kd.R_drewN|apply Kd.R_drew));exact (Kd.R_mono (Kd.R_far (p:=⟨gb374,4,none⟩) (Kd.R_far (p:=⟨gb374,3,none⟩) (Kd.R_far (p:=⟨gb374,2,none⟩) (Kd.R_far (p:=⟨gb374,1,none⟩) (Kd.R_far (p:=⟨gb374,0,none⟩) (Kd.R_types HO369.out BK374.out (by decide)) (fun _ hk=>hk.2) (.slice Ao27 t367.length co27)) (fun _ hk=>hk.2) (.int .i64 t370)) (fun _ hk=>hk.2) (.int .i64 t371)) (fun _ hk=>hk.2) (.int .i64 t372)) (fun _ hk=>hk.2) (.int .i64 t373)) (fun _ h_=>h_.1))) (Kd.R_base ho0) hb);replace BK349:=Aside0.mk (blk_below (g:=gb349) (o:=.cells #[.slice A0_0 l0_0.length c0_0,.int .i64 a0_1,.int .i64 a0_2,.int .i64 a0_3,.int .i64 a0_4] 24 (0,0)) (bf BK349) hb);replace BK366:=Aside0.mk (blk_below (g:=gb366) (o:=.cells #[.slice Ao21 t358.length co21,.int .i64 t361,.int .i64 t362,.int .i64 t363,.int .i64 t364] 28 (0,0)) (bf BK366) hb);replace BK374:=Aside0.mk (blk_below (g:=gb374) (o:=.cells #[.slice Ao27 t367.length co27,.int .i64 t370,.int .i64 t371,.int .i64 t372,.int .i64 t373] 28 (0,0)) (by (with_reducible repeat (first|refine blk_drewN ?_ _|refine blk_drew ?_|refine blk_alloc ?_ _));refine blk_put (cs:=#[.slice Ao27 t367.length co27,.int .i64 t370,.int .i64 t371,.int .i64 t372,.int .i64 0]) ?_ 4 _ rfl;(with_reducible repeat (first|refine blk_drewN ?_ _|refine blk_drew ?_|refine blk_alloc ?_ _));refine blk_put (cs:=#[.slice Ao27 t367.length co27,.int .i64 t370,.int .i64 t371,.int .i64 0,.int .i64 0]) ?_ 3 _ rfl;(with_reducible repeat (first|refine blk_drewN ?_ _|refine blk_drew ?_|refine blk_alloc ?_ _));refine blk_put (cs:=#[.slice Ao27 t367.length co27,.int .i64 t370,.int .i64 0,.int .i64 0,.int .i64 0]) ?_ 2 _ rfl;(with_reducible repeat (first|refine blk_drewN ?_ _|refine blk_drew ?_|refine blk_alloc ?_ _));refine blk_put (cs:=#[.slice Ao27 t367.length co27,.int .i64 0,.int .i64 0,.int .i64 0,.int .i64 0]) ?_ 1 _ rfl;(with_reducible repeat (first|refine blk_drewN ?_ _|refine blk_drew ?_|refine blk_alloc ?_ _));refine blk_put (cs:=#[.slice none 0 0,.int .i64 0,.int .i64 0,.int .i64 0,.int .i64 0]) ?_ 0 _ rfl;(with_reducible repeat (first|refine blk_drewN ?_ _|refine blk_drew ?_|refine blk_alloc ?_ _));exact BK374.out) hb);replace HB:=Aside0.mk (below_step bl hb);(try clear hb);(try clear hb2);(try clear hk);(try clear hi);(try clear ho0))|((with_reducible refine gate_dst (N:=9) rfl ?_);refine bx 9 #[.slice none 0 0,.int .i64 0,.int .i64 0,.int .i64 0,.int .i64 0] 28 ?_;intro gb383 hg w32 hbox hb;replace HO353:=Aside0.mk (Kd.R_below (kr HO353) hb);replace HO360:=Aside0.mk (Kd.R_below (kr HO360) hb);replace HO369:=Aside0.mk (Kd.R_below (kr HO369) hb);replace HO377:=Aside0.mk (Kd.R_below (kr HO377) hb);have BK383:=Aside0.mk (hbox);have GW383:=Aside0.mk (bz hg:w.heap.size≤gb383);have GE383:=GW383;replace HB:=Aside0.mk (below_step bl hb);have NB349_383:=Aside0.mk (nl hg BK349:gb349≠gb383);have NB383_349:=Aside0.mk (nr hg BK349:gb383≠gb349);replace BK349:=Aside0.mk (blk_below (bk BK349) hb);have NB366_383:=Aside0.mk (nl hg BK366:gb366≠gb383);have NB383_366:=Aside0.mk (nr hg BK366:gb383≠gb366);replace BK366:=Aside0.mk (blk_below (bk BK366) hb);have NB374_383:=Aside0.mk (nl hg BK374:gb374≠gb383);have NB383_374:=Aside0.mk (nr hg BK374:gb383≠gb374);replace BK374:=Aside0.mk (blk_below (bk BK374) hb);clear hb hbox hg;obtain ⟨Ao33,co33,eo33⟩:=Kd.R_slice HO377.out;subst eo33;have hnb34:=NB383_349.out;have hnc34:=NB349_383.out;have hnb35:=NB383_366.out;have hnc35:=NB366_383.out;have hnb36:=NB383_374.out;have hnc36:=NB374_383.out;obtain ⟨hcz37_0,hcz37_1,hcz37_2,hcz37_3,hcz37_4,hfz37_0,hfz37_1,hfz37_2,hfz37_3,hfz37_4⟩:=ck5 BK383.out))
  (try simp only [Act.put,List.setIfInBounds_toArray,List.set_cons_zero,List.set_cons_succ])
  go_cut [44] (fun v44 wc=>∃ (kq:Nat) (x44_11:Bool),v44 = .bool x44_11∧Aside0 (laws_FnExactMoveBack.j0 kq a1 t365 t382 x44_11 l0_0 a0_1 a0_2 a0_3 a0_4 t358 t361 t362 t363 t364 t367 t370 t371 t372 t373 t375 t378 t379 t380 t381=some r)∧Aside0 (kq≤k)∧Aside0 (Kd.R k97 97 wc w.heap.size (fun k_=>some k_≠((.slice Ao27 t367.length co27):Value).ownBlock∧some k_≠((.slice Ao33 t375.length co33):Value).ownBlock) (.slice Ao21 t358.length co21) t358)∧Aside0 (Kd.R k97 97 wc w.heap.size (fun k_=>some k_≠((.slice Ao21 t358.length co21):Value).ownBlock∧some k_≠((.slice Ao33 t375.length co33):Value).ownBlock) (.slice Ao27 t367.length co27) t367)∧Aside0 (Kd.R k97 97 wc w.heap.size (fun k_=>some k_≠((.slice Ao21 t358.length co21):Value).ownBlock∧some k_≠((.slice Ao27 t367.length co27):Value).ownBlock) (.slice Ao33 t375.length co33) t375)∧Aside0 (wc.heap[gb349]? = some (.cells #[(.slice A0_0 l0_0.length c0_0),.int .i64 a0_1,.int .i64 a0_2,.int .i64 a0_3,.int .i64 a0_4] 24 (0,0)))∧Aside0 (wc.heap[gb366]? = some (.cells #[(.slice Ao21 t358.length co21),.int .i64 t361,.int .i64 t362,.int .i64 t363,.int .i64 t364] 28 (0,0)))∧Aside0 (wc.heap[gb374]? = some (.cells #[(.slice Ao27 t367.length co27),.int .i64 t370,.int .i64 t371,.int .i64 t372,.int .i64 t373] 28 (0,0)))∧Aside0 (wc.heap[gb383]? = some (.cells #[(.slice Ao33 t375.length co33),.int .i64 t378,.int .i64 t379,.int .i64 t380,.int .i64 t381] 28 (0,0)))∧Aside0 (Below w.heap.size w wc))
  case first =>
   have H:=HC12.out
   clear HC12
   replace H:=Option.bind_eq_some_iff.mp H
   obtain ⟨t384,A380,H⟩:=H
   have A38:=Aside0.mk A380
   clear A380
   by_cases c39:t384=true
   ·subst c39
    rw [if_pos rfl] at H
    have H':=Aside0.mk H
    clear H
    have hnb40:=NB383_349.out
    have hnc40:=NB349_383.out
    have hnb41:=NB383_366.out
    have hnc41:=NB366_383.out
    have hnb42:=NB383_374.out
    have hnc42:=NB374_383.out
    obtain ⟨hcz43_0,hcz43_1,hcz43_2,hcz43_3,hcz43_4,hfz43_0,hfz43_1,hfz43_2,hfz43_3,hfz43_4⟩:=ck5 BK383.out
    have hnb44:=NB366_349.out
    have hnc44:=NB349_366.out
    have hnb45:=NB366_374.out
    have hnc45:=NB374_366.out
    obtain ⟨hcz46_0,hcz46_1,hcz46_2,hcz46_3,hcz46_4,hfz46_0,hfz46_1,hfz46_2,hfz46_3,hfz46_4⟩:=ck5 BK366.out
    go_wp2_with (first|((with_reducible refine gate_callee (f:=16) rfl ?_);refine gl Try.func16 #[.agg #[.slice Ao33 t375.length co33,.int .i64 t378,.int .i64 t379,.int .i64 t380,.int .i64 t381],.agg #[.slice Ao21 t358.length co21,.int .i64 t361,.int .i64 t362,.int .i64 t363,.int .i64 t364]] ?_;(with_reducible refine (laws_eqQueue.calls k _ _ t375 t378 t379 t380 t381 _ _ t358 t361 t362 t363 t364 true _ ?side1 ?side2 ?side3 ?side4 A38.out).mono ?_);(case side1=>refine (Kd.R_reads' (e:=97) (base:=w.heap.size) (ok:=fun k_=>(((True∧some k_≠(.slice Ao18 t351.length co18:Value).ownBlock)∧some k_≠(.slice Ao21 t358.length co21:Value).ownBlock)∧some k_≠(.slice Ao27 t367.length co27:Value).ownBlock)) (n:=t375.length) (c:=co33) ?_).2.2;exact (by (with_reducible repeat (first|apply Kd.R_alloc|apply Kd.R_drewN|apply Kd.R_drew));exact (Kd.R_mono (Kd.R_far (p:=⟨gb383,4,none⟩) (Kd.R_far (p:=⟨gb383,3,none⟩) (Kd.R_far (p:=⟨gb383,2,none⟩) (Kd.R_far (p:=⟨gb383,1,none⟩) (Kd.R_far (p:=⟨gb383,0,none⟩) (Kd.R_types HO377.out BK383.out (by decide)) (fun _ hk=>hk.2) (.slice Ao33 t375.length co33)) (fun _ hk=>hk.2) (.int .i64 t378)) (fun _ hk=>hk.2) (.int .i64 t379)) (fun _ hk=>hk.2) (.int .i64 t380)) (fun _ hk=>hk.2) (.int .i64 t381)) (fun _ h_=>h_.1))));(case side2=>exact (Kd.R_reads' HO377.out).2.1);(case side3=>refine (Kd.R_reads' (e:=97) (base:=w.heap.size) (ok:=fun k_=>(((True∧some k_≠(.slice Ao18 t351.length co18:Value).ownBlock)∧some k_≠(.slice Ao27 t367.length co27:Value).ownBlock)∧some k_≠(.slice Ao33 t375.length co33:Value).ownBlock)) (n:=t358.length) (c:=co21) ?_).2.2;exact (by (with_reducible repeat (first|apply Kd.R_alloc|apply Kd.R_drewN|apply Kd.R_drew));exact (Kd.R_mono (Kd.R_far (p:=⟨gb383,4,none⟩) (Kd.R_far (p:=⟨gb383,3,none⟩) (Kd.R_far (p:=⟨gb383,2,none⟩) (Kd.R_far (p:=⟨gb383,1,none⟩) (Kd.R_far (p:=⟨gb383,0,none⟩) (Kd.R_types HO360.out BK383.out (by decide)) (fun _ hk=>hk.2) (.slice Ao33 t375.length co33)) (fun _ hk=>hk.2) (.int .i64 t378)) (fun _ hk=>hk.2) (.int .i64 t379)) (fun _ hk=>hk.2) (.int .i64 t380)) (fun _ hk=>hk.2) (.int .i64 t381)) (fun _ h_=>h_.1))));(case side4=>exact (Kd.R_reads' HO360.out).2.1);rintro e w47 ⟨rfl,hb⟩;refine ⟨_,rfl,?_⟩;replace HO353:=Aside0.mk (Kd.R_below (by (with_reducible repeat (first|apply Kd.R_alloc|apply Kd.R_drewN|apply Kd.R_drew));exact (Kd.R_mono (Kd.R_far (p:=⟨gb383,4,none⟩) (Kd.R_far (p:=⟨gb383,3,none⟩) (Kd.R_far (p:=⟨gb383,2,none⟩) (Kd.R_far (p:=⟨gb383,1,none⟩) (Kd.R_far (p:=⟨gb383,0,none⟩) (Kd.R_types HO353.out BK383.out (by decide)) (fun _ hk=>hk.2) (.slice Ao33 t375.length co33)) (fun _ hk=>hk.2) (.int .i64 t378)) (fun _ hk=>hk.2) (.int .i64 t379)) (fun _ hk=>hk.2) (.int .i64 t380)) (fun _ hk=>hk.2) (.int .i64 t381)) (fun _ h_=>h_.1))) hb);replace HO360:=Aside0.mk (Kd.R_below (by (with_reducible repeat (first|apply Kd.R_alloc|apply Kd.R_drewN|apply Kd.R_drew));exact (Kd.R_mono (Kd.R_far (p:=⟨gb383,4,none⟩) (Kd.R_far (p:=⟨gb383,3,none⟩) (Kd.R_far (p:=⟨gb383,2,none⟩) (Kd.R_far (p:=⟨gb383,1,none⟩) (Kd.R_far (p:=⟨gb383,0,none⟩) (Kd.R_types HO360.out BK383.out (by decide)) (fun _ hk=>hk.2) (.slice Ao33 t375.length co33)) (fun _ hk=>hk.2) (.int .i64 t378)) (fun _ hk=>hk.2) (.int .i64 t379)) (fun _ hk=>hk.2) (.int .i64 t380)) (fun _ hk=>hk.2) (.int .i64 t381)) (fun _ h_=>h_.1))) hb);replace HO369:=Aside0.mk (Kd.R_below (by (with_reducible repeat (first|apply Kd.R_alloc|apply Kd.R_drewN|apply Kd.R_drew));exact (Kd.R_mono (Kd.R_far (p:=⟨gb383,4,none⟩) (Kd.R_far (p:=⟨gb383,3,none⟩) (Kd.R_far (p:=⟨gb383,2,none⟩) (Kd.R_far (p:=⟨gb383,1,none⟩) (Kd.R_far (p:=⟨gb383,0,none⟩) (Kd.R_types HO369.out BK383.out (by decide)) (fun _ hk=>hk.2) (.slice Ao33 t375.length co33)) (fun _ hk=>hk.2) (.int .i64 t378)) (fun _ hk=>hk.2) (.int .i64 t379)) (fun _ hk=>hk.2) (.int .i64 t380)) (fun _ hk=>hk.2) (.int .i64 t381)) (fun _ h_=>h_.1))) hb);replace HO377:=Aside0.mk (Kd.R_below (by (with_reducible repeat (first|apply Kd.R_alloc|apply Kd.R_drewN|apply Kd.R_drew));exact (Kd.R_mono (Kd.R_far (p:=⟨gb383,4,none⟩) (Kd.R_far (p:=⟨gb383,3,none⟩) (Kd.R_far (p:=⟨gb383,2,none⟩) (Kd.R_far (p:=⟨gb383,1,none⟩) (Kd.R_far (p:=⟨gb383,0,none⟩) (Kd.R_types HO377.out BK383.out (by decide)) (fun _ hk=>hk.2) (.slice Ao33 t375.length co33)) (fun _ hk=>hk.2) (.int .i64 t378)) (fun _ hk=>hk.2) (.int .i64 t379)) (fun _ hk=>hk.2) (.int .i64 t380)) (fun _ hk=>hk.2) (.int .i64 t381)) (fun _ h_=>h_.1))) hb);replace BK349:=Aside0.mk (blk_below (g:=gb349) (o:=.cells #[.slice A0_0 l0_0.length c0_0,.int .i64 a0_1,.int .i64 a0_2,.int .i64 a0_3,.int .i64 a0_4] 24 (0,0)) (bf BK349) hb);replace BK366:=Aside0.mk (blk_below (g:=gb366) (o:=.cells #[.slice Ao21 t358.length co21,.int .i64 t361,.int .i64 t362,.int .i64 t363,.int .i64 t364] 28 (0,0)) (bf BK366) hb);replace BK374:=Aside0.mk (blk_below (g:=gb374) (o:=.cells #[.slice Ao27 t367.length co27,.int .i64 t370,.int .i64 t371,.int .i64 t372,.int .i64 t373] 28 (0,0)) (bf BK374) hb);replace BK383:=Aside0.mk (blk_below (g:=gb383) (o:=.cells #[.slice Ao33 t375.length co33,.int .i64 t378,.int .i64 t379,.int .i64 t380,.int .i64 t381] 28 (0,0)) (by (with_reducible repeat (first|refine blk_drewN ?_ _|refine blk_drew ?_|refine blk_alloc ?_ _));refine blk_put (cs:=#[.slice Ao33 t375.length co33,.int .i64 t378,.int .i64 t379,.int .i64 t380,.int .i64 0]) ?_ 4 _ rfl;(with_reducible repeat (first|refine blk_drewN ?_ _|refine blk_drew ?_|refine blk_alloc ?_ _));refine blk_put (cs:=#[.slice Ao33 t375.length co33,.int .i64 t378,.int .i64 t379,.int .i64 0,.int .i64 0]) ?_ 3 _ rfl;(with_reducible repeat (first|refine blk_drewN ?_ _|refine blk_drew ?_|refine blk_alloc ?_ _));refine blk_put (cs:=#[.slice Ao33 t375.length co33,.int .i64 t378,.int .i64 0,.int .i64 0,.int .i64 0]) ?_ 2 _ rfl;(with_reducible repeat (first|refine blk_drewN ?_ _|refine blk_drew ?_|refine blk_alloc ?_ _));refine blk_put (cs:=#[.slice Ao33 t375.length co33,.int .i64 0,.int .i64 0,.int .i64 0,.int .i64 0]) ?_ 1 _ rfl;(with_reducible repeat (first|refine blk_drewN ?_ _|refine blk_drew ?_|refine blk_alloc ?_ _));refine blk_put (cs:=#[.slice none 0 0,.int .i64 0,.int .i64 0,.int .i64 0,.int .i64 0]) ?_ 0 _ rfl;(with_reducible repeat (first|refine blk_drewN ?_ _|refine blk_drew ?_|refine blk_alloc ?_ _));exact BK383.out) hb);replace HB:=Aside0.mk (below_step bl hb);(try clear hb);(try clear hb2);(try clear hk);(try clear hi)))
    go_meet
    case rel=>exact ⟨_,((t382 != t365)),(by first|rfl|(simp;done)|(simp [*];done)),H',⟨by first|omega|exact Nat.le_refl _⟩,⟨by (with_reducible repeat (first|apply Kd.R_alloc|apply Kd.R_drewN|apply Kd.R_drew));exact Kd.R_mono HO360.out (fun _ hk=>⟨hk.1.2,hk.2⟩)⟩,⟨by (with_reducible repeat (first|apply Kd.R_alloc|apply Kd.R_drewN|apply Kd.R_drew));exact Kd.R_mono HO369.out (fun _ hk=>⟨hk.1.2,hk.2⟩)⟩,⟨by (with_reducible repeat (first|apply Kd.R_alloc|apply Kd.R_drewN|apply Kd.R_drew));exact Kd.R_mono HO377.out (fun _ hk=>⟨hk.1.2,hk.2⟩)⟩,⟨bk BK349⟩,⟨bk BK366⟩,⟨bk BK374⟩,⟨bk BK383⟩,⟨bl⟩⟩
   ·replace c39:=Bool.eq_false_iff.mpr c39
    subst c39
    rw [if_neg nft] at H
    have H':=Aside0.mk H
    clear H
    have hnb48:=NB383_349.out
    have hnc48:=NB349_383.out
    have hnb49:=NB383_366.out
    have hnc49:=NB366_383.out
    have hnb50:=NB383_374.out
    have hnc50:=NB374_383.out
    obtain ⟨hcz51_0,hcz51_1,hcz51_2,hcz51_3,hcz51_4,hfz51_0,hfz51_1,hfz51_2,hfz51_3,hfz51_4⟩:=ck5 BK383.out
    have hnb52:=NB366_349.out
    have hnc52:=NB349_366.out
    have hnb53:=NB366_374.out
    have hnc53:=NB374_366.out
    obtain ⟨hcz54_0,hcz54_1,hcz54_2,hcz54_3,hcz54_4,hfz54_0,hfz54_1,hfz54_2,hfz54_3,hfz54_4⟩:=ck5 BK366.out
    go_wp2_with (first|((with_reducible refine gate_callee (f:=16) rfl ?_);refine gl Try.func16 #[.agg #[.slice Ao33 t375.length co33,.int .i64 t378,.int .i64 t379,.int .i64 t380,.int .i64 t381],.agg #[.slice Ao21 t358.length co21,.int .i64 t361,.int .i64 t362,.int .i64 t363,.int .i64 t364]] ?_;(with_reducible refine (laws_eqQueue.calls k _ _ t375 t378 t379 t380 t381 _ _ t358 t361 t362 t363 t364 false _ ?side1 ?side2 ?side3 ?side4 A38.out).mono ?_);(case side1=>refine (Kd.R_reads' (e:=97) (base:=w.heap.size) (ok:=fun k_=>(((True∧some k_≠(.slice Ao18 t351.length co18:Value).ownBlock)∧some k_≠(.slice Ao21 t358.length co21:Value).ownBlock)∧some k_≠(.slice Ao27 t367.length co27:Value).ownBlock)) (n:=t375.length) (c:=co33) ?_).2.2;exact (by (with_reducible repeat (first|apply Kd.R_alloc|apply Kd.R_drewN|apply Kd.R_drew));exact (Kd.R_mono (Kd.R_far (p:=⟨gb383,4,none⟩) (Kd.R_far (p:=⟨gb383,3,none⟩) (Kd.R_far (p:=⟨gb383,2,none⟩) (Kd.R_far (p:=⟨gb383,1,none⟩) (Kd.R_far (p:=⟨gb383,0,none⟩) (Kd.R_types HO377.out BK383.out (by decide)) (fun _ hk=>hk.2) (.slice Ao33 t375.length co33)) (fun _ hk=>hk.2) (.int .i64 t378)) (fun _ hk=>hk.2) (.int .i64 t379)) (fun _ hk=>hk.2) (.int .i64 t380)) (fun _ hk=>hk.2) (.int .i64 t381)) (fun _ h_=>h_.1))));(case side2=>exact (Kd.R_reads' HO377.out).2.1);(case side3=>refine (Kd.R_reads' (e:=97) (base:=w.heap.size) (ok:=fun k_=>(((True∧some k_≠(.slice Ao18 t351.length co18:Value).ownBlock)∧some k_≠(.slice Ao27 t367.length co27:Value).ownBlock)∧some k_≠(.slice Ao33 t375.length co33:Value).ownBlock)) (n:=t358.length) (c:=co21) ?_).2.2;exact (by (with_reducible repeat (first|apply Kd.R_alloc|apply Kd.R_drewN|apply Kd.R_drew));exact (Kd.R_mono (Kd.R_far (p:=⟨gb383,4,none⟩) (Kd.R_far (p:=⟨gb383,3,none⟩) (Kd.R_far (p:=⟨gb383,2,none⟩) (Kd.R_far (p:=⟨gb383,1,none⟩) (Kd.R_far (p:=⟨gb383,0,none⟩) (Kd.R_types HO360.out BK383.out (by decide)) (fun _ hk=>hk.2) (.slice Ao33 t375.length co33)) (fun _ hk=>hk.2) (.int .i64 t378)) (fun _ hk=>hk.2) (.int .i64 t379)) (fun _ hk=>hk.2) (.int .i64 t380)) (fun _ hk=>hk.2) (.int .i64 t381)) (fun _ h_=>h_.1))));(case side4=>exact (Kd.R_reads' HO360.out).2.1);rintro e w55 ⟨rfl,hb⟩;refine ⟨_,rfl,?_⟩;replace HO353:=Aside0.mk (Kd.R_below (by (with_reducible repeat (first|apply Kd.R_alloc|apply Kd.R_drewN|apply Kd.R_drew));exact (Kd.R_mono (Kd.R_far (p:=⟨gb383,4,none⟩) (Kd.R_far (p:=⟨gb383,3,none⟩) (Kd.R_far (p:=⟨gb383,2,none⟩) (Kd.R_far (p:=⟨gb383,1,none⟩) (Kd.R_far (p:=⟨gb383,0,none⟩) (Kd.R_types HO353.out BK383.out (by decide)) (fun _ hk=>hk.2) (.slice Ao33 t375.length co33)) (fun _ hk=>hk.2) (.int .i64 t378)) (fun _ hk=>hk.2) (.int .i64 t379)) (fun _ hk=>hk.2) (.int .i64 t380)) (fun _ hk=>hk.2) (.int .i64 t381)) (fun _ h_=>h_.1))) hb);replace HO360:=Aside0.mk (Kd.R_below (by (with_reducible repeat (first|apply Kd.R_alloc|apply Kd.R_drewN|apply Kd.R_drew));exact (Kd.R_mono (Kd.R_far (p:=⟨gb383,4,none⟩) (Kd.R_far (p:=⟨gb383,3,none⟩) (Kd.R_far (p:=⟨gb383,2,none⟩) (Kd.R_far (p:=⟨gb383,1,none⟩) (Kd.R_far (p:=⟨gb383,0,none⟩) (Kd.R_types HO360.out BK383.out (by decide)) (fun _ hk=>hk.2) (.slice Ao33 t375.length co33)) (fun _ hk=>hk.2) (.int .i64 t378)) (fun _ hk=>hk.2) (.int .i64 t379)) (fun _ hk=>hk.2) (.int .i64 t380)) (fun _ hk=>hk.2) (.int .i64 t381)) (fun _ h_=>h_.1))) hb);replace HO369:=Aside0.mk (Kd.R_below (by (with_reducible repeat (first|apply Kd.R_alloc|apply Kd.R_drewN|apply Kd.R_drew));exact (Kd.R_mono (Kd.R_far (p:=⟨gb383,4,none⟩) (Kd.R_far (p:=⟨gb383,3,none⟩) (Kd.R_far (p:=⟨gb383,2,none⟩) (Kd.R_far (p:=⟨gb383,1,none⟩) (Kd.R_far (p:=⟨gb383,0,none⟩) (Kd.R_types HO369.out BK383.out (by decide)) (fun _ hk=>hk.2) (.slice Ao33 t375.length co33)) (fun _ hk=>hk.2) (.int .i64 t378)) (fun _ hk=>hk.2) (.int .i64 t379)) (fun _ hk=>hk.2) (.int .i64 t380)) (fun _ hk=>hk.2) (.int .i64 t381)) (fun _ h_=>h_.1))) hb);replace HO377:=Aside0.mk (Kd.R_below (by (with_reducible repeat (first|apply Kd.R_alloc|apply Kd.R_drewN|apply Kd.R_drew));exact (Kd.R_mono (Kd.R_far (p:=⟨gb383,4,none⟩) (Kd.R_far (p:=⟨gb383,3,none⟩) (Kd.R_far (p:=⟨gb383,2,none⟩) (Kd.R_far (p:=⟨gb383,1,none⟩) (Kd.R_far (p:=⟨gb383,0,none⟩) (Kd.R_types HO377.out BK383.out (by decide)) (fun _ hk=>hk.2) (.slice Ao33 t375.length co33)) (fun _ hk=>hk.2) (.int .i64 t378)) (fun _ hk=>hk.2) (.int .i64 t379)) (fun _ hk=>hk.2) (.int .i64 t380)) (fun _ hk=>hk.2) (.int .i64 t381)) (fun _ h_=>h_.1))) hb);replace BK349:=Aside0.mk (blk_below (g:=gb349) (o:=.cells #[.slice A0_0 l0_0.length c0_0,.int .i64 a0_1,.int .i64 a0_2,.int .i64 a0_3,.int .i64 a0_4] 24 (0,0)) (bf BK349) hb);replace BK366:=Aside0.mk (blk_below (g:=gb366) (o:=.cells #[.slice Ao21 t358.length co21,.int .i64 t361,.int .i64 t362,.int .i64 t363,.int .i64 t364] 28 (0,0)) (bf BK366) hb);replace BK374:=Aside0.mk (blk_below (g:=gb374) (o:=.cells #[.slice Ao27 t367.length co27,.int .i64 t370,.int .i64 t371,.int .i64 t372,.int .i64 t373] 28 (0,0)) (bf BK374) hb);replace BK383:=Aside0.mk (blk_below (g:=gb383) (o:=.cells #[.slice Ao33 t375.length co33,.int .i64 t378,.int .i64 t379,.int .i64 t380,.int .i64 t381] 28 (0,0)) (by (with_reducible repeat (first|refine blk_drewN ?_ _|refine blk_drew ?_|refine blk_alloc ?_ _));refine blk_put (cs:=#[.slice Ao33 t375.length co33,.int .i64 t378,.int .i64 t379,.int .i64 t380,.int .i64 0]) ?_ 4 _ rfl;(with_reducible repeat (first|refine blk_drewN ?_ _|refine blk_drew ?_|refine blk_alloc ?_ _));refine blk_put (cs:=#[.slice Ao33 t375.length co33,.int .i64 t378,.int .i64 t379,.int .i64 0,.int .i64 0]) ?_ 3 _ rfl;(with_reducible repeat (first|refine blk_drewN ?_ _|refine blk_drew ?_|refine blk_alloc ?_ _));refine blk_put (cs:=#[.slice Ao33 t375.length co33,.int .i64 t378,.int .i64 0,.int .i64 0,.int .i64 0]) ?_ 2 _ rfl;(with_reducible repeat (first|refine blk_drewN ?_ _|refine blk_drew ?_|refine blk_alloc ?_ _));refine blk_put (cs:=#[.slice Ao33 t375.length co33,.int .i64 0,.int .i64 0,.int .i64 0,.int .i64 0]) ?_ 1 _ rfl;(with_reducible repeat (first|refine blk_drewN ?_ _|refine blk_drew ?_|refine blk_alloc ?_ _));refine blk_put (cs:=#[.slice none 0 0,.int .i64 0,.int .i64 0,.int .i64 0,.int .i64 0]) ?_ 0 _ rfl;(with_reducible repeat (first|refine blk_drewN ?_ _|refine blk_drew ?_|refine blk_alloc ?_ _));exact BK383.out) hb);replace HB:=Aside0.mk (below_step bl hb);(try clear hb);(try clear hb2);(try clear hk);(try clear hi)))
    go_meet
    case rel=>exact ⟨_,(true),(by first|rfl|(simp;done)|(simp [*];done)),H',⟨by first|omega|exact Nat.le_refl _⟩,⟨by (with_reducible repeat (first|apply Kd.R_alloc|apply Kd.R_drewN|apply Kd.R_drew));exact Kd.R_mono HO360.out (fun _ hk=>⟨hk.1.2,hk.2⟩)⟩,⟨by (with_reducible repeat (first|apply Kd.R_alloc|apply Kd.R_drewN|apply Kd.R_drew));exact Kd.R_mono HO369.out (fun _ hk=>⟨hk.1.2,hk.2⟩)⟩,⟨by (with_reducible repeat (first|apply Kd.R_alloc|apply Kd.R_drewN|apply Kd.R_drew));exact Kd.R_mono HO377.out (fun _ hk=>⟨hk.1.2,hk.2⟩)⟩,⟨bk BK349⟩,⟨bk BK366⟩,⟨bk BK374⟩,⟨bk BK383⟩,⟨bl⟩⟩
  case rest =>
   clear HC12
   try clear c1
   try clear c2
   try clear p2
   try clear c3
   try clear c4
   try clear c4b0
   try clear c5
   try clear c12
   try clear c13
   try clear c14
   try clear c15
   try clear c16
   try clear c22
   try clear c28
   try clear c29
   try clear c34
   try clear c35
   try clear c36
   try clear c39
   try clear c40
   try clear c41
   try clear c42
   try clear c44
   try clear c45
   try clear c48
   try clear c49
   try clear c50
   try clear c52
   try clear c53
   try clear hcz14_0
   try clear hcz14_1
   try clear hcz14_2
   try clear hcz14_3
   try clear hcz14_4
   try clear hcz16_0
   try clear hcz16_1
   try clear hcz16_2
   try clear hcz16_3
   try clear hcz16_4
   try clear hcz23_0
   try clear hcz23_1
   try clear hcz23_2
   try clear hcz23_3
   try clear hcz23_4
   try clear hcz24_0
   try clear hcz24_1
   try clear hcz24_2
   try clear hcz24_3
   try clear hcz24_4
   try clear hcz30_0
   try clear hcz30_1
   try clear hcz30_2
   try clear hcz30_3
   try clear hcz30_4
   try clear hcz37_0
   try clear hcz37_1
   try clear hcz37_2
   try clear hcz37_3
   try clear hcz37_4
   try clear hcz43_0
   try clear hcz43_1
   try clear hcz43_2
   try clear hcz43_3
   try clear hcz43_4
   try clear hcz46_0
   try clear hcz46_1
   try clear hcz46_2
   try clear hcz46_3
   try clear hcz46_4
   try clear hcz51_0
   try clear hcz51_1
   try clear hcz51_2
   try clear hcz51_3
   try clear hcz51_4
   try clear hcz54_0
   try clear hcz54_1
   try clear hcz54_2
   try clear hcz54_3
   try clear hcz54_4
   try clear hcz6_0
   try clear hcz6_1
   try clear hcz6_2
   try clear hcz6_3
   try clear hcz6_4
   try clear hfz14_0
   try clear hfz14_1
   try clear hfz14_2
   try clear hfz14_3
   try clear hfz14_4
   try clear hfz16_0
   try clear hfz16_1
   try clear hfz16_2
   try clear hfz16_3
   try clear hfz16_4
   try clear hfz23_0
   try clear hfz23_1
   try clear hfz23_2
   try clear hfz23_3
   try clear hfz23_4
   try clear hfz24_0
   try clear hfz24_1
   try clear hfz24_2
   try clear hfz24_3
   try clear hfz24_4
   try clear hfz30_0
   try clear hfz30_1
   try clear hfz30_2
   try clear hfz30_3
   try clear hfz30_4
   try clear hfz37_0
   try clear hfz37_1
   try clear hfz37_2
   try clear hfz37_3
   try clear hfz37_4
   try clear hfz43_0
   try clear hfz43_1
   try clear hfz43_2
   try clear hfz43_3
   try clear hfz43_4
   try clear hfz46_0
   try clear hfz46_1
   try clear hfz46_2
   try clear hfz46_3
   try clear hfz46_4
   try clear hfz51_0
   try clear hfz51_1
   try clear hfz51_2
   try clear hfz51_3
   try clear hfz51_4
   try clear hfz54_0
   try clear hfz54_1
   try clear hfz54_2
   try clear hfz54_3
   try clear hfz54_4
   try clear hfz6_0
   try clear hfz6_1
   try clear hfz6_2
   try clear hfz6_3
   try clear hfz6_4
   obtain ⟨kq,x44_11,rfl,HA,HJ11,HO_367000,HO_375000,HO_384000,BK349,BK366,BK374,BK383,HB⟩:=hcut
   cases kq with
   | zero=>exact absurd HA.out (by simp [laws_FnExactMoveBack.j0])
   | succ kj11 =>
    have H:=HA.out
    clear HA
    simp only [laws_FnExactMoveBack.j0] at H
    by_cases c56:x44_11=true
    ·subst c56
     rw [if_pos rfl] at H
     exact absurd H (by simp)
    ·replace c56:=Bool.eq_false_iff.mpr c56
     subst c56
     rw [if_neg nft] at H
     replace H:=Option.bind_eq_some_iff.mp H
     obtain ⟨⟨t385,t388,t389,t390,t391⟩,A570,H⟩:=H
     replace H:((laws_eqQueue.f kj11 t367 t370 t371 t372 t373 t385 t388 t389 t390 t391).bind fun t392=>(if t392=true then ((laws_markQueue.f kj11 t367 t370 t371 t372 t373 1).bind fun bt393=>(if bt393.1 < 0 then (laws_FnExactMoveBack.j1 kj11 a1 t365 true l0_0 a0_1 a0_2 a0_3 a0_4 t358 t361 t362 t363 t364 t375 t378 t379 t380 t381) else ((laws_eqQueue.f kj11 t375 t378 t379 t380 t381 t358 t361 t362 t363 t364).bind fun t395=>(if t395=true then (laws_FnExactMoveBack.j1 kj11 a1 t365 (t382 != t365) l0_0 a0_1 a0_2 a0_3 a0_4 t358 t361 t362 t363 t364 t375 t378 t379 t380 t381) else (laws_FnExactMoveBack.j1 kj11 a1 t365 true l0_0 a0_1 a0_2 a0_3 a0_4 t358 t361 t362 t363 t364 t375 t378 t379 t380 t381))))) else (none)))=some r:=H
     have A57:=Aside0.mk A570
     clear A570
     replace H:=Option.bind_eq_some_iff.mp H
     obtain ⟨t392,A580,H⟩:=H
     have A58:=Aside0.mk A580
     clear A580
     by_cases c59:t392=true
     ·subst c59
      rw [if_pos rfl] at H
      replace H:=Option.bind_eq_some_iff.mp H
      obtain ⟨⟨t393,t394⟩,A600,H⟩:=H
      replace H:(if t393 < 0 then (laws_FnExactMoveBack.j1 kj11 a1 t365 true l0_0 a0_1 a0_2 a0_3 a0_4 t358 t361 t362 t363 t364 t375 t378 t379 t380 t381) else ((laws_eqQueue.f kj11 t375 t378 t379 t380 t381 t358 t361 t362 t363 t364).bind fun t395=>(if t395=true then (laws_FnExactMoveBack.j1 kj11 a1 t365 (t382 != t365) l0_0 a0_1 a0_2 a0_3 a0_4 t358 t361 t362 t363 t364 t375 t378 t379 t380 t381) else (laws_FnExactMoveBack.j1 kj11 a1 t365 true l0_0 a0_1 a0_2 a0_3 a0_4 t358 t361 t362 t363 t364 t375 t378 t379 t380 t381))))=some r:=H
      have A60:=Aside0.mk A600
      clear A600
      have HC61:=Aside0.mk H
      clear H
      try go_wp2
      replace HO_367000:=Aside0.mk (Kd.R_drew HO_367000.out)
      replace HO_375000:=Aside0.mk (Kd.R_drew HO_375000.out)
      replace HO_384000:=Aside0.mk (Kd.R_drew HO_384000.out)
      replace BK349:=Aside0.mk (blk_drew BK349.out)
      replace BK366:=Aside0.mk (blk_drew BK366.out)
      replace BK374:=Aside0.mk (blk_drew BK374.out)
      replace BK383:=Aside0.mk (blk_drew BK383.out)
      replace HB:=Aside0.mk (below_drew1 HB.out)
      refine start_ (n:=5) (S:=fun w'=>w'.cell? ⟨gb374,0,none⟩=some (.slice Ao27 t367.length co27)∧w'.cell? ⟨gb374,1,none⟩=some (.int .i64 t370)∧w'.cell? ⟨gb374,2,none⟩=some (.int .i64 t371)∧w'.cell? ⟨gb374,3,none⟩=some (.int .i64 t372)∧w'.cell? ⟨gb374,4,none⟩=some (.int .i64 t373)∧w'.cell? ⟨gb349,0,none⟩=some (.slice A0_0 l0_0.length c0_0)∧w'.cell? ⟨gb349,1,none⟩=some (.int .i64 a0_1)∧w'.cell? ⟨gb349,2,none⟩=some (.int .i64 a0_2)∧w'.cell? ⟨gb349,3,none⟩=some (.int .i64 a0_3)∧w'.cell? ⟨gb349,4,none⟩=some (.int .i64 a0_4)) (ds:=[]) (bs 5 0) (by kernel_rfl) rfl rfl ⟨bc BK374 0,bc BK374 1,bc BK374 2,bc BK374 3,bc BK374 4,bc BK349 0,bc BK349 1,bc BK349 2,bc BK349 3,bc BK349 4⟩ (fun hHeld=>?_)
      generalize wc.drew=w62 at HO_367000 HO_375000 HO_384000 BK349 BK366 BK374 BK383 HB hHeld ⊢
      refine tk 0 45 (bs 5 1) hHeld ?_
      refine tk 1 46 (bs 5 3) hHeld ?_
      refine one_ (i:=2) (N:=some 47) (bs 5 7) rfl rfl (by kernel_rfl) (by decide) (fun K hK=>?_)
      refine goes_ Try.func14 (by kernel_rfl) rfl #[.agg #[.slice A0_0 l0_0.length c0_0,.int .i64 a0_1,.int .i64 a0_2,.int .i64 a0_3,.int .i64 a0_4]] (by rfl) rfl rfl (by (try simp only [List.map_toArray,List.map_cons,List.map_nil]);first|done|rfl|(simp only [List.length_drop,List.length_take];rfl)) ?_
      with_reducible refine (laws_toQueue.calls kj11 _ _ l0_0 a0_1 a0_2 a0_3 a0_4 t385 t388 t389 t390 t391 _ ?side1 ?side2 A57.out).mono ?_
      (case side1=>exact kc HR0_0)
      (case side2=>exact HC0_0.out)
      rintro e w63 ⟨v386,rfl,ho0,hb⟩
      refine ⟨_,rfl,?_⟩
      have HO387:=Aside0.mk (Kd.R_lower (Kd.R_new' (Kd.R_new' (Kd.R_new' ho0 (Kd.R_lt (kr HO_367000))) (Kd.R_lt (kr HO_375000))) (Kd.R_lt (kr HO_384000))) (below_size bl))
      replace HO_367000:=Aside0.mk (Kd.R_elder' (kr HO_367000) (Kd.R_base ho0) hb)
      replace HO_375000:=Aside0.mk (Kd.R_elder' (kr HO_375000) (Kd.R_base ho0) hb)
      replace HO_384000:=Aside0.mk (Kd.R_elder' (kr HO_384000) (Kd.R_base ho0) hb)
      replace BK349:=Aside0.mk (blk_below (bk BK349) hb)
      replace BK366:=Aside0.mk (blk_below (bk BK366) hb)
      replace BK374:=Aside0.mk (blk_below (bk BK374) hb)
      replace BK383:=Aside0.mk (blk_below (bk BK383) hb)
      replace HB:=Aside0.mk (below_step bl hb)
      (try clear hb)
      (try clear hb2)
      (try clear hk)
      (try clear hi)
      (try clear ho0)
      obtain ⟨Ao64,co64,eo64⟩:=Kd.R_slice HO387.out
      (first|subst eo64|(injection eo64 with f1_ f2_ f3_;have f4_:=f1_.symm;have f5_:=f3_.symm;clear f1_ f2_ f3_;subst f4_;subst f5_))
      refine hK.out _ _ ⟨bc BK374 0,bc BK374 1,bc BK374 2,bc BK374 3,bc BK374 4,bc BK349 0,bc BK349 1,bc BK349 2,bc BK349 3,bc BK349 4⟩ (fun hHeld=>?_)
      clear hK K
      refine nrm ?_
      refine one_ (i:=3) (N:=some 48) (bs 5 15) rfl rfl (by kernel_rfl) (by decide) (fun K hK=>?_)
      refine goes_ Try.func16 (by kernel_rfl) rfl #[.agg #[.slice Ao27 t367.length co27,.int .i64 t370,.int .i64 t371,.int .i64 t372,.int .i64 t373],.agg #[.slice Ao64 t385.length co64,.int .i64 t388,.int .i64 t389,.int .i64 t390,.int .i64 t391]] (by rfl) rfl rfl (by (try simp only [List.map_toArray,List.map_cons,List.map_nil]);first|done|rfl|(simp only [List.length_drop,List.length_take];rfl)) ?_
      with_reducible refine (laws_eqQueue.calls kj11 _ _ t367 t370 t371 t372 t373 _ _ t385 t388 t389 t390 t391 true _ ?side1 ?side2 ?side3 ?side4 A58.out).mono ?_
      (case side1=>repeat (first|exact (Kd.R_reads' HO_375000.out).2.2|(with_reducible refine Kd.C_alloc ?_ _)|(with_reducible refine Kd.C_drewN ?_ _)|(with_reducible refine Kd.C_drew ?_)))
      (case side2=>exact (Kd.R_reads' HO_375000.out).2.1)
      (case side3=>repeat (first|exact (Kd.R_reads' HO387.out).2.2|(with_reducible refine Kd.C_alloc ?_ _)|(with_reducible refine Kd.C_drewN ?_ _)|(with_reducible refine Kd.C_drew ?_)))
      (case side4=>exact (Kd.R_reads' HO387.out).2.1)
      rintro e w65 ⟨rfl,hb⟩
      refine ⟨_,rfl,?_⟩
      replace HO_367000:=Aside0.mk (Kd.R_below (kr HO_367000) hb)
      replace HO_375000:=Aside0.mk (Kd.R_below (kr HO_375000) hb)
      replace HO_384000:=Aside0.mk (Kd.R_below (kr HO_384000) hb)
      replace HO387:=Aside0.mk (Kd.R_below (kr HO387) hb)
      replace BK349:=Aside0.mk (blk_below (bk BK349) hb)
      replace BK366:=Aside0.mk (blk_below (bk BK366) hb)
      replace BK374:=Aside0.mk (blk_below (bk BK374) hb)
      replace BK383:=Aside0.mk (blk_below (bk BK383) hb)
      replace HB:=Aside0.mk (below_step bl hb)
      (try clear hb)
      (try clear hb2)
      (try clear hk)
      (try clear hi)
      refine hK.out _ _ ⟨bc BK374 0,bc BK374 1,bc BK374 2,bc BK374 3,bc BK374 4,bc BK349 0,bc BK349 1,bc BK349 2,bc BK349 3,bc BK349 4⟩ (fun hHeld=>?_)
      clear hK K
      refine nrm ?_
      refine pk 4 49 (bs 5 31) ?_
      refine done_ (by kernel_rfl) ?_
      have hnb66:=NB374_349.out
      have hnc66:=NB349_374.out
      have hnb67:=NB374_366.out
      have hnc67:=NB366_374.out
      have hnb68:=NB374_383.out
      have hnc68:=NB383_374.out
      obtain ⟨hcz69_0,hcz69_1,hcz69_2,hcz69_3,hcz69_4,hfz69_0,hfz69_1,hfz69_2,hfz69_3,hfz69_4⟩:=ck5 BK374.out
      go_upto_region 14 with (first|((with_reducible refine gate_callee (f:=17) rfl ?_);refine gl Try.func17 #[.agg #[.slice Ao27 t367.length co27,.int .i64 t370,.int .i64 t371,.int .i64 t372,.int .i64 t373],.int .i64 1] ?_;(with_reducible refine (laws_markQueue.calls kj11 (fun k_=>some k_=(.slice Ao27 t367.length co27:Value).ownBlock) (.slice Ao27 t367.length co27) t367 t370 t371 t372 t373 1 t393 t394 w _ ?side1 ?side2 A60.out).mono ?_);(case side1=>repeat (first|(with_reducible first|exact HB.out|apply below_alloc|apply pw_below_drewN|apply below_drew1|refine below_set ?_ GE349.out|refine below_set ?_ GE366.out|refine below_set ?_ GE374.out|refine below_set ?_ GE383.out)|exact HB.out));(case side2=>exact Kd.R_tight rfl HO_375000.out);rintro e w70 ⟨rfl,hy0,hb,hkp⟩;refine ⟨_,rfl,?_⟩;replace HO_367000:=Aside0.mk (Kd.R_mono (ok':=fun k_=>some k_≠(.slice Ao27 t367.length co27:Value).ownBlock∧some k_≠(.slice Ao33 t375.length co33:Value).ownBlock∧some k_≠(.slice Ao64 t385.length co64:Value).ownBlock) (Kd.R_keptB (HO_367000.out) hkp (fun k_ hk_ hs_=>by first|exact ((hk_.1.1) hs_)|(rcases hs_ with e_|e_ <;> simp_all)|simp_all)) (fun k_ hk_=>by first|exact (⟨hk_.1.1.1,hk_.1.1.2,hk_.1.2⟩)|simp_all));replace HO_384000:=Aside0.mk (Kd.R_mono (ok':=fun k_=>some k_≠(.slice Ao21 t358.length co21:Value).ownBlock∧some k_≠(.slice Ao27 t367.length co27:Value).ownBlock∧some k_≠(.slice Ao64 t385.length co64:Value).ownBlock) (Kd.R_keptB (HO_384000.out) hkp (fun k_ hk_ hs_=>by first|exact ((hk_.1.2) hs_)|(rcases hs_ with e_|e_ <;> simp_all)|simp_all)) (fun k_ hk_=>by first|exact (⟨hk_.1.1.1,hk_.1.1.2,hk_.1.2⟩)|simp_all));replace BK349:=Aside0.mk (blk_kept (bk BK349) hkp (fun hs_=>(fun e_=>(Kd.R_ne HO_375000.out BK349.out (by decide)) e_) hs_));replace BK366:=Aside0.mk (blk_kept (bk BK366) hkp (fun hs_=>(fun e_=>(Kd.R_ne HO_375000.out BK366.out (by decide)) e_) hs_));replace BK374:=Aside0.mk (blk_kept (bk BK374) hkp (fun hs_=>(fun e_=>(Kd.R_ne HO_375000.out BK374.out (by decide)) e_) hs_));replace BK383:=Aside0.mk (blk_kept (bk BK383) hkp (fun hs_=>(fun e_=>(Kd.R_ne HO_375000.out BK383.out (by decide)) e_) hs_));replace HO_375000:=Aside0.mk (Kd.R_reok rfl hy0 (fun k_ e_=>HO_375000.out.1 k_ e_));replace HO387:=Aside0.mk (Kd.R_mono (ok':=fun k_=>some k_≠(.slice Ao21 t358.length co21:Value).ownBlock∧some k_≠(.slice Ao27 t367.length co27:Value).ownBlock∧some k_≠(.slice Ao33 t375.length co33:Value).ownBlock) (Kd.R_keptB (HO387.out) hkp (fun k_ hk_ hs_=>by first|exact ((hk_.1.2) hs_)|(rcases hs_ with e_|e_ <;> simp_all)|simp_all)) (fun k_ hk_=>by first|exact (⟨hk_.1.1.1.2,hk_.1.1.2,hk_.1.2⟩)|simp_all));replace HB:=Aside0.mk (hb);(try clear hb);(try clear hkp);(try clear hy0)))
      (try simp only [Act.put,List.setIfInBounds_toArray,List.set_cons_zero,List.set_cons_succ])
      go_cut [65] (fun v65 wc=>∃ (kq:Nat) (x65_60:Bool),v65 = .bool x65_60∧Aside0 (laws_FnExactMoveBack.j1 kq a1 t365 x65_60 l0_0 a0_1 a0_2 a0_3 a0_4 t358 t361 t362 t363 t364 t375 t378 t379 t380 t381=some r)∧Aside0 (kq≤kj11)∧Aside0 (Kd.R k97 97 wc w.heap.size (fun k_=>some k_≠((.slice Ao27 t367.length co27):Value).ownBlock∧some k_≠((.slice Ao33 t375.length co33):Value).ownBlock) (.slice Ao21 t358.length co21) t358)∧Aside0 (Kd.R k97 97 wc w.heap.size (fun k_=>some k_≠((.slice Ao21 t358.length co21):Value).ownBlock∧some k_≠((.slice Ao33 t375.length co33):Value).ownBlock) (.slice Ao27 t367.length co27) t394)∧Aside0 (Kd.R k97 97 wc w.heap.size (fun k_=>some k_≠((.slice Ao21 t358.length co21):Value).ownBlock∧some k_≠((.slice Ao27 t367.length co27):Value).ownBlock) (.slice Ao33 t375.length co33) t375)∧Aside0 (wc.heap[gb349]? = some (.cells #[(.slice A0_0 l0_0.length c0_0),.int .i64 a0_1,.int .i64 a0_2,.int .i64 a0_3,.int .i64 a0_4] 24 (0,0)))∧Aside0 (wc.heap[gb366]? = some (.cells #[(.slice Ao21 t358.length co21),.int .i64 t361,.int .i64 t362,.int .i64 t363,.int .i64 t364] 28 (0,0)))∧Aside0 (wc.heap[gb374]? = some (.cells #[(.slice Ao27 t367.length co27),.int .i64 t370,.int .i64 t371,.int .i64 t372,.int .i64 t373] 28 (0,0)))∧Aside0 (wc.heap[gb383]? = some (.cells #[(.slice Ao33 t375.length co33),.int .i64 t378,.int .i64 t379,.int .i64 t380,.int .i64 t381] 28 (0,0)))∧Aside0 (Below w.heap.size w wc))
      case first =>
       have H:=HC61.out
       clear HC61
       by_cases c71:t393 < 0
       ·rw [if_pos c71] at H
        have c71b0:decide (t393 < 0)=true:=decide_eq_true c71
        clear c71
        (first|rw [c71b0]|(simp only [i64_w,i32_w];rw [c71b0])|skip)
        have H':=Aside0.mk H
        clear H
        go_wp2
        go_meet
        case rel=>exact ⟨_,(true),(by first|rfl|(simp;done)|(simp [*];done)),H',⟨by have:=HJ11.out;first|omega|exact Nat.le_refl _⟩,⟨by (with_reducible repeat (first|apply Kd.R_alloc|apply Kd.R_drewN|apply Kd.R_drew));exact Kd.R_mono HO_367000.out (fun _ hk=>⟨hk.1,hk.2.1⟩)⟩,⟨by (with_reducible repeat (first|apply Kd.R_alloc|apply Kd.R_drewN|apply Kd.R_drew));exact Kd.R_mono HO_375000.out (fun _ hk=>⟨hk.1.1,hk.1.2⟩)⟩,⟨by (with_reducible repeat (first|apply Kd.R_alloc|apply Kd.R_drewN|apply Kd.R_drew));exact Kd.R_mono HO_384000.out (fun _ hk=>⟨hk.1,hk.2.1⟩)⟩,⟨bk BK349⟩,⟨bk BK366⟩,⟨bk BK374⟩,⟨bk BK383⟩,⟨bl⟩⟩
       ·rw [if_neg c71] at H
        have c71b0:decide (t393 < 0)=false:=decide_eq_false c71
        clear c71
        (first|rw [c71b0]|(simp only [i64_w,i32_w];rw [c71b0])|skip)
        replace H:=Option.bind_eq_some_iff.mp H
        obtain ⟨t395,A720,H⟩:=H
        have A72:=Aside0.mk A720
        clear A720
        by_cases c73:t395=true
        ·subst c73
         rw [if_pos rfl] at H
         have H':=Aside0.mk H
         clear H
         have hnb74:=NB383_349.out
         have hnc74:=NB349_383.out
         have hnb75:=NB383_366.out
         have hnc75:=NB366_383.out
         have hnb76:=NB383_374.out
         have hnc76:=NB374_383.out
         obtain ⟨hcz77_0,hcz77_1,hcz77_2,hcz77_3,hcz77_4,hfz77_0,hfz77_1,hfz77_2,hfz77_3,hfz77_4⟩:=ck5 BK383.out
         have hnb78:=NB366_349.out
         have hnc78:=NB349_366.out
         have hnb79:=NB366_374.out
         have hnc79:=NB374_366.out
         obtain ⟨hcz80_0,hcz80_1,hcz80_2,hcz80_3,hcz80_4,hfz80_0,hfz80_1,hfz80_2,hfz80_3,hfz80_4⟩:=ck5 BK366.out
         go_wp2_with (first|(go_at_call 16;(with_reducible refine (laws_eqQueue.calls kj11 _ _ t375 t378 t379 t380 t381 _ _ t358 t361 t362 t363 t364 true _ ?side1 ?side2 ?side3 ?side4 A72.out).mono ?_);(case side1=>repeat (first|exact (Kd.R_reads' HO_384000.out).2.2|(with_reducible refine Kd.C_alloc ?_ _)|(with_reducible refine Kd.C_drewN ?_ _)|(with_reducible refine Kd.C_drew ?_)));(case side2=>exact (Kd.R_reads' HO_384000.out).2.1);(case side3=>repeat (first|exact (Kd.R_reads' HO_367000.out).2.2|(with_reducible refine Kd.C_alloc ?_ _)|(with_reducible refine Kd.C_drewN ?_ _)|(with_reducible refine Kd.C_drew ?_)));(case side4=>exact (Kd.R_reads' HO_367000.out).2.1);rintro e w81 ⟨rfl,hb⟩;replace HO_367000:=Aside0.mk (Kd.R_below (kr HO_367000) hb);replace HO_375000:=Aside0.mk (Kd.R_below (kr HO_375000) hb);replace HO_384000:=Aside0.mk (Kd.R_below (kr HO_384000) hb);replace HO387:=Aside0.mk (Kd.R_below (kr HO387) hb);replace BK349:=Aside0.mk (blk_below (bk BK349) hb);replace BK366:=Aside0.mk (blk_below (bk BK366) hb);replace BK374:=Aside0.mk (blk_below (bk BK374) hb);replace BK383:=Aside0.mk (blk_below (bk BK383) hb);replace HB:=Aside0.mk (below_step bl hb);(try clear hb);(try clear hb2);(try clear hk);(try clear hi)))
         go_meet
         case rel=>exact ⟨_,((t382 != t365)),(by first|rfl|(simp;done)|(simp [*];done)),H',⟨by have:=HJ11.out;first|omega|exact Nat.le_refl _⟩,⟨by (with_reducible repeat (first|apply Kd.R_alloc|apply Kd.R_drewN|apply Kd.R_drew));exact Kd.R_mono HO_367000.out (fun _ hk=>⟨hk.1,hk.2.1⟩)⟩,⟨by (with_reducible repeat (first|apply Kd.R_alloc|apply Kd.R_drewN|apply Kd.R_drew));exact Kd.R_mono HO_375000.out (fun _ hk=>⟨hk.1.1,hk.1.2⟩)⟩,⟨by (with_reducible repeat (first|apply Kd.R_alloc|apply Kd.R_drewN|apply Kd.R_drew));exact Kd.R_mono HO_384000.out (fun _ hk=>⟨hk.1,hk.2.1⟩)⟩,⟨bk BK349⟩,⟨bk BK366⟩,⟨bk BK374⟩,⟨bk BK383⟩,⟨bl⟩⟩
        ·replace c73:=Bool.eq_false_iff.mpr c73
         subst c73
         rw [if_neg nft] at H
         have H':=Aside0.mk H
         clear H
         have hnb82:=NB383_349.out
         have hnc82:=NB349_383.out
         have hnb83:=NB383_366.out
         have hnc83:=NB366_383.out
         have hnb84:=NB383_374.out
         have hnc84:=NB374_383.out
         obtain ⟨hcz85_0,hcz85_1,hcz85_2,hcz85_3,hcz85_4,hfz85_0,hfz85_1,hfz85_2,hfz85_3,hfz85_4⟩:=ck5 BK383.out
         have hnb86:=NB366_349.out
         have hnc86:=NB349_366.out
         have hnb87:=NB366_374.out
         have hnc87:=NB374_366.out
         obtain ⟨hcz88_0,hcz88_1,hcz88_2,hcz88_3,hcz88_4,hfz88_0,hfz88_1,hfz88_2,hfz88_3,hfz88_4⟩:=ck5 BK366.out
         go_wp2_with (first|(go_at_call 16;(with_reducible refine (laws_eqQueue.calls kj11 _ _ t375 t378 t379 t380 t381 _ _ t358 t361 t362 t363 t364 false _ ?side1 ?side2 ?side3 ?side4 A72.out).mono ?_);(case side1=>repeat (first|exact (Kd.R_reads' HO_384000.out).2.2|(with_reducible refine Kd.C_alloc ?_ _)|(with_reducible refine Kd.C_drewN ?_ _)|(with_reducible refine Kd.C_drew ?_)));(case side2=>exact (Kd.R_reads' HO_384000.out).2.1);(case side3=>repeat (first|exact (Kd.R_reads' HO_367000.out).2.2|(with_reducible refine Kd.C_alloc ?_ _)|(with_reducible refine Kd.C_drewN ?_ _)|(with_reducible refine Kd.C_drew ?_)));(case side4=>exact (Kd.R_reads' HO_367000.out).2.1);rintro e w89 ⟨rfl,hb⟩;replace HO_367000:=Aside0.mk (Kd.R_below (kr HO_367000) hb);replace HO_375000:=Aside0.mk (Kd.R_below (kr HO_375000) hb);replace HO_384000:=Aside0.mk (Kd.R_below (kr HO_384000) hb);replace HO387:=Aside0.mk (Kd.R_below (kr HO387) hb);replace BK349:=Aside0.mk (blk_below (bk BK349) hb);replace BK366:=Aside0.mk (blk_below (bk BK366) hb);replace BK374:=Aside0.mk (blk_below (bk BK374) hb);replace BK383:=Aside0.mk (blk_below (bk BK383) hb);replace HB:=Aside0.mk (below_step bl hb);(try clear hb);(try clear hb2);(try clear hk);(try clear hi)))
         go_meet
         case rel=>exact ⟨_,(true),(by first|rfl|(simp;done)|(simp [*];done)),H',⟨by have:=HJ11.out;first|omega|exact Nat.le_refl _⟩,⟨by (with_reducible repeat (first|apply Kd.R_alloc|apply Kd.R_drewN|apply Kd.R_drew));exact Kd.R_mono HO_367000.out (fun _ hk=>⟨hk.1,hk.2.1⟩)⟩,⟨by (with_reducible repeat (first|apply Kd.R_alloc|apply Kd.R_drewN|apply Kd.R_drew));exact Kd.R_mono HO_375000.out (fun _ hk=>⟨hk.1.1,hk.1.2⟩)⟩,⟨by (with_reducible repeat (first|apply Kd.R_alloc|apply Kd.R_drewN|apply Kd.R_drew));exact Kd.R_mono HO_384000.out (fun _ hk=>⟨hk.1,hk.2.1⟩)⟩,⟨bk BK349⟩,⟨bk BK366⟩,⟨bk BK374⟩,⟨bk BK383⟩,⟨bl⟩⟩
      case rest =>
       clear HC61
       try clear c1
       try clear c2
       try clear p2
       try clear c3
       try clear c4
       try clear c4b0
       try clear c5
       try clear c6
       try clear c7
       try clear c8
       try clear c12
       try clear c13
       try clear c14
       try clear c15
       try clear c16
       try clear c17
       try clear c22
       try clear c28
       try clear c29
       try clear c34
       try clear c35
       try clear c36
       try clear c39
       try clear c40
       try clear c41
       try clear c42
       try clear c44
       try clear c45
       try clear c48
       try clear c49
       try clear c50
       try clear c52
       try clear c53
       try clear c56
       try clear c59
       try clear c66
       try clear c67
       try clear c68
       try clear c71
       try clear c71b0
       try clear c73
       try clear c74
       try clear c75
       try clear c76
       try clear c78
       try clear c79
       try clear c82
       try clear c83
       try clear c84
       try clear c86
       try clear c87
       try clear hcz14_0
       try clear hcz14_1
       try clear hcz14_2
       try clear hcz14_3
       try clear hcz14_4
       try clear hcz16_0
       try clear hcz16_1
       try clear hcz16_2
       try clear hcz16_3
       try clear hcz16_4
       try clear hcz23_0
       try clear hcz23_1
       try clear hcz23_2
       try clear hcz23_3
       try clear hcz23_4
       try clear hcz24_0
       try clear hcz24_1
       try clear hcz24_2
       try clear hcz24_3
       try clear hcz24_4
       try clear hcz30_0
       try clear hcz30_1
       try clear hcz30_2
       try clear hcz30_3
       try clear hcz30_4
       try clear hcz37_0
       try clear hcz37_1
       try clear hcz37_2
       try clear hcz37_3
       try clear hcz37_4
       try clear hcz43_0
       try clear hcz43_1
       try clear hcz43_2
       try clear hcz43_3
       try clear hcz43_4
       try clear hcz46_0
       try clear hcz46_1
       try clear hcz46_2
       try clear hcz46_3
       try clear hcz46_4
       try clear hcz51_0
       try clear hcz51_1
       try clear hcz51_2
       try clear hcz51_3
       try clear hcz51_4
       try clear hcz54_0
       try clear hcz54_1
       try clear hcz54_2
       try clear hcz54_3
       try clear hcz54_4
       try clear hcz69_0
       try clear hcz69_1
       try clear hcz69_2
       try clear hcz69_3
       try clear hcz69_4
       try clear hcz6_0
       try clear hcz6_1
       try clear hcz6_2
       try clear hcz6_3
       try clear hcz6_4
       try clear hcz77_0
       try clear hcz77_1
       try clear hcz77_2
       try clear hcz77_3
       try clear hcz77_4
       try clear hcz80_0
       try clear hcz80_1
       try clear hcz80_2
       try clear hcz80_3
       try clear hcz80_4
       try clear hcz85_0
       try clear hcz85_1
       try clear hcz85_2
       try clear hcz85_3
       try clear hcz85_4
       try clear hcz88_0
       try clear hcz88_1
       try clear hcz88_2
       try clear hcz88_3
       try clear hcz88_4
       try clear hfz14_0
       try clear hfz14_1
       try clear hfz14_2
       try clear hfz14_3
       try clear hfz14_4
       try clear hfz16_0
       try clear hfz16_1
       try clear hfz16_2
       try clear hfz16_3
       try clear hfz16_4
       try clear hfz23_0
       try clear hfz23_1
       try clear hfz23_2
       try clear hfz23_3
       try clear hfz23_4
       try clear hfz24_0
       try clear hfz24_1
       try clear hfz24_2
       try clear hfz24_3
       try clear hfz24_4
       try clear hfz30_0
       try clear hfz30_1
       try clear hfz30_2
       try clear hfz30_3
       try clear hfz30_4
       try clear hfz37_0
       try clear hfz37_1
       try clear hfz37_2
       try clear hfz37_3
       try clear hfz37_4
       try clear hfz43_0
       try clear hfz43_1
       try clear hfz43_2
       try clear hfz43_3
       try clear hfz43_4
       try clear hfz46_0
       try clear hfz46_1
       try clear hfz46_2
       try clear hfz46_3
       try clear hfz46_4
       try clear hfz51_0
       try clear hfz51_1
       try clear hfz51_2
       try clear hfz51_3
       try clear hfz51_4
       try clear hfz54_0
       try clear hfz54_1
       try clear hfz54_2
       try clear hfz54_3
       try clear hfz54_4
       try clear hfz69_0
       try clear hfz69_1
       try clear hfz69_2
       try clear hfz69_3
       try clear hfz69_4
       try clear hfz6_0
       try clear hfz6_1
       try clear hfz6_2
       try clear hfz6_3
       try clear hfz6_4
       try clear hfz77_0
       try clear hfz77_1
       try clear hfz77_2
       try clear hfz77_3
       try clear hfz77_4
       try clear hfz80_0
       try clear hfz80_1
       try clear hfz80_2
       try clear hfz80_3
       try clear hfz80_4
       try clear hfz85_0
       try clear hfz85_1
       try clear hfz85_2
       try clear hfz85_3
       try clear hfz85_4
       try clear hfz88_0
       try clear hfz88_1
       try clear hfz88_2
       try clear hfz88_3
       try clear hfz88_4
       try clear p2
       obtain ⟨kq,x65_60,rfl,HA,HJ60,HO_367000,HO_375000,HO_384000,BK349,BK366,BK374,BK383,HB⟩:=hcut
       have hl375000_60:=(Kd.R_reads' HO_375000.out).1
       rw [hl375000_60] at HO_375000
       (try simp only [hl375000_60])
       (try simp only [hl375000_60] at BK349)
       (try simp only [hl375000_60] at BK366)
       (try simp only [hl375000_60] at BK374)
       (try simp only [hl375000_60] at BK383)
       (try simp only [hl375000_60] at HO_367000)
       (try simp only [hl375000_60] at HO_384000)
       cases kq with
       | zero=>exact absurd HA.out (by simp [laws_FnExactMoveBack.j1])
       | succ kj60 =>
        have H:=HA.out
        clear HA
        simp only [laws_FnExactMoveBack.j1] at H
        by_cases c90:x65_60=true
        ·subst c90
         rw [if_pos rfl] at H
         exact absurd H (by simp)
        ·replace c90:=Bool.eq_false_iff.mpr c90
         subst c90
         rw [if_neg nft] at H
         replace H:=Option.bind_eq_some_iff.mp H
         obtain ⟨⟨t396,t397⟩,A910,H⟩:=H
         replace H:((laws_heldQueue.f kj60 t397 t378 t379 t380 t381 1).bind fun t398=>(if t398 < 0 then (none) else (if t398=t396 then ((laws_toQueue.f kj60 l0_0 a0_1 a0_2 a0_3 a0_4).bind fun bt399=>((impl_MoveBack.f kj60 bt399.1 bt399.2.1 bt399.2.2.1 bt399.2.2.2.1 bt399.2.2.2.2 a1).bind fun bt406=>((laws_eqQueue.f kj60 bt406.1 bt406.2.1 bt406.2.2.1 bt406.2.2.2.1 bt406.2.2.2.2.1 t358 t361 t362 t363 t364).bind fun t415=>(if t415=true then (laws_FnExactMoveBack.j2 kj60 t396 (bt406.2.2.2.2.2 != t365) t397 t378 t379 t380 t381) else (laws_FnExactMoveBack.j2 kj60 t396 true t397 t378 t379 t380 t381))))) else (none))))=some r:=H
         have A91:=Aside0.mk A910
         clear A910
         replace H:=Option.bind_eq_some_iff.mp H
         obtain ⟨t398,A920,H⟩:=H
         have A92:=Aside0.mk A920
         clear A920
         by_cases c93:t398 < 0
         ·rw [if_pos c93] at H
          exact absurd H (by simp)
         ·rw [if_neg c93] at H
          have c93b0:decide (t398 < 0)=false:=decide_eq_false c93
          clear c93
          by_cases c94:t398=t396
          ·rw [if_pos c94] at H
           have c94b0:(t398 == t396)=true:=beq_iff_eq.mpr c94
           have c94b1:(t398 != t396)=false:=bne_eq_false_iff_eq.mpr c94
           clear c94
           replace H:=Option.bind_eq_some_iff.mp H
           obtain ⟨⟨t399,t402,t403,t404,t405⟩,A950,H⟩:=H
           replace H:((impl_MoveBack.f kj60 t399 t402 t403 t404 t405 a1).bind fun bt406=>((laws_eqQueue.f kj60 bt406.1 bt406.2.1 bt406.2.2.1 bt406.2.2.2.1 bt406.2.2.2.2.1 t358 t361 t362 t363 t364).bind fun t415=>(if t415=true then (laws_FnExactMoveBack.j2 kj60 t396 (bt406.2.2.2.2.2 != t365) t397 t378 t379 t380 t381) else (laws_FnExactMoveBack.j2 kj60 t396 true t397 t378 t379 t380 t381))))=some r:=H
           have A95:=Aside0.mk A950
           clear A950
           replace H:=Option.bind_eq_some_iff.mp H
           obtain ⟨⟨t406,t409,t410,t411,t412,t413⟩,A960,H⟩:=H
           replace H:((laws_eqQueue.f kj60 t406 t409 t410 t411 t412 t358 t361 t362 t363 t364).bind fun t415=>(if t415=true then (laws_FnExactMoveBack.j2 kj60 t396 (t413 != t365) t397 t378 t379 t380 t381) else (laws_FnExactMoveBack.j2 kj60 t396 true t397 t378 t379 t380 t381)))=some r:=H
           have A96:=Aside0.mk A960
           clear A960
           have HC97:=Aside0.mk H
           clear H
           have hnb98:=NB383_349.out
           have hnc98:=NB349_383.out
           have hnb99:=NB383_366.out
           have hnc99:=NB366_383.out
           have hnb100:=NB383_374.out
           have hnc100:=NB374_383.out
           obtain ⟨hcz101_0,hcz101_1,hcz101_2,hcz101_3,hcz101_4,hfz101_0,hfz101_1,hfz101_2,hfz101_3,hfz101_4⟩:=ck5 BK383.out
           go_upto_region 25 with (first|((with_reducible refine gate_callee (f:=17) rfl ?_);refine gl Try.func17 #[.agg #[.slice Ao33 t375.length co33,.int .i64 t378,.int .i64 t379,.int .i64 t380,.int .i64 t381],.int .i64 1] ?_;(with_reducible refine (laws_markQueue.calls kj60 (fun k_=>some k_=(.slice Ao33 t375.length co33:Value).ownBlock) (.slice Ao33 t375.length co33) t375 t378 t379 t380 t381 1 t396 t397 w _ ?side1 ?side2 A91.out).mono ?_);(case side1=>repeat (first|(with_reducible first|exact HB.out|apply below_alloc|apply pw_below_drewN|apply below_drew1|refine below_set ?_ GE349.out|refine below_set ?_ GE366.out|refine below_set ?_ GE374.out|refine below_set ?_ GE383.out)|exact HB.out));(case side2=>exact Kd.R_tight rfl HO_384000.out);rintro e w102 ⟨rfl,hy0,hb,hkp⟩;refine ⟨_,rfl,?_⟩;replace HO_367000:=Aside0.mk (Kd.R_mono (ok':=fun k_=>some k_≠(.slice Ao27 t394.length co27:Value).ownBlock∧some k_≠(.slice Ao33 t375.length co33:Value).ownBlock) (Kd.R_keptB (HO_367000.out) hkp (fun k_ hk_ hs_=>by first|exact ((hk_.2) hs_)|(rcases hs_ with e_|e_ <;> simp_all)|simp_all)) (fun k_ hk_=>by first|exact (⟨hk_.1.1,hk_.1.2⟩)|simp_all));replace HO_375000:=Aside0.mk (Kd.R_mono (ok':=fun k_=>some k_≠(.slice Ao21 t358.length co21:Value).ownBlock∧some k_≠(.slice Ao33 t375.length co33:Value).ownBlock) (Kd.R_keptB (HO_375000.out) hkp (fun k_ hk_ hs_=>by first|exact ((hk_.2) hs_)|(rcases hs_ with e_|e_ <;> simp_all)|simp_all)) (fun k_ hk_=>by first|exact (⟨hk_.1.1,hk_.1.2⟩)|simp_all));replace BK349:=Aside0.mk (blk_kept (bk BK349) hkp (fun hs_=>(fun e_=>(Kd.R_ne HO_384000.out BK349.out (by decide)) e_) hs_));replace BK366:=Aside0.mk (blk_kept (bk BK366) hkp (fun hs_=>(fun e_=>(Kd.R_ne HO_384000.out BK366.out (by decide)) e_) hs_));replace BK374:=Aside0.mk (blk_kept (bk BK374) hkp (fun hs_=>(fun e_=>(Kd.R_ne HO_384000.out BK374.out (by decide)) e_) hs_));replace BK383:=Aside0.mk (blk_kept (bk BK383) hkp (fun hs_=>(fun e_=>(Kd.R_ne HO_384000.out BK383.out (by decide)) e_) hs_));replace HO_384000:=Aside0.mk (Kd.R_reok rfl hy0 (fun k_ e_=>HO_384000.out.1 k_ e_));replace HB:=Aside0.mk (hb);(try clear hb);(try clear hkp);(try clear hy0);obtain ⟨hcz103_0,hcz103_1,hcz103_2,hcz103_3,hcz103_4,hfz103_0,hfz103_1,hfz103_2,hfz103_3,hfz103_4⟩:=ck5 BK383.out)|((with_reducible refine gate_callee (f:=18) rfl ?_);refine goesL_ (some 71) rfl rfl Try.func18 (by kernel_rfl) rfl #[.agg #[.slice Ao33 t397.length co33,.int .i64 t378,.int .i64 t379,.int .i64 t380,.int .i64 t381],.int .i64 1] rfl (by (try simp only [List.map_toArray,List.map_cons,List.map_nil]);first|done|(rw [show t397.length=t375.length from (Kd.R_reads' HO_384000.out).1.symm] <;> rfl)|rfl|(simp only [List.length_drop,List.length_take];rfl)) ?_;(with_reducible refine (laws_heldQueue.calls kj60 _ _ t397 t378 t379 t380 t381 1 t398 _ ?side1 ?side2 A92.out).mono ?_);(case side1=>repeat (first|exact (Kd.R_reads' HO_384000.out).2.2|(with_reducible refine Kd.C_alloc ?_ _)|(with_reducible refine Kd.C_drewN ?_ _)|(with_reducible refine Kd.C_drew ?_)));(case side2=>rw [show t397.length=t375.length from (Kd.R_reads' HO_384000.out).1.symm];exact (Kd.R_reads' HO_384000.out).2.1);rintro e w104 ⟨rfl,hb⟩;refine ⟨_,rfl,?_⟩;replace HO_367000:=Aside0.mk (Kd.R_below (kr HO_367000) hb);replace HO_375000:=Aside0.mk (Kd.R_below (kr HO_375000) hb);replace HO_384000:=Aside0.mk (Kd.R_below (kr HO_384000) hb);replace BK349:=Aside0.mk (blk_below (bk BK349) hb);replace BK366:=Aside0.mk (blk_below (bk BK366) hb);replace BK374:=Aside0.mk (blk_below (bk BK374) hb);replace BK383:=Aside0.mk (blk_below (bk BK383) hb);replace HB:=Aside0.mk (below_step bl hb);(try clear hb);(try clear hb2);(try clear hk);(try clear hi);have hnb105:=NB349_366.out;have hnc105:=NB366_349.out;have hnb106:=NB349_374.out;have hnc106:=NB374_349.out;obtain ⟨hcz107_0,hcz107_1,hcz107_2,hcz107_3,hcz107_4,hfz107_0,hfz107_1,hfz107_2,hfz107_3,hfz107_4⟩:=ck5 BK349.out)|((with_reducible refine gate_callee (f:=14) rfl ?_);refine gl Try.func14 #[.agg #[.slice A0_0 l0_0.length c0_0,.int .i64 a0_1,.int .i64 a0_2,.int .i64 a0_3,.int .i64 a0_4]] ?_;(with_reducible refine (laws_toQueue.calls kj60 _ _ l0_0 a0_1 a0_2 a0_3 a0_4 t399 t402 t403 t404 t405 _ ?side1 ?side2 A95.out).mono ?_);(case side1=>exact kc HR0_0);(case side2=>exact HC0_0.out);rintro e w108 ⟨v400,rfl,ho0,hb⟩;refine ⟨_,rfl,?_⟩;have HO401:=Aside0.mk (Kd.R_lower (Kd.R_new' (Kd.R_new' (Kd.R_new' ho0 (Kd.R_lt (kr HO_367000))) (Kd.R_lt (kr HO_375000))) (Kd.R_lt (kr HO_384000))) (below_size bl));replace HO_367000:=Aside0.mk (Kd.R_elder' (kr HO_367000) (Kd.R_base ho0) hb);replace HO_375000:=Aside0.mk (Kd.R_elder' (kr HO_375000) (Kd.R_base ho0) hb);replace HO_384000:=Aside0.mk (Kd.R_elder' (kr HO_384000) (Kd.R_base ho0) hb);replace BK349:=Aside0.mk (blk_below (bk BK349) hb);replace BK366:=Aside0.mk (blk_below (bk BK366) hb);replace BK374:=Aside0.mk (blk_below (bk BK374) hb);replace BK383:=Aside0.mk (blk_below (bk BK383) hb);replace HB:=Aside0.mk (below_step bl hb);(try clear hb);(try clear hb2);(try clear hk);(try clear hi);(try clear ho0);obtain ⟨Ao109,co109,eo109⟩:=Kd.R_slice HO401.out;subst eo109)|((with_reducible refine gate_callee (f:=15) rfl ?_);refine gl Try.func15 #[.agg #[.slice Ao109 t399.length co109,.int .i64 t402,.int .i64 t403,.int .i64 t404,.int .i64 t405],.int .i64 a1] ?_;(with_reducible refine (impl_MoveBack.calls kj60 _ _ t399 t402 t403 t404 t405 a1 t406 t409 t410 t411 t412 t413 _ ?side1 ?side2 A96.out).mono ?_);(case side1=>repeat (first|exact (Kd.R_reads' HO401.out).2.2|(with_reducible refine Kd.C_alloc ?_ _)|(with_reducible refine Kd.C_drewN ?_ _)|(with_reducible refine Kd.C_drew ?_)));(case side2=>exact (Kd.R_reads' HO401.out).2.1);rintro e w110 ⟨v407,rfl,ho0,hb⟩;refine ⟨_,rfl,?_⟩;have HO408:=Aside0.mk (Kd.R_lower (Kd.R_new' (Kd.R_new' (Kd.R_new' (Kd.R_new' ho0 (Kd.R_lt (kr HO_367000))) (Kd.R_lt (kr HO_375000))) (Kd.R_lt (kr HO_384000))) (Kd.R_lt (kr HO401))) (below_size bl));replace HO_367000:=Aside0.mk (Kd.R_elder' (kr HO_367000) (Kd.R_base ho0) hb);replace HO_375000:=Aside0.mk (Kd.R_elder' (kr HO_375000) (Kd.R_base ho0) hb);replace HO_384000:=Aside0.mk (Kd.R_elder' (kr HO_384000) (Kd.R_base ho0) hb);replace HO401:=Aside0.mk (Kd.R_elder' (kr HO401) (Kd.R_base ho0) hb);replace BK349:=Aside0.mk (blk_below (bk BK349) hb);replace BK366:=Aside0.mk (blk_below (bk BK366) hb);replace BK374:=Aside0.mk (blk_below (bk BK374) hb);replace BK383:=Aside0.mk (blk_below (bk BK383) hb);replace HB:=Aside0.mk (below_step bl hb);(try clear hb);(try clear hb2);(try clear hk);(try clear hi);(try clear ho0))|((with_reducible refine gate_dst (N:=14) rfl ?_);refine bx 14 #[.slice none 0 0,.int .i64 0,.int .i64 0,.int .i64 0,.int .i64 0] 28 ?_;intro gb414 hg w111 hbox hb;replace HO_367000:=Aside0.mk (Kd.R_below (kr HO_367000) hb);replace HO_375000:=Aside0.mk (Kd.R_below (kr HO_375000) hb);replace HO_384000:=Aside0.mk (Kd.R_below (kr HO_384000) hb);replace HO401:=Aside0.mk (Kd.R_below (kr HO401) hb);replace HO408:=Aside0.mk (Kd.R_below (kr HO408) hb);have BK414:=Aside0.mk (hbox);have GW414:=Aside0.mk (bz hg:w.heap.size≤gb414);have GE414:=GW414;replace HB:=Aside0.mk (below_step bl hb);have NB349_414:=Aside0.mk (nl hg BK349:gb349≠gb414);have NB414_349:=Aside0.mk (nr hg BK349:gb414≠gb349);replace BK349:=Aside0.mk (blk_below (bk BK349) hb);have NB366_414:=Aside0.mk (nl hg BK366:gb366≠gb414);have NB414_366:=Aside0.mk (nr hg BK366:gb414≠gb366);replace BK366:=Aside0.mk (blk_below (bk BK366) hb);have NB374_414:=Aside0.mk (nl hg BK374:gb374≠gb414);have NB414_374:=Aside0.mk (nr hg BK374:gb414≠gb374);replace BK374:=Aside0.mk (blk_below (bk BK374) hb);have NB383_414:=Aside0.mk (nl hg BK383:gb383≠gb414);have NB414_383:=Aside0.mk (nr hg BK383:gb414≠gb383);replace BK383:=Aside0.mk (blk_below (bk BK383) hb);clear hb hbox hg;obtain ⟨Ao112,co112,eo112⟩:=Kd.R_slice HO408.out;subst eo112;have hnb113:=NB414_349.out;have hnc113:=NB349_414.out;have hnb114:=NB414_366.out;have hnc114:=NB366_414.out;have hnb115:=NB414_374.out;have hnc115:=NB374_414.out;have hnb116:=NB414_383.out;have hnc116:=NB383_414.out;obtain ⟨hcz117_0,hcz117_1,hcz117_2,hcz117_3,hcz117_4,hfz117_0,hfz117_1,hfz117_2,hfz117_3,hfz117_4⟩:=ck5 BK414.out))
           (try simp only [Act.put,List.setIfInBounds_toArray,List.set_cons_zero,List.set_cons_succ])
           go_cut [92] (fun v92 wc=>∃ (kq:Nat) (x92_96:Bool),v92 = .bool x92_96∧Aside0 (laws_FnExactMoveBack.j2 kq t396 x92_96 t397 t378 t379 t380 t381=some r)∧Aside0 (kq≤kj60)∧Aside0 (Kd.R k97 97 wc w.heap.size (fun k_=>some k_≠((.slice Ao27 t394.length co27):Value).ownBlock∧some k_≠((.slice Ao33 t375.length co33):Value).ownBlock∧some k_≠((.slice Ao112 t406.length co112):Value).ownBlock) (.slice Ao21 t358.length co21) t358)∧Aside0 (Kd.R k97 97 wc w.heap.size (fun k_=>some k_≠((.slice Ao21 t358.length co21):Value).ownBlock∧some k_≠((.slice Ao33 t375.length co33):Value).ownBlock∧some k_≠((.slice Ao112 t406.length co112):Value).ownBlock) (.slice Ao27 t394.length co27) t394)∧Aside0 (Kd.R k97 97 wc w.heap.size (fun k_=>some k_≠((.slice Ao21 t358.length co21):Value).ownBlock∧some k_≠((.slice Ao27 t394.length co27):Value).ownBlock∧some k_≠((.slice Ao112 t406.length co112):Value).ownBlock) (.slice Ao33 t375.length co33) t397)∧Aside0 (Kd.R k97 97 wc w.heap.size (fun k_=>some k_≠((.slice Ao21 t358.length co21):Value).ownBlock∧some k_≠((.slice Ao27 t394.length co27):Value).ownBlock∧some k_≠((.slice Ao33 t375.length co33):Value).ownBlock) (.slice Ao112 t406.length co112) t406)∧Aside0 (wc.heap[gb349]? = some (.cells #[(.slice A0_0 l0_0.length c0_0),.int .i64 a0_1,.int .i64 a0_2,.int .i64 a0_3,.int .i64 a0_4] 24 (0,0)))∧Aside0 (wc.heap[gb366]? = some (.cells #[(.slice Ao21 t358.length co21),.int .i64 t361,.int .i64 t362,.int .i64 t363,.int .i64 t364] 28 (0,0)))∧Aside0 (wc.heap[gb374]? = some (.cells #[(.slice Ao27 t394.length co27),.int .i64 t370,.int .i64 t371,.int .i64 t372,.int .i64 t373] 28 (0,0)))∧Aside0 (wc.heap[gb383]? = some (.cells #[(.slice Ao33 t375.length co33),.int .i64 t378,.int .i64 t379,.int .i64 t380,.int .i64 t381] 28 (0,0)))∧Aside0 (wc.heap[gb414]? = some (.cells #[(.slice Ao112 t406.length co112),.int .i64 t409,.int .i64 t410,.int .i64 t411,.int .i64 t412] 28 (0,0)))∧Aside0 (Below w.heap.size w wc))
           case first =>
            have H:=HC97.out
            clear HC97
            replace H:=Option.bind_eq_some_iff.mp H
            obtain ⟨t415,A1180,H⟩:=H
            have A118:=Aside0.mk A1180
            clear A1180
            by_cases c119:t415=true
            ·subst c119
             rw [if_pos rfl] at H
             have H':=Aside0.mk H
             clear H
             have hnb120:=NB414_349.out
             have hnc120:=NB349_414.out
             have hnb121:=NB414_366.out
             have hnc121:=NB366_414.out
             have hnb122:=NB414_374.out
             have hnc122:=NB374_414.out
             have hnb123:=NB414_383.out
             have hnc123:=NB383_414.out
             obtain ⟨hcz124_0,hcz124_1,hcz124_2,hcz124_3,hcz124_4,hfz124_0,hfz124_1,hfz124_2,hfz124_3,hfz124_4⟩:=ck5 BK414.out
             have hnb125:=NB366_349.out
             have hnc125:=NB349_366.out
             have hnb126:=NB366_374.out
             have hnc126:=NB374_366.out
             have hnb127:=NB366_383.out
             have hnc127:=NB383_366.out
             obtain ⟨hcz128_0,hcz128_1,hcz128_2,hcz128_3,hcz128_4,hfz128_0,hfz128_1,hfz128_2,hfz128_3,hfz128_4⟩:=ck5 BK366.out
             go_wp2_with (first|((with_reducible refine gate_callee (f:=16) rfl ?_);refine gl Try.func16 #[.agg #[.slice Ao112 t406.length co112,.int .i64 t409,.int .i64 t410,.int .i64 t411,.int .i64 t412],.agg #[.slice Ao21 t358.length co21,.int .i64 t361,.int .i64 t362,.int .i64 t363,.int .i64 t364]] ?_;(with_reducible refine (laws_eqQueue.calls kj60 _ _ t406 t409 t410 t411 t412 _ _ t358 t361 t362 t363 t364 true _ ?side1 ?side2 ?side3 ?side4 A118.out).mono ?_);(case side1=>refine (Kd.R_reads' (e:=97) (base:=w.heap.size) (ok:=fun k_=>((((True∧some k_≠(.slice Ao21 t358.length co21:Value).ownBlock)∧some k_≠(.slice Ao27 t394.length co27:Value).ownBlock)∧some k_≠(.slice Ao33 t375.length co33:Value).ownBlock)∧some k_≠(.slice Ao109 t399.length co109:Value).ownBlock)) (n:=t406.length) (c:=co112) ?_).2.2;exact (by (with_reducible repeat (first|apply Kd.R_alloc|apply Kd.R_drewN|apply Kd.R_drew));exact (Kd.R_mono (Kd.R_far (p:=⟨gb414,4,none⟩) (Kd.R_far (p:=⟨gb414,3,none⟩) (Kd.R_far (p:=⟨gb414,2,none⟩) (Kd.R_far (p:=⟨gb414,1,none⟩) (Kd.R_far (p:=⟨gb414,0,none⟩) (Kd.R_types HO408.out BK414.out (by decide)) (fun _ hk=>hk.2) (.slice Ao112 t406.length co112)) (fun _ hk=>hk.2) (.int .i64 t409)) (fun _ hk=>hk.2) (.int .i64 t410)) (fun _ hk=>hk.2) (.int .i64 t411)) (fun _ hk=>hk.2) (.int .i64 t412)) (fun _ h_=>h_.1))));(case side2=>exact (Kd.R_reads' HO408.out).2.1);(case side3=>refine (Kd.R_reads' (e:=97) (base:=w.heap.size) (ok:=fun k_=>(((some k_≠(.slice Ao27 t394.length co27:Value).ownBlock∧some k_≠(.slice Ao33 t375.length co33:Value).ownBlock)∧some k_≠(.slice Ao109 t399.length co109:Value).ownBlock)∧some k_≠(.slice Ao112 t406.length co112:Value).ownBlock)) (n:=t358.length) (c:=co21) ?_).2.2;exact (by (with_reducible repeat (first|apply Kd.R_alloc|apply Kd.R_drewN|apply Kd.R_drew));exact (Kd.R_mono (Kd.R_far (p:=⟨gb414,4,none⟩) (Kd.R_far (p:=⟨gb414,3,none⟩) (Kd.R_far (p:=⟨gb414,2,none⟩) (Kd.R_far (p:=⟨gb414,1,none⟩) (Kd.R_far (p:=⟨gb414,0,none⟩) (Kd.R_types HO_367000.out BK414.out (by decide)) (fun _ hk=>hk.2) (.slice Ao112 t406.length co112)) (fun _ hk=>hk.2) (.int .i64 t409)) (fun _ hk=>hk.2) (.int .i64 t410)) (fun _ hk=>hk.2) (.int .i64 t411)) (fun _ hk=>hk.2) (.int .i64 t412)) (fun _ h_=>h_.1))));(case side4=>exact (Kd.R_reads' HO_367000.out).2.1);rintro e w129 ⟨rfl,hb⟩;refine ⟨_,rfl,?_⟩;replace HO_367000:=Aside0.mk (Kd.R_below (by (with_reducible repeat (first|apply Kd.R_alloc|apply Kd.R_drewN|apply Kd.R_drew));exact (Kd.R_mono (Kd.R_far (p:=⟨gb414,4,none⟩) (Kd.R_far (p:=⟨gb414,3,none⟩) (Kd.R_far (p:=⟨gb414,2,none⟩) (Kd.R_far (p:=⟨gb414,1,none⟩) (Kd.R_far (p:=⟨gb414,0,none⟩) (Kd.R_types HO_367000.out BK414.out (by decide)) (fun _ hk=>hk.2) (.slice Ao112 t406.length co112)) (fun _ hk=>hk.2) (.int .i64 t409)) (fun _ hk=>hk.2) (.int .i64 t410)) (fun _ hk=>hk.2) (.int .i64 t411)) (fun _ hk=>hk.2) (.int .i64 t412)) (fun _ h_=>h_.1))) hb);replace HO_375000:=Aside0.mk (Kd.R_below (by (with_reducible repeat (first|apply Kd.R_alloc|apply Kd.R_drewN|apply Kd.R_drew));exact (Kd.R_mono (Kd.R_far (p:=⟨gb414,4,none⟩) (Kd.R_far (p:=⟨gb414,3,none⟩) (Kd.R_far (p:=⟨gb414,2,none⟩) (Kd.R_far (p:=⟨gb414,1,none⟩) (Kd.R_far (p:=⟨gb414,0,none⟩) (Kd.R_types HO_375000.out BK414.out (by decide)) (fun _ hk=>hk.2) (.slice Ao112 t406.length co112)) (fun _ hk=>hk.2) (.int .i64 t409)) (fun _ hk=>hk.2) (.int .i64 t410)) (fun _ hk=>hk.2) (.int .i64 t411)) (fun _ hk=>hk.2) (.int .i64 t412)) (fun _ h_=>h_.1))) hb);replace HO_384000:=Aside0.mk (Kd.R_below (by (with_reducible repeat (first|apply Kd.R_alloc|apply Kd.R_drewN|apply Kd.R_drew));exact (Kd.R_mono (Kd.R_far (p:=⟨gb414,4,none⟩) (Kd.R_far (p:=⟨gb414,3,none⟩) (Kd.R_far (p:=⟨gb414,2,none⟩) (Kd.R_far (p:=⟨gb414,1,none⟩) (Kd.R_far (p:=⟨gb414,0,none⟩) (Kd.R_types HO_384000.out BK414.out (by decide)) (fun _ hk=>hk.2) (.slice Ao112 t406.length co112)) (fun _ hk=>hk.2) (.int .i64 t409)) (fun _ hk=>hk.2) (.int .i64 t410)) (fun _ hk=>hk.2) (.int .i64 t411)) (fun _ hk=>hk.2) (.int .i64 t412)) (fun _ h_=>h_.1))) hb);replace HO401:=Aside0.mk (Kd.R_below (by (with_reducible repeat (first|apply Kd.R_alloc|apply Kd.R_drewN|apply Kd.R_drew));exact (Kd.R_mono (Kd.R_far (p:=⟨gb414,4,none⟩) (Kd.R_far (p:=⟨gb414,3,none⟩) (Kd.R_far (p:=⟨gb414,2,none⟩) (Kd.R_far (p:=⟨gb414,1,none⟩) (Kd.R_far (p:=⟨gb414,0,none⟩) (Kd.R_types HO401.out BK414.out (by decide)) (fun _ hk=>hk.2) (.slice Ao112 t406.length co112)) (fun _ hk=>hk.2) (.int .i64 t409)) (fun _ hk=>hk.2) (.int .i64 t410)) (fun _ hk=>hk.2) (.int .i64 t411)) (fun _ hk=>hk.2) (.int .i64 t412)) (fun _ h_=>h_.1))) hb);replace HO408:=Aside0.mk (Kd.R_below (by (with_reducible repeat (first|apply Kd.R_alloc|apply Kd.R_drewN|apply Kd.R_drew));exact (Kd.R_mono (Kd.R_far (p:=⟨gb414,4,none⟩) (Kd.R_far (p:=⟨gb414,3,none⟩) (Kd.R_far (p:=⟨gb414,2,none⟩) (Kd.R_far (p:=⟨gb414,1,none⟩) (Kd.R_far (p:=⟨gb414,0,none⟩) (Kd.R_types HO408.out BK414.out (by decide)) (fun _ hk=>hk.2) (.slice Ao112 t406.length co112)) (fun _ hk=>hk.2) (.int .i64 t409)) (fun _ hk=>hk.2) (.int .i64 t410)) (fun _ hk=>hk.2) (.int .i64 t411)) (fun _ hk=>hk.2) (.int .i64 t412)) (fun _ h_=>h_.1))) hb);replace BK349:=Aside0.mk (blk_below (g:=gb349) (o:=.cells #[.slice A0_0 l0_0.length c0_0,.int .i64 a0_1,.int .i64 a0_2,.int .i64 a0_3,.int .i64 a0_4] 24 (0,0)) (bf BK349) hb);replace BK366:=Aside0.mk (blk_below (g:=gb366) (o:=.cells #[.slice Ao21 t358.length co21,.int .i64 t361,.int .i64 t362,.int .i64 t363,.int .i64 t364] 28 (0,0)) (bf BK366) hb);replace BK374:=Aside0.mk (blk_below (g:=gb374) (o:=.cells #[.slice Ao27 t394.length co27,.int .i64 t370,.int .i64 t371,.int .i64 t372,.int .i64 t373] 28 (0,0)) (bf BK374) hb);replace BK383:=Aside0.mk (blk_below (g:=gb383) (o:=.cells #[.slice Ao33 t375.length co33,.int .i64 t378,.int .i64 t379,.int .i64 t380,.int .i64 t381] 28 (0,0)) (bf BK383) hb);replace BK414:=Aside0.mk (blk_below (g:=gb414) (o:=.cells #[.slice Ao112 t406.length co112,.int .i64 t409,.int .i64 t410,.int .i64 t411,.int .i64 t412] 28 (0,0)) (by (with_reducible repeat (first|refine blk_drewN ?_ _|refine blk_drew ?_|refine blk_alloc ?_ _));refine blk_put (cs:=#[.slice Ao112 t406.length co112,.int .i64 t409,.int .i64 t410,.int .i64 t411,.int .i64 0]) ?_ 4 _ rfl;(with_reducible repeat (first|refine blk_drewN ?_ _|refine blk_drew ?_|refine blk_alloc ?_ _));refine blk_put (cs:=#[.slice Ao112 t406.length co112,.int .i64 t409,.int .i64 t410,.int .i64 0,.int .i64 0]) ?_ 3 _ rfl;(with_reducible repeat (first|refine blk_drewN ?_ _|refine blk_drew ?_|refine blk_alloc ?_ _));refine blk_put (cs:=#[.slice Ao112 t406.length co112,.int .i64 t409,.int .i64 0,.int .i64 0,.int .i64 0]) ?_ 2 _ rfl;(with_reducible repeat (first|refine blk_drewN ?_ _|refine blk_drew ?_|refine blk_alloc ?_ _));refine blk_put (cs:=#[.slice Ao112 t406.length co112,.int .i64 0,.int .i64 0,.int .i64 0,.int .i64 0]) ?_ 1 _ rfl;(with_reducible repeat (first|refine blk_drewN ?_ _|refine blk_drew ?_|refine blk_alloc ?_ _));refine blk_put (cs:=#[.slice none 0 0,.int .i64 0,.int .i64 0,.int .i64 0,.int .i64 0]) ?_ 0 _ rfl;(with_reducible repeat (first|refine blk_drewN ?_ _|refine blk_drew ?_|refine blk_alloc ?_ _));exact BK414.out) hb);replace HB:=Aside0.mk (below_step bl hb);(try clear hb);(try clear hb2);(try clear hk);(try clear hi)))
             go_meet
             case rel=>exact ⟨_,((t413 != t365)),(by first|rfl|(simp;done)|(simp [*];done)),H',⟨by have:=HJ11.out;have:=HJ60.out;first|omega|exact Nat.le_refl _⟩,⟨by (try simp only [hl375000_60]);(with_reducible repeat (first|apply Kd.R_alloc|apply Kd.R_drewN|apply Kd.R_drew));exact Kd.R_mono HO_367000.out (fun _ hk=>⟨hk.1.1.1,⟨hk.1.1.2,hk.2⟩⟩)⟩,⟨by (try simp only [hl375000_60]);(with_reducible repeat (first|apply Kd.R_alloc|apply Kd.R_drewN|apply Kd.R_drew));exact Kd.R_mono HO_375000.out (fun _ hk=>⟨hk.1.1.1,⟨hk.1.1.2,hk.2⟩⟩)⟩,⟨by (try simp only [hl375000_60]);(with_reducible repeat (first|apply Kd.R_alloc|apply Kd.R_drewN|apply Kd.R_drew));exact Kd.R_mono HO_384000.out (fun _ hk=>⟨hk.1.1.1,⟨hk.1.1.2,hk.2⟩⟩)⟩,⟨by (try simp only [hl375000_60]);(with_reducible repeat (first|apply Kd.R_alloc|apply Kd.R_drewN|apply Kd.R_drew));exact Kd.R_mono HO408.out (fun _ hk=>⟨hk.1.1.1.2,⟨hk.1.1.2,hk.1.2⟩⟩)⟩,⟨by (try simp only [hl375000_60]);(with_reducible repeat (first|refine blk_drewN ?_ _|refine blk_drew ?_|refine blk_alloc ?_ _));exact BK349.out⟩,⟨by (try simp only [hl375000_60]);(with_reducible repeat (first|refine blk_drewN ?_ _|refine blk_drew ?_|refine blk_alloc ?_ _));exact BK366.out⟩,⟨by (try simp only [hl375000_60]);(with_reducible repeat (first|refine blk_drewN ?_ _|refine blk_drew ?_|refine blk_alloc ?_ _));exact BK374.out⟩,⟨by (try simp only [hl375000_60]);(with_reducible repeat (first|refine blk_drewN ?_ _|refine blk_drew ?_|refine blk_alloc ?_ _));exact BK383.out⟩,⟨by (try simp only [hl375000_60]);(with_reducible repeat (first|refine blk_drewN ?_ _|refine blk_drew ?_|refine blk_alloc ?_ _));exact BK414.out⟩,⟨bl⟩⟩
            ·replace c119:=Bool.eq_false_iff.mpr c119
             subst c119
             rw [if_neg nft] at H
             have H':=Aside0.mk H
             clear H
             have hnb130:=NB414_349.out
             have hnc130:=NB349_414.out
             have hnb131:=NB414_366.out
             have hnc131:=NB366_414.out
             have hnb132:=NB414_374.out
             have hnc132:=NB374_414.out
             have hnb133:=NB414_383.out
             have hnc133:=NB383_414.out
             obtain ⟨hcz134_0,hcz134_1,hcz134_2,hcz134_3,hcz134_4,hfz134_0,hfz134_1,hfz134_2,hfz134_3,hfz134_4⟩:=ck5 BK414.out
             have hnb135:=NB366_349.out
             have hnc135:=NB349_366.out
             have hnb136:=NB366_374.out
             have hnc136:=NB374_366.out
             have hnb137:=NB366_383.out
             have hnc137:=NB383_366.out
             obtain ⟨hcz138_0,hcz138_1,hcz138_2,hcz138_3,hcz138_4,hfz138_0,hfz138_1,hfz138_2,hfz138_3,hfz138_4⟩:=ck5 BK366.out
             go_wp2_with (first|((with_reducible refine gate_callee (f:=16) rfl ?_);refine gl Try.func16 #[.agg #[.slice Ao112 t406.length co112,.int .i64 t409,.int .i64 t410,.int .i64 t411,.int .i64 t412],.agg #[.slice Ao21 t358.length co21,.int .i64 t361,.int .i64 t362,.int .i64 t363,.int .i64 t364]] ?_;(with_reducible refine (laws_eqQueue.calls kj60 _ _ t406 t409 t410 t411 t412 _ _ t358 t361 t362 t363 t364 false _ ?side1 ?side2 ?side3 ?side4 A118.out).mono ?_);(case side1=>refine (Kd.R_reads' (e:=97) (base:=w.heap.size) (ok:=fun k_=>((((True∧some k_≠(.slice Ao21 t358.length co21:Value).ownBlock)∧some k_≠(.slice Ao27 t394.length co27:Value).ownBlock)∧some k_≠(.slice Ao33 t375.length co33:Value).ownBlock)∧some k_≠(.slice Ao109 t399.length co109:Value).ownBlock)) (n:=t406.length) (c:=co112) ?_).2.2;exact (by (with_reducible repeat (first|apply Kd.R_alloc|apply Kd.R_drewN|apply Kd.R_drew));exact (Kd.R_mono (Kd.R_far (p:=⟨gb414,4,none⟩) (Kd.R_far (p:=⟨gb414,3,none⟩) (Kd.R_far (p:=⟨gb414,2,none⟩) (Kd.R_far (p:=⟨gb414,1,none⟩) (Kd.R_far (p:=⟨gb414,0,none⟩) (Kd.R_types HO408.out BK414.out (by decide)) (fun _ hk=>hk.2) (.slice Ao112 t406.length co112)) (fun _ hk=>hk.2) (.int .i64 t409)) (fun _ hk=>hk.2) (.int .i64 t410)) (fun _ hk=>hk.2) (.int .i64 t411)) (fun _ hk=>hk.2) (.int .i64 t412)) (fun _ h_=>h_.1))));(case side2=>exact (Kd.R_reads' HO408.out).2.1);(case side3=>refine (Kd.R_reads' (e:=97) (base:=w.heap.size) (ok:=fun k_=>(((some k_≠(.slice Ao27 t394.length co27:Value).ownBlock∧some k_≠(.slice Ao33 t375.length co33:Value).ownBlock)∧some k_≠(.slice Ao109 t399.length co109:Value).ownBlock)∧some k_≠(.slice Ao112 t406.length co112:Value).ownBlock)) (n:=t358.length) (c:=co21) ?_).2.2;exact (by (with_reducible repeat (first|apply Kd.R_alloc|apply Kd.R_drewN|apply Kd.R_drew));exact (Kd.R_mono (Kd.R_far (p:=⟨gb414,4,none⟩) (Kd.R_far (p:=⟨gb414,3,none⟩) (Kd.R_far (p:=⟨gb414,2,none⟩) (Kd.R_far (p:=⟨gb414,1,none⟩) (Kd.R_far (p:=⟨gb414,0,none⟩) (Kd.R_types HO_367000.out BK414.out (by decide)) (fun _ hk=>hk.2) (.slice Ao112 t406.length co112)) (fun _ hk=>hk.2) (.int .i64 t409)) (fun _ hk=>hk.2) (.int .i64 t410)) (fun _ hk=>hk.2) (.int .i64 t411)) (fun _ hk=>hk.2) (.int .i64 t412)) (fun _ h_=>h_.1))));(case side4=>exact (Kd.R_reads' HO_367000.out).2.1);rintro e w139 ⟨rfl,hb⟩;refine ⟨_,rfl,?_⟩;replace HO_367000:=Aside0.mk (Kd.R_below (by (with_reducible repeat (first|apply Kd.R_alloc|apply Kd.R_drewN|apply Kd.R_drew));exact (Kd.R_mono (Kd.R_far (p:=⟨gb414,4,none⟩) (Kd.R_far (p:=⟨gb414,3,none⟩) (Kd.R_far (p:=⟨gb414,2,none⟩) (Kd.R_far (p:=⟨gb414,1,none⟩) (Kd.R_far (p:=⟨gb414,0,none⟩) (Kd.R_types HO_367000.out BK414.out (by decide)) (fun _ hk=>hk.2) (.slice Ao112 t406.length co112)) (fun _ hk=>hk.2) (.int .i64 t409)) (fun _ hk=>hk.2) (.int .i64 t410)) (fun _ hk=>hk.2) (.int .i64 t411)) (fun _ hk=>hk.2) (.int .i64 t412)) (fun _ h_=>h_.1))) hb);replace HO_375000:=Aside0.mk (Kd.R_below (by (with_reducible repeat (first|apply Kd.R_alloc|apply Kd.R_drewN|apply Kd.R_drew));exact (Kd.R_mono (Kd.R_far (p:=⟨gb414,4,none⟩) (Kd.R_far (p:=⟨gb414,3,none⟩) (Kd.R_far (p:=⟨gb414,2,none⟩) (Kd.R_far (p:=⟨gb414,1,none⟩) (Kd.R_far (p:=⟨gb414,0,none⟩) (Kd.R_types HO_375000.out BK414.out (by decide)) (fun _ hk=>hk.2) (.slice Ao112 t406.length co112)) (fun _ hk=>hk.2) (.int .i64 t409)) (fun _ hk=>hk.2) (.int .i64 t410)) (fun _ hk=>hk.2) (.int .i64 t411)) (fun _ hk=>hk.2) (.int .i64 t412)) (fun _ h_=>h_.1))) hb);replace HO_384000:=Aside0.mk (Kd.R_below (by (with_reducible repeat (first|apply Kd.R_alloc|apply Kd.R_drewN|apply Kd.R_drew));exact (Kd.R_mono (Kd.R_far (p:=⟨gb414,4,none⟩) (Kd.R_far (p:=⟨gb414,3,none⟩) (Kd.R_far (p:=⟨gb414,2,none⟩) (Kd.R_far (p:=⟨gb414,1,none⟩) (Kd.R_far (p:=⟨gb414,0,none⟩) (Kd.R_types HO_384000.out BK414.out (by decide)) (fun _ hk=>hk.2) (.slice Ao112 t406.length co112)) (fun _ hk=>hk.2) (.int .i64 t409)) (fun _ hk=>hk.2) (.int .i64 t410)) (fun _ hk=>hk.2) (.int .i64 t411)) (fun _ hk=>hk.2) (.int .i64 t412)) (fun _ h_=>h_.1))) hb);replace HO401:=Aside0.mk (Kd.R_below (by (with_reducible repeat (first|apply Kd.R_alloc|apply Kd.R_drewN|apply Kd.R_drew));exact (Kd.R_mono (Kd.R_far (p:=⟨gb414,4,none⟩) (Kd.R_far (p:=⟨gb414,3,none⟩) (Kd.R_far (p:=⟨gb414,2,none⟩) (Kd.R_far (p:=⟨gb414,1,none⟩) (Kd.R_far (p:=⟨gb414,0,none⟩) (Kd.R_types HO401.out BK414.out (by decide)) (fun _ hk=>hk.2) (.slice Ao112 t406.length co112)) (fun _ hk=>hk.2) (.int .i64 t409)) (fun _ hk=>hk.2) (.int .i64 t410)) (fun _ hk=>hk.2) (.int .i64 t411)) (fun _ hk=>hk.2) (.int .i64 t412)) (fun _ h_=>h_.1))) hb);replace HO408:=Aside0.mk (Kd.R_below (by (with_reducible repeat (first|apply Kd.R_alloc|apply Kd.R_drewN|apply Kd.R_drew));exact (Kd.R_mono (Kd.R_far (p:=⟨gb414,4,none⟩) (Kd.R_far (p:=⟨gb414,3,none⟩) (Kd.R_far (p:=⟨gb414,2,none⟩) (Kd.R_far (p:=⟨gb414,1,none⟩) (Kd.R_far (p:=⟨gb414,0,none⟩) (Kd.R_types HO408.out BK414.out (by decide)) (fun _ hk=>hk.2) (.slice Ao112 t406.length co112)) (fun _ hk=>hk.2) (.int .i64 t409)) (fun _ hk=>hk.2) (.int .i64 t410)) (fun _ hk=>hk.2) (.int .i64 t411)) (fun _ hk=>hk.2) (.int .i64 t412)) (fun _ h_=>h_.1))) hb);replace BK349:=Aside0.mk (blk_below (g:=gb349) (o:=.cells #[.slice A0_0 l0_0.length c0_0,.int .i64 a0_1,.int .i64 a0_2,.int .i64 a0_3,.int .i64 a0_4] 24 (0,0)) (bf BK349) hb);replace BK366:=Aside0.mk (blk_below (g:=gb366) (o:=.cells #[.slice Ao21 t358.length co21,.int .i64 t361,.int .i64 t362,.int .i64 t363,.int .i64 t364] 28 (0,0)) (bf BK366) hb);replace BK374:=Aside0.mk (blk_below (g:=gb374) (o:=.cells #[.slice Ao27 t394.length co27,.int .i64 t370,.int .i64 t371,.int .i64 t372,.int .i64 t373] 28 (0,0)) (bf BK374) hb);replace BK383:=Aside0.mk (blk_below (g:=gb383) (o:=.cells #[.slice Ao33 t375.length co33,.int .i64 t378,.int .i64 t379,.int .i64 t380,.int .i64 t381] 28 (0,0)) (bf BK383) hb);replace BK414:=Aside0.mk (blk_below (g:=gb414) (o:=.cells #[.slice Ao112 t406.length co112,.int .i64 t409,.int .i64 t410,.int .i64 t411,.int .i64 t412] 28 (0,0)) (by (with_reducible repeat (first|refine blk_drewN ?_ _|refine blk_drew ?_|refine blk_alloc ?_ _));refine blk_put (cs:=#[.slice Ao112 t406.length co112,.int .i64 t409,.int .i64 t410,.int .i64 t411,.int .i64 0]) ?_ 4 _ rfl;(with_reducible repeat (first|refine blk_drewN ?_ _|refine blk_drew ?_|refine blk_alloc ?_ _));refine blk_put (cs:=#[.slice Ao112 t406.length co112,.int .i64 t409,.int .i64 t410,.int .i64 0,.int .i64 0]) ?_ 3 _ rfl;(with_reducible repeat (first|refine blk_drewN ?_ _|refine blk_drew ?_|refine blk_alloc ?_ _));refine blk_put (cs:=#[.slice Ao112 t406.length co112,.int .i64 t409,.int .i64 0,.int .i64 0,.int .i64 0]) ?_ 2 _ rfl;(with_reducible repeat (first|refine blk_drewN ?_ _|refine blk_drew ?_|refine blk_alloc ?_ _));refine blk_put (cs:=#[.slice Ao112 t406.length co112,.int .i64 0,.int .i64 0,.int .i64 0,.int .i64 0]) ?_ 1 _ rfl;(with_reducible repeat (first|refine blk_drewN ?_ _|refine blk_drew ?_|refine blk_alloc ?_ _));refine blk_put (cs:=#[.slice none 0 0,.int .i64 0,.int .i64 0,.int .i64 0,.int .i64 0]) ?_ 0 _ rfl;(with_reducible repeat (first|refine blk_drewN ?_ _|refine blk_drew ?_|refine blk_alloc ?_ _));exact BK414.out) hb);replace HB:=Aside0.mk (below_step bl hb);(try clear hb);(try clear hb2);(try clear hk);(try clear hi)))
             go_meet
             case rel=>exact ⟨_,(true),(by first|rfl|(simp;done)|(simp [*];done)),H',⟨by have:=HJ11.out;have:=HJ60.out;first|omega|exact Nat.le_refl _⟩,⟨by (try simp only [hl375000_60]);(with_reducible repeat (first|apply Kd.R_alloc|apply Kd.R_drewN|apply Kd.R_drew));exact Kd.R_mono HO_367000.out (fun _ hk=>⟨hk.1.1.1,⟨hk.1.1.2,hk.2⟩⟩)⟩,⟨by (try simp only [hl375000_60]);(with_reducible repeat (first|apply Kd.R_alloc|apply Kd.R_drewN|apply Kd.R_drew));exact Kd.R_mono HO_375000.out (fun _ hk=>⟨hk.1.1.1,⟨hk.1.1.2,hk.2⟩⟩)⟩,⟨by (try simp only [hl375000_60]);(with_reducible repeat (first|apply Kd.R_alloc|apply Kd.R_drewN|apply Kd.R_drew));exact Kd.R_mono HO_384000.out (fun _ hk=>⟨hk.1.1.1,⟨hk.1.1.2,hk.2⟩⟩)⟩,⟨by (try simp only [hl375000_60]);(with_reducible repeat (first|apply Kd.R_alloc|apply Kd.R_drewN|apply Kd.R_drew));exact Kd.R_mono HO408.out (fun _ hk=>⟨hk.1.1.1.2,⟨hk.1.1.2,hk.1.2⟩⟩)⟩,⟨by (try simp only [hl375000_60]);(with_reducible repeat (first|refine blk_drewN ?_ _|refine blk_drew ?_|refine blk_alloc ?_ _));exact BK349.out⟩,⟨by (try simp only [hl375000_60]);(with_reducible repeat (first|refine blk_drewN ?_ _|refine blk_drew ?_|refine blk_alloc ?_ _));exact BK366.out⟩,⟨by (try simp only [hl375000_60]);(with_reducible repeat (first|refine blk_drewN ?_ _|refine blk_drew ?_|refine blk_alloc ?_ _));exact BK374.out⟩,⟨by (try simp only [hl375000_60]);(with_reducible repeat (first|refine blk_drewN ?_ _|refine blk_drew ?_|refine blk_alloc ?_ _));exact BK383.out⟩,⟨by (try simp only [hl375000_60]);(with_reducible repeat (first|refine blk_drewN ?_ _|refine blk_drew ?_|refine blk_alloc ?_ _));exact BK414.out⟩,⟨bl⟩⟩
           case rest =>
            clear HC97
            try clear c1
            try clear c2
            try clear p2
            try clear c3
            try clear c4
            try clear c4b0
            try clear c5
            try clear c6
            try clear c7
            try clear c8
            try clear c9
            try clear c10
            try clear c11
            try clear c12
            try clear c13
            try clear c14
            try clear c15
            try clear c16
            try clear c17
            try clear c18
            try clear c22
            try clear c28
            try clear c29
            try clear c34
            try clear c35
            try clear c36
            try clear c39
            try clear c40
            try clear c41
            try clear c42
            try clear c44
            try clear c45
            try clear c48
            try clear c49
            try clear c50
            try clear c52
            try clear c53
            try clear c56
            try clear c59
            try clear c66
            try clear c67
            try clear c68
            try clear c71
            try clear c71b0
            try clear c73
            try clear c74
            try clear c75
            try clear c76
            try clear c78
            try clear c79
            try clear c82
            try clear c83
            try clear c84
            try clear c86
            try clear c87
            try clear c90
            try clear c93
            try clear c93b0
            try clear c94
            try clear c94b0
            try clear c94b1
            try clear c98
            try clear c99
            try clear c100
            try clear c105
            try clear c106
            try clear c113
            try clear c114
            try clear c115
            try clear c116
            try clear c119
            try clear c120
            try clear c121
            try clear c122
            try clear c123
            try clear c125
            try clear c126
            try clear c127
            try clear c130
            try clear c131
            try clear c132
            try clear c133
            try clear c135
            try clear c136
            try clear c137
            try clear hcz101_0
            try clear hcz101_1
            try clear hcz101_2
            try clear hcz101_3
            try clear hcz101_4
            try clear hcz103_0
            try clear hcz103_1
            try clear hcz103_2
            try clear hcz103_3
            try clear hcz103_4
            try clear hcz107_0
            try clear hcz107_1
            try clear hcz107_2
            try clear hcz107_3
            try clear hcz107_4
            try clear hcz117_0
            try clear hcz117_1
            try clear hcz117_2
            try clear hcz117_3
            try clear hcz117_4
            try clear hcz124_0
            try clear hcz124_1
            try clear hcz124_2
            try clear hcz124_3
            try clear hcz124_4
            try clear hcz128_0
            try clear hcz128_1
            try clear hcz128_2
            try clear hcz128_3
            try clear hcz128_4
            try clear hcz134_0
            try clear hcz134_1
            try clear hcz134_2
            try clear hcz134_3
            try clear hcz134_4
            try clear hcz138_0
            try clear hcz138_1
            try clear hcz138_2
            try clear hcz138_3
            try clear hcz138_4
            try clear hcz14_0
            try clear hcz14_1
            try clear hcz14_2
            try clear hcz14_3
            try clear hcz14_4
            try clear hcz16_0
            try clear hcz16_1
            try clear hcz16_2
            try clear hcz16_3
            try clear hcz16_4
            try clear hcz23_0
            try clear hcz23_1
            try clear hcz23_2
            try clear hcz23_3
            try clear hcz23_4
            try clear hcz24_0
            try clear hcz24_1
            try clear hcz24_2
            try clear hcz24_3
            try clear hcz24_4
            try clear hcz30_0
            try clear hcz30_1
            try clear hcz30_2
            try clear hcz30_3
            try clear hcz30_4
            try clear hcz37_0
            try clear hcz37_1
            try clear hcz37_2
            try clear hcz37_3
            try clear hcz37_4
            try clear hcz43_0
            try clear hcz43_1
            try clear hcz43_2
            try clear hcz43_3
            try clear hcz43_4
            try clear hcz46_0
            try clear hcz46_1
            try clear hcz46_2
            try clear hcz46_3
            try clear hcz46_4
            try clear hcz51_0
            try clear hcz51_1
            try clear hcz51_2
            try clear hcz51_3
            try clear hcz51_4
            try clear hcz54_0
            try clear hcz54_1
            try clear hcz54_2
            try clear hcz54_3
            try clear hcz54_4
            try clear hcz69_0
            try clear hcz69_1
            try clear hcz69_2
            try clear hcz69_3
            try clear hcz69_4
            try clear hcz6_0
            try clear hcz6_1
            try clear hcz6_2
            try clear hcz6_3
            try clear hcz6_4
            try clear hcz77_0
            try clear hcz77_1
            try clear hcz77_2
            try clear hcz77_3
            try clear hcz77_4
            try clear hcz80_0
            try clear hcz80_1
            try clear hcz80_2
            try clear hcz80_3
            try clear hcz80_4
            try clear hcz85_0
            try clear hcz85_1
            try clear hcz85_2
            try clear hcz85_3
            try clear hcz85_4
            try clear hcz88_0
            try clear hcz88_1
            try clear hcz88_2
            try clear hcz88_3
            try clear hcz88_4
            try clear hfz101_0
            try clear hfz101_1
            try clear hfz101_2
            try clear hfz101_3
            try clear hfz101_4
            try clear hfz103_0
            try clear hfz103_1
            try clear hfz103_2
            try clear hfz103_3
            try clear hfz103_4
            try clear hfz107_0
            try clear hfz107_1
            try clear hfz107_2
            try clear hfz107_3
            try clear hfz107_4
            try clear hfz117_0
            try clear hfz117_1
            try clear hfz117_2
            try clear hfz117_3
            try clear hfz117_4
            try clear hfz124_0
            try clear hfz124_1
            try clear hfz124_2
            try clear hfz124_3
            try clear hfz124_4
            try clear hfz128_0
            try clear hfz128_1
            try clear hfz128_2
            try clear hfz128_3
            try clear hfz128_4
            try clear hfz134_0
            try clear hfz134_1
            try clear hfz134_2
            try clear hfz134_3
            try clear hfz134_4
            try clear hfz138_0
            try clear hfz138_1
            try clear hfz138_2
            try clear hfz138_3
            try clear hfz138_4
            try clear hfz14_0
            try clear hfz14_1
            try clear hfz14_2
            try clear hfz14_3
            try clear hfz14_4
            try clear hfz16_0
            try clear hfz16_1
            try clear hfz16_2
            try clear hfz16_3
            try clear hfz16_4
            try clear hfz23_0
            try clear hfz23_1
            try clear hfz23_2
            try clear hfz23_3
            try clear hfz23_4
            try clear hfz24_0
            try clear hfz24_1
            try clear hfz24_2
            try clear hfz24_3
            try clear hfz24_4
            try clear hfz30_0
            try clear hfz30_1
            try clear hfz30_2
            try clear hfz30_3
            try clear hfz30_4
            try clear hfz37_0
            try clear hfz37_1
            try clear hfz37_2
            try clear hfz37_3
            try clear hfz37_4
            try clear hfz43_0
            try clear hfz43_1
            try clear hfz43_2
            try clear hfz43_3
            try clear hfz43_4
            try clear hfz46_0
            try clear hfz46_1
            try clear hfz46_2
            try clear hfz46_3
            try clear hfz46_4
            try clear hfz51_0
            try clear hfz51_1
            try clear hfz51_2
            try clear hfz51_3
            try clear hfz51_4
            try clear hfz54_0
            try clear hfz54_1
            try clear hfz54_2
            try clear hfz54_3
            try clear hfz54_4
            try clear hfz69_0
            try clear hfz69_1
            try clear hfz69_2
            try clear hfz69_3
            try clear hfz69_4
            try clear hfz6_0
            try clear hfz6_1
            try clear hfz6_2
            try clear hfz6_3
            try clear hfz6_4
            try clear hfz77_0
            try clear hfz77_1
            try clear hfz77_2
            try clear hfz77_3
            try clear hfz77_4
            try clear hfz80_0
            try clear hfz80_1
            try clear hfz80_2
            try clear hfz80_3
            try clear hfz80_4
            try clear hfz85_0
            try clear hfz85_1
            try clear hfz85_2
            try clear hfz85_3
            try clear hfz85_4
            try clear hfz88_0
            try clear hfz88_1
            try clear hfz88_2
            try clear hfz88_3
            try clear hfz88_4
            try clear p2
            obtain ⟨kq,x92_96,rfl,HA,HJ96,HO_367000,HO_375000,HO_384000,HO_415000,BK349,BK366,BK374,BK383,BK414,HB⟩:=hcut
            have hl384000_96:=(Kd.R_reads' HO_384000.out).1
            rw [hl384000_96] at HO_384000
            (try simp only [hl384000_96])
            (try simp only [hl384000_96] at BK349)
            (try simp only [hl384000_96] at BK366)
            (try simp only [hl384000_96] at BK374)
            (try simp only [hl384000_96] at BK383)
            (try simp only [hl384000_96] at BK414)
            (try simp only [hl384000_96] at HO_367000)
            (try simp only [hl384000_96] at HO_375000)
            (try simp only [hl384000_96] at HO_415000)
            cases kq with
            | zero=>exact absurd HA.out (by simp [laws_FnExactMoveBack.j2])
            | succ kj96 =>
             have H:=HA.out
             clear HA
             simp only [laws_FnExactMoveBack.j2] at H
             by_cases c140:x92_96=true
             ·subst c140
              rw [if_pos rfl] at H
              exact absurd H (by simp)
             ·replace c140:=Bool.eq_false_iff.mpr c140
              subst c140
              rw [if_neg nft] at H
              replace H:=Option.bind_eq_some_iff.mp H
              obtain ⟨t416,A1410,H⟩:=H
              have A141:=Aside0.mk A1410
              clear A1410
              by_cases c142:t416 < 0
              ·rw [if_pos c142] at H
               exact absurd H (by simp)
              ·rw [if_neg c142] at H
               have c142b0:decide (t416 < 0)=false:=decide_eq_false c142
               clear c142
               by_cases c143:t416=t396
               ·rw [if_pos c143] at H
                have c143b0:(t416 == t396)=true:=beq_iff_eq.mpr c143
                have c143b1:(t416 != t396)=false:=bne_eq_false_iff_eq.mpr c143
                clear c143
                obtain rfl:=Option.some.inj H
                have hnb144:=NB383_349.out
                have hnc144:=NB349_383.out
                have hnb145:=NB383_366.out
                have hnc145:=NB366_383.out
                have hnb146:=NB383_374.out
                have hnc146:=NB374_383.out
                have hnb147:=NB383_414.out
                have hnc147:=NB414_383.out
                obtain ⟨hcz148_0,hcz148_1,hcz148_2,hcz148_3,hcz148_4,hfz148_0,hfz148_1,hfz148_2,hfz148_3,hfz148_4⟩:=ck5 BK383.out
                go_wp2_with (first|((with_reducible refine gate_callee (f:=18) rfl ?_);refine gl Try.func18 #[.agg #[.slice Ao33 t397.length co33,.int .i64 t378,.int .i64 t379,.int .i64 t380,.int .i64 t381],.int .i64 1] ?_;(with_reducible refine (laws_heldQueue.calls kj96 _ _ t397 t378 t379 t380 t381 1 t416 _ ?side1 ?side2 A141.out).mono ?_);(case side1=>repeat (first|exact (Kd.R_reads' HO_384000.out).2.2|(with_reducible refine Kd.C_alloc ?_ _)|(with_reducible refine Kd.C_drewN ?_ _)|(with_reducible refine Kd.C_drew ?_)));(case side2=>exact (Kd.R_reads' HO_384000.out).2.1);rintro e w149 ⟨rfl,hb⟩;refine ⟨_,rfl,?_⟩;replace HO_367000:=Aside0.mk (Kd.R_below (kr HO_367000) hb);replace HO_375000:=Aside0.mk (Kd.R_below (kr HO_375000) hb);replace HO_384000:=Aside0.mk (Kd.R_below (kr HO_384000) hb);replace HO_415000:=Aside0.mk (Kd.R_below (kr HO_415000) hb);replace BK349:=Aside0.mk (blk_below (bk BK349) hb);replace BK366:=Aside0.mk (blk_below (bk BK366) hb);replace BK374:=Aside0.mk (blk_below (bk BK374) hb);replace BK383:=Aside0.mk (blk_below (bk BK383) hb);replace BK414:=Aside0.mk (blk_below (bk BK414) hb);replace HB:=Aside0.mk (below_step bl hb);(try clear hb);(try clear hb2);(try clear hk);(try clear hi)))
                go_ret
                exact ⟨by first|rfl|(simp [errW_none,errW_some] <;> rfl)|(simp [*,errW_none,errW_some] <;> rfl),bl⟩
               ·rw [if_neg c143] at H
                exact absurd H (by simp)
          ·rw [if_neg c94] at H
           exact absurd H (by simp)
     ·replace c59:=Bool.eq_false_iff.mpr c59
      subst c59
      rw [if_neg nft] at H
      exact absurd H (by simp)

end Go.Proofs.Ytnkpjpfmjkiidaa.PFnExactMoveBack
