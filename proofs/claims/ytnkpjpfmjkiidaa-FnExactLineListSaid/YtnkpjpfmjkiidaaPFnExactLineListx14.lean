/- Contracts of functions of the given program: what each call answers. Written by a program of this session, out of the text of the functions. -/
import Derived.Test.YtnkpjpfmjkiidaaPFnExactLineListx0
import Derived.Test.YtnkpjpfmjkiidaaPFnExactLineListx1
import Derived.Test.YtnkpjpfmjkiidaaPFnExactLineListx2
import Derived.Test.YtnkpjpfmjkiidaaPFnExactLineListx7
import Derived.Test.YtnkpjpfmjkiidaaPFnExactLineListx12
import Derived.Test.YtnkpjpfmjkiidaaPFnExactLineListx13
import Derived.Test.YtnkpjpfmjkiidaaPrs
namespace Go.Proofs.Ytnkpjpfmjkiidaa.PFnExactLineList
open Go.RowKit Go.Proofs.YtnkpjpfmjkiidaaW.PrintWords Go.Proofs.YtnkpjpfmjkiidaaW.PrintLast Go.Proofs.YtnkpjpfmjkiidaaW.PrintMore Go.Proofs.Ytnkpjpfmjkiidaa.Giv Go.Proofs.Ytnkpjpfmjkiidaa.Prs
attribute [local go_sem] max2_int min2_int max_two min_two max_three min_three max_four min_four   -- for this text's walks alone
set_option linter.unusedVariables false
set_option linter.unusedSimpArgs false

/-! ### laws_FnExactLineList: function 6 -/
def laws_FnExactLineList.j0:Nat→List Int→List Int→Bool→List (S100)→Int→Int→Int→Int→List (S120)→Int→Option (Bool)
 | 0,_,_,_,_,_,_,_,_,_,_=>none
 | k + 1,x4,x6,x42,x347000,x347001,x347002,x347003,x347004,x347005,x347006=>if x42=true then (none) else ((laws_markIntS.f k x6 1).bind fun bt394=>((laws_heldIntS.f k bt394.2 1).bind fun t396=>(if t396 < 0 then (none) else (if t396=bt394.1 then ((laws_toLine.f k x347000 x347001 x347002 x347003 x347004 x347005 x347006).bind fun bt397=>((impl_LineList.f k bt397.1 bt397.2.1 bt397.2.2.1 bt397.2.2.2.1 bt397.2.2.2.2.1 bt397.2.2.2.2.2.1 bt397.2.2.2.2.2.2).bind fun t408=>((laws_eqIntS.f k t408 x4).bind fun t411=>(if t411=true then ((laws_heldIntS.f k bt394.2 1).bind fun t412=>(if t412 < 0 then (none) else (if t412=bt394.1 then (some true) else (none)))) else (none))))) else (none)))))
def laws_FnExactLineList.f (k:Nat) (l0_0:List (S100)) (a0_1:Int) (a0_2:Int) (a0_3:Int) (a0_4:Int) (l0_5:List (S120)) (a0_6:Int):Option (Bool):=(laws_szLine.f l0_0 a0_1 a0_2 a0_3 a0_4 l0_5 a0_6 1048576).bind fun t347=>(if t347 < 0 then (some true) else ((laws_toLine.f k l0_0 a0_1 a0_2 a0_3 a0_4 l0_5 a0_6).bind fun bt348=>((spec_LineList.f k bt348.1 bt348.2.1 bt348.2.2.1 bt348.2.2.2.1 bt348.2.2.2.2.1 bt348.2.2.2.2.2.1 bt348.2.2.2.2.2.2).bind fun t359=>((laws_toLine.f k l0_0 a0_1 a0_2 a0_3 a0_4 l0_5 a0_6).bind fun bt362=>((impl_LineList.f k bt362.1 bt362.2.1 bt362.2.2.1 bt362.2.2.2.1 bt362.2.2.2.2.1 bt362.2.2.2.2.2.1 bt362.2.2.2.2.2.2).bind fun t374=>((laws_eqIntS.f k t374 t359).bind fun t377=>(if t377=true then ((laws_toLine.f k l0_0 a0_1 a0_2 a0_3 a0_4 l0_5 a0_6).bind fun bt378=>((laws_eqLine.f k bt362.1 bt362.2.1 bt362.2.2.1 bt362.2.2.2.1 bt362.2.2.2.2.1 bt362.2.2.2.2.2.1 bt362.2.2.2.2.2.2 bt378.1 bt378.2.1 bt378.2.2.1 bt378.2.2.2.1 bt378.2.2.2.2.1 bt378.2.2.2.2.2.1 bt378.2.2.2.2.2.2).bind fun t389=>(if t389=true then ((laws_markLine.f k bt362.1 bt362.2.1 bt362.2.2.1 bt362.2.2.2.1 bt362.2.2.2.2.1 bt362.2.2.2.2.2.1 bt362.2.2.2.2.2.2 1).bind fun bt390=>(if bt390.1 < 0 then (laws_FnExactLineList.j0 k t359 t374 true l0_0 a0_1 a0_2 a0_3 a0_4 l0_5 a0_6) else ((laws_eqIntS.f k t374 t359).bind fun t393=>(laws_FnExactLineList.j0 k t359 t374 (!t393) l0_0 a0_1 a0_2 a0_3 a0_4 l0_5 a0_6)))) else (none)))) else (none))))))))
theorem laws_FnExactLineList.mono_l:∀ k,(∀ y0 y1 y2 y3 y4 y5 y6 y7 y8 y9,LeO (laws_FnExactLineList.j0 k y0 y1 y2 y3 y4 y5 y6 y7 y8 y9) (laws_FnExactLineList.j0 (k + 1) y0 y1 y2 y3 y4 y5 y6 y7 y8 y9))
 | 0=>fun _ _ _ _ _ _ _ _ _ _ r h=>by simp [laws_FnExactLineList.j0] at h
 | k + 1=>by
  have ih0:=laws_FnExactLineList.mono_l k
  ·intro y0 y1 y2 y3 y4 y5 y6 y7 y8 y9
   unfold laws_FnExactLineList.j0
   repeat' first
   | (with_reducible exact ih0 _ _ _ _ _ _ _ _ _ _)
   | (with_reducible exact impl_LineList.mono _ _ _ _ _ _ _ _)
   | (with_reducible exact laws_eqIntS.mono _ _ _)
   | (with_reducible exact laws_eqLine.mono _ _ _ _ _ _ _ _ _ _ _ _ _ _ _)
   | (with_reducible exact laws_heldIntS.mono _ _ _)
   | (with_reducible exact laws_markIntS.mono _ _ _)
   | (with_reducible exact laws_markLine.mono _ _ _ _ _ _ _ _ _)
   | (with_reducible exact laws_toLine.mono _ _ _ _ _ _ _ _)
   | (with_reducible exact spec_LineList.mono _ _ _ _ _ _ _ _)
   | (with_reducible exact LeO.refl _)
   | (with_reducible exact LeO.none _)
   | (with_reducible refine LeO.ite ?_ ?_)
   | (with_reducible refine LeO.bind ?_ (fun _=>?_))
   | exact ih0 _ _ _ _ _ _ _ _ _ _
   | exact impl_LineList.mono _ _ _ _ _ _ _ _
   | exact laws_eqIntS.mono _ _ _
   | exact laws_eqLine.mono _ _ _ _ _ _ _ _ _ _ _ _ _ _ _
   | exact laws_heldIntS.mono _ _ _
   | exact laws_markIntS.mono _ _ _
   | exact laws_markLine.mono _ _ _ _ _ _ _ _ _
   | exact laws_toLine.mono _ _ _ _ _ _ _ _
   | exact spec_LineList.mono _ _ _ _ _ _ _ _
   | exact LeO.none _
   | refine LeO.ite ?_ ?_
   | refine LeO.bind ?_ (fun _=>?_)
theorem laws_FnExactLineList.mono:∀ a0 a1 a2 a3 a4 a5 a6 k,LeO (laws_FnExactLineList.f k a0 a1 a2 a3 a4 a5 a6) (laws_FnExactLineList.f (k + 1) a0 a1 a2 a3 a4 a5 a6):=by
 intro a0 a1 a2 a3 a4 a5 a6 k
 have ih0:=laws_FnExactLineList.mono_l k
 unfold laws_FnExactLineList.f
 repeat' first
   | (with_reducible exact ih0 _ _ _ _ _ _ _ _ _ _)
   | (with_reducible exact impl_LineList.mono _ _ _ _ _ _ _ _)
   | (with_reducible exact laws_eqIntS.mono _ _ _)
   | (with_reducible exact laws_eqLine.mono _ _ _ _ _ _ _ _ _ _ _ _ _ _ _)
   | (with_reducible exact laws_heldIntS.mono _ _ _)
   | (with_reducible exact laws_markIntS.mono _ _ _)
   | (with_reducible exact laws_markLine.mono _ _ _ _ _ _ _ _ _)
   | (with_reducible exact laws_toLine.mono _ _ _ _ _ _ _ _)
   | (with_reducible exact spec_LineList.mono _ _ _ _ _ _ _ _)
   | (with_reducible exact LeO.refl _)
   | (with_reducible exact LeO.none _)
   | (with_reducible refine LeO.ite ?_ ?_)
   | (with_reducible refine LeO.bind ?_ (fun _=>?_))
   | exact ih0 _ _ _ _ _ _ _ _ _ _
   | exact impl_LineList.mono _ _ _ _ _ _ _ _
   | exact laws_eqIntS.mono _ _ _
   | exact laws_eqLine.mono _ _ _ _ _ _ _ _ _ _ _ _ _ _ _
   | exact laws_heldIntS.mono _ _ _
   | exact laws_markIntS.mono _ _ _
   | exact laws_markLine.mono _ _ _ _ _ _ _ _ _
   | exact laws_toLine.mono _ _ _ _ _ _ _ _
   | exact spec_LineList.mono _ _ _ _ _ _ _ _
   | exact LeO.none _
   | refine LeO.ite ?_ ?_
   | refine LeO.bind ?_ (fun _=>?_)
set_option maxHeartbeats 8000000 in
set_option maxRecDepth 100000 in
theorem laws_FnExactLineList.calls (k:Nat) (A0_0:Option Addr) (c0_0:Nat) (l0_0:List (S100)) (a0_1:Int) (a0_2:Int) (a0_3:Int) (a0_4:Int) (A0_5:Option Addr) (c0_5:Nat) (l0_5:List (S120)) (a0_6:Int) (r:Bool) (w:World) (hr0_0:Kd.C k100 w A0_0 l0_0.length l0_0) (hc0_0:l0_0.length≤c0_0) (hr0_5:Kd.C k120 w A0_5 l0_5.length l0_5) (hc0_5:l0_5.length≤c0_5) (h:laws_FnExactLineList.f k l0_0 a0_1 a0_2 a0_3 a0_4 l0_5 a0_6=some r) :
  Calls Try.prog 6 #[.agg #[.slice A0_0 l0_0.length c0_0,.int .i64 a0_1,.int .i64 a0_2,.int .i64 a0_3,.int .i64 a0_4,.slice A0_5 l0_5.length c0_5,.int .i64 a0_6]] w fun e w'=>e = .returned (.bool r)∧Below w.heap.size w w':=by
 have hu39:=Try.underlying39
 have hu46:=Try.underlying46
 have HR0_0:=Aside0.mk hr0_0
 have HC0_0:=Aside0.mk hc0_0
 clear hr0_0 hc0_0
 have HR0_5:=Aside0.mk hr0_5
 have HC0_5:=Aside0.mk hc0_5
 clear hr0_5 hc0_5
 have HB:=Aside0.mk (Below.refl w.heap.size w)
 have H:((laws_szLine.f l0_0 a0_1 a0_2 a0_3 a0_4 l0_5 a0_6 1048576).bind fun t347=>(if t347 < 0 then (some true) else ((laws_toLine.f k l0_0 a0_1 a0_2 a0_3 a0_4 l0_5 a0_6).bind fun bt348=>((spec_LineList.f k bt348.1 bt348.2.1 bt348.2.2.1 bt348.2.2.2.1 bt348.2.2.2.2.1 bt348.2.2.2.2.2.1 bt348.2.2.2.2.2.2).bind fun t359=>((laws_toLine.f k l0_0 a0_1 a0_2 a0_3 a0_4 l0_5 a0_6).bind fun bt362=>((impl_LineList.f k bt362.1 bt362.2.1 bt362.2.2.1 bt362.2.2.2.1 bt362.2.2.2.2.1 bt362.2.2.2.2.2.1 bt362.2.2.2.2.2.2).bind fun t374=>((laws_eqIntS.f k t374 t359).bind fun t377=>(if t377=true then ((laws_toLine.f k l0_0 a0_1 a0_2 a0_3 a0_4 l0_5 a0_6).bind fun bt378=>((laws_eqLine.f k bt362.1 bt362.2.1 bt362.2.2.1 bt362.2.2.2.1 bt362.2.2.2.2.1 bt362.2.2.2.2.2.1 bt362.2.2.2.2.2.2 bt378.1 bt378.2.1 bt378.2.2.1 bt378.2.2.2.1 bt378.2.2.2.2.1 bt378.2.2.2.2.2.1 bt378.2.2.2.2.2.2).bind fun t389=>(if t389=true then ((laws_markLine.f k bt362.1 bt362.2.1 bt362.2.2.1 bt362.2.2.2.1 bt362.2.2.2.2.1 bt362.2.2.2.2.2.1 bt362.2.2.2.2.2.2 1).bind fun bt390=>(if bt390.1 < 0 then (laws_FnExactLineList.j0 k t359 t374 true l0_0 a0_1 a0_2 a0_3 a0_4 l0_5 a0_6) else ((laws_eqIntS.f k t374 t359).bind fun t393=>(laws_FnExactLineList.j0 k t359 t374 (!t393) l0_0 a0_1 a0_2 a0_3 a0_4 l0_5 a0_6)))) else (none)))) else (none)))))))))=some r:=h
 clear h
 replace H:=Option.bind_eq_some_iff.mp H
 obtain ⟨t347,A20,H⟩:=H
 have A2:=Aside0.mk A20
 clear A20
 by_cases c3:t347 < 0
 ·rw [if_pos c3] at H
  have c3b0:decide (t347 < 0)=true:=decide_eq_true c3
  clear c3
  obtain rfl:=Option.some.inj H
  go_enter Try.func6,Try.ntmps6
  go_wp2_with (first|((with_reducible refine gate_dst (N:=1) rfl ?_);refine box_event ?hg (N:=1) ?hd (cs:=#[.slice A0_0 l0_0.length c0_0,.int .i64 a0_1,.int .i64 a0_2,.int .i64 a0_3,.int .i64 a0_4,.slice A0_5 l0_5.length c0_5,.int .i64 a0_6]) (t:=39) ?hr ?_;(case hd=>rfl);(case hg=>rfl);(case hr=>first|(go_simp;done)|(go_simp;rfl));intro gb346 hg w4 hbox hb;have BK346:=Aside0.mk (hbox);have GW346:=Aside0.mk ((by rw [hg];exact (below_size bl):w.heap.size≤gb346));have GE346:=GW346;replace HB:=Aside0.mk (below_step bl hb);clear hb hbox hg;obtain ⟨hcz5_0,hcz5_1,hcz5_2,hcz5_3,hcz5_4,hcz5_5,hcz5_6,hfz5_0,hfz5_1,hfz5_2,hfz5_3,hfz5_4,hfz5_5,hfz5_6⟩:=ck7 BK346.out)|((with_reducible refine gate_callee (f:=19) rfl ?_);refine goesL_ (some 13) rfl rfl Try.func19 (by kernel_rfl) rfl #[.agg #[.slice A0_0 l0_0.length c0_0,.int .i64 a0_1,.int .i64 a0_2,.int .i64 a0_3,.int .i64 a0_4,.slice A0_5 l0_5.length c0_5,.int .i64 a0_6],.int .i64 1048576] rfl (by (try simp only [List.map_toArray,List.map_cons,List.map_nil]);first|done|rfl|(simp only [List.length_drop,List.length_take];rfl)) ?_;(with_reducible refine (laws_szLine.calls _ _ l0_0 a0_1 a0_2 a0_3 a0_4 _ _ l0_5 a0_6 1048576 t347 _ ?side1 ?side2 ?side3 ?side4 A2.out).mono ?_);(case side1=>repeat (first|exact (Kd.C_below HR0_0.out HB.out)|(with_reducible refine Kd.C_alloc ?_ _)|(with_reducible refine Kd.C_drewN ?_ _)|(with_reducible refine Kd.C_drew ?_)));(case side2=>exact HC0_0.out);(case side3=>repeat (first|exact (Kd.C_below HR0_5.out HB.out)|(with_reducible refine Kd.C_alloc ?_ _)|(with_reducible refine Kd.C_drewN ?_ _)|(with_reducible refine Kd.C_drew ?_)));(case side4=>exact HC0_5.out);rintro e w6 ⟨rfl,hb⟩;refine ⟨_,rfl,?_⟩;replace BK346:=Aside0.mk (blk_below (bk BK346) hb);replace HB:=Aside0.mk (below_step bl hb);(try clear hb);(try clear hb2);(try clear hk);(try clear hi)))
  go_ret
  exact ⟨by first|rfl|(simp [errW_none,errW_some] <;> rfl)|(simp [*,errW_none,errW_some] <;> rfl),bl⟩
 ·rw [if_neg c3] at H
  have c3b0:decide (t347 < 0)=false:=decide_eq_false c3
  clear c3
  replace H:=Option.bind_eq_some_iff.mp H
  obtain ⟨⟨t348,t351,t352,t353,t354,t355,t358⟩,A70,H⟩:=H
  replace H:((spec_LineList.f k t348 t351 t352 t353 t354 t355 t358).bind fun t359=>((laws_toLine.f k l0_0 a0_1 a0_2 a0_3 a0_4 l0_5 a0_6).bind fun bt362=>((impl_LineList.f k bt362.1 bt362.2.1 bt362.2.2.1 bt362.2.2.2.1 bt362.2.2.2.2.1 bt362.2.2.2.2.2.1 bt362.2.2.2.2.2.2).bind fun t374=>((laws_eqIntS.f k t374 t359).bind fun t377=>(if t377=true then ((laws_toLine.f k l0_0 a0_1 a0_2 a0_3 a0_4 l0_5 a0_6).bind fun bt378=>((laws_eqLine.f k bt362.1 bt362.2.1 bt362.2.2.1 bt362.2.2.2.1 bt362.2.2.2.2.1 bt362.2.2.2.2.2.1 bt362.2.2.2.2.2.2 bt378.1 bt378.2.1 bt378.2.2.1 bt378.2.2.2.1 bt378.2.2.2.2.1 bt378.2.2.2.2.2.1 bt378.2.2.2.2.2.2).bind fun t389=>(if t389=true then ((laws_markLine.f k bt362.1 bt362.2.1 bt362.2.2.1 bt362.2.2.2.1 bt362.2.2.2.2.1 bt362.2.2.2.2.2.1 bt362.2.2.2.2.2.2 1).bind fun bt390=>(if bt390.1 < 0 then (laws_FnExactLineList.j0 k t359 t374 true l0_0 a0_1 a0_2 a0_3 a0_4 l0_5 a0_6) else ((laws_eqIntS.f k t374 t359).bind fun t393=>(laws_FnExactLineList.j0 k t359 t374 (!t393) l0_0 a0_1 a0_2 a0_3 a0_4 l0_5 a0_6)))) else (none)))) else (none))))))=some r:=H
  have A7:=Aside0.mk A70
  clear A70
  replace H:=Option.bind_eq_some_iff.mp H
  obtain ⟨t359,A80,H⟩:=H
  have A8:=Aside0.mk A80
  clear A80
  replace H:=Option.bind_eq_some_iff.mp H
  obtain ⟨⟨t362,t365,t366,t367,t368,t369,t372⟩,A90,H⟩:=H
  replace H:((impl_LineList.f k t362 t365 t366 t367 t368 t369 t372).bind fun t374=>((laws_eqIntS.f k t374 t359).bind fun t377=>(if t377=true then ((laws_toLine.f k l0_0 a0_1 a0_2 a0_3 a0_4 l0_5 a0_6).bind fun bt378=>((laws_eqLine.f k t362 t365 t366 t367 t368 t369 t372 bt378.1 bt378.2.1 bt378.2.2.1 bt378.2.2.2.1 bt378.2.2.2.2.1 bt378.2.2.2.2.2.1 bt378.2.2.2.2.2.2).bind fun t389=>(if t389=true then ((laws_markLine.f k t362 t365 t366 t367 t368 t369 t372 1).bind fun bt390=>(if bt390.1 < 0 then (laws_FnExactLineList.j0 k t359 t374 true l0_0 a0_1 a0_2 a0_3 a0_4 l0_5 a0_6) else ((laws_eqIntS.f k t374 t359).bind fun t393=>(laws_FnExactLineList.j0 k t359 t374 (!t393) l0_0 a0_1 a0_2 a0_3 a0_4 l0_5 a0_6)))) else (none)))) else (none))))=some r:=H
  have A9:=Aside0.mk A90
  clear A90
  replace H:=Option.bind_eq_some_iff.mp H
  obtain ⟨t374,A100,H⟩:=H
  have A10:=Aside0.mk A100
  clear A100
  replace H:=Option.bind_eq_some_iff.mp H
  obtain ⟨t377,A110,H⟩:=H
  have A11:=Aside0.mk A110
  clear A110
  by_cases c12:t377=true
  ·subst c12
   rw [if_pos rfl] at H
   replace H:=Option.bind_eq_some_iff.mp H
   obtain ⟨⟨t378,t381,t382,t383,t384,t385,t388⟩,A130,H⟩:=H
   replace H:((laws_eqLine.f k t362 t365 t366 t367 t368 t369 t372 t378 t381 t382 t383 t384 t385 t388).bind fun t389=>(if t389=true then ((laws_markLine.f k t362 t365 t366 t367 t368 t369 t372 1).bind fun bt390=>(if bt390.1 < 0 then (laws_FnExactLineList.j0 k t359 t374 true l0_0 a0_1 a0_2 a0_3 a0_4 l0_5 a0_6) else ((laws_eqIntS.f k t374 t359).bind fun t393=>(laws_FnExactLineList.j0 k t359 t374 (!t393) l0_0 a0_1 a0_2 a0_3 a0_4 l0_5 a0_6)))) else (none)))=some r:=H
   have A13:=Aside0.mk A130
   clear A130
   replace H:=Option.bind_eq_some_iff.mp H
   obtain ⟨t389,A140,H⟩:=H
   have A14:=Aside0.mk A140
   clear A140
   by_cases c15:t389=true
   ·subst c15
    rw [if_pos rfl] at H
    replace H:=Option.bind_eq_some_iff.mp H
    obtain ⟨⟨t390,t391,t392⟩,A160,H⟩:=H
    replace H:(if t390 < 0 then (laws_FnExactLineList.j0 k t359 t374 true l0_0 a0_1 a0_2 a0_3 a0_4 l0_5 a0_6) else ((laws_eqIntS.f k t374 t359).bind fun t393=>(laws_FnExactLineList.j0 k t359 t374 (!t393) l0_0 a0_1 a0_2 a0_3 a0_4 l0_5 a0_6)))=some r:=H
    have A16:=Aside0.mk A160
    clear A160
    have HC17:=Aside0.mk H
    clear H
    go_enter Try.func6,Try.ntmps6
    try go_wp2_with (first|((with_reducible refine gate_dst (N:=1) rfl ?_);refine box_event ?hg (N:=1) ?hd (cs:=#[.slice A0_0 l0_0.length c0_0,.int .i64 a0_1,.int .i64 a0_2,.int .i64 a0_3,.int .i64 a0_4,.slice A0_5 l0_5.length c0_5,.int .i64 a0_6]) (t:=39) ?hr ?_;(case hd=>rfl);(case hg=>rfl);(case hr=>first|(go_simp;done)|(go_simp;rfl));intro gb346 hg w18 hbox hb;have BK346:=Aside0.mk (hbox);have GW346:=Aside0.mk ((by rw [hg];exact (below_size bl):w.heap.size≤gb346));have GE346:=GW346;replace HB:=Aside0.mk (below_step bl hb);clear hb hbox hg;obtain ⟨hcz19_0,hcz19_1,hcz19_2,hcz19_3,hcz19_4,hcz19_5,hcz19_6,hfz19_0,hfz19_1,hfz19_2,hfz19_3,hfz19_4,hfz19_5,hfz19_6⟩:=ck7 BK346.out)|((with_reducible refine gate_callee (f:=19) rfl ?_);refine goesL_ (some 13) rfl rfl Try.func19 (by kernel_rfl) rfl #[.agg #[.slice A0_0 l0_0.length c0_0,.int .i64 a0_1,.int .i64 a0_2,.int .i64 a0_3,.int .i64 a0_4,.slice A0_5 l0_5.length c0_5,.int .i64 a0_6],.int .i64 1048576] rfl (by (try simp only [List.map_toArray,List.map_cons,List.map_nil]);first|done|rfl|(simp only [List.length_drop,List.length_take];rfl)) ?_;(with_reducible refine (laws_szLine.calls _ _ l0_0 a0_1 a0_2 a0_3 a0_4 _ _ l0_5 a0_6 1048576 t347 _ ?side1 ?side2 ?side3 ?side4 A2.out).mono ?_);(case side1=>repeat (first|exact (Kd.C_below HR0_0.out HB.out)|(with_reducible refine Kd.C_alloc ?_ _)|(with_reducible refine Kd.C_drewN ?_ _)|(with_reducible refine Kd.C_drew ?_)));(case side2=>exact HC0_0.out);(case side3=>repeat (first|exact (Kd.C_below HR0_5.out HB.out)|(with_reducible refine Kd.C_alloc ?_ _)|(with_reducible refine Kd.C_drewN ?_ _)|(with_reducible refine Kd.C_drew ?_)));(case side4=>exact HC0_5.out);rintro e w20 ⟨rfl,hb⟩;refine ⟨_,rfl,?_⟩;replace BK346:=Aside0.mk (blk_below (bk BK346) hb);replace HB:=Aside0.mk (below_step bl hb);(try clear hb);(try clear hb2);(try clear hk);(try clear hi);obtain ⟨hcz21_0,hcz21_1,hcz21_2,hcz21_3,hcz21_4,hcz21_5,hcz21_6,hfz21_0,hfz21_1,hfz21_2,hfz21_3,hfz21_4,hfz21_5,hfz21_6⟩:=ck7 BK346.out)|((with_reducible refine gate_callee (f:=21) rfl ?_);refine goesL_ (some 17) rfl rfl Try.func21 (by kernel_rfl) rfl #[.agg #[.slice A0_0 l0_0.length c0_0,.int .i64 a0_1,.int .i64 a0_2,.int .i64 a0_3,.int .i64 a0_4,.slice A0_5 l0_5.length c0_5,.int .i64 a0_6]] rfl (by (try simp only [List.map_toArray,List.map_cons,List.map_nil]);first|done|rfl|(simp only [List.length_drop,List.length_take];rfl)) ?_;(with_reducible refine (laws_toLine.calls k _ _ l0_0 a0_1 a0_2 a0_3 a0_4 _ _ l0_5 a0_6 t348 t351 t352 t353 t354 t355 t358 _ ?side1 ?side2 ?side3 ?side4 A7.out).mono ?_);(case side1=>repeat (first|exact (Kd.C_below HR0_0.out HB.out)|(with_reducible refine Kd.C_alloc ?_ _)|(with_reducible refine Kd.C_drewN ?_ _)|(with_reducible refine Kd.C_drew ?_)));(case side2=>exact HC0_0.out);(case side3=>repeat (first|exact (Kd.C_below HR0_5.out HB.out)|(with_reducible refine Kd.C_alloc ?_ _)|(with_reducible refine Kd.C_drewN ?_ _)|(with_reducible refine Kd.C_drew ?_)));(case side4=>exact HC0_5.out);rintro e w22 ⟨v349,v356,rfl,ho0,ho1,hb⟩;refine ⟨_,rfl,?_⟩;have HO350:=Aside0.mk (Kd.R_lower ho0 (below_size bl));have HO357:=Aside0.mk (Kd.R_lower ho1 (below_size bl));replace BK346:=Aside0.mk (blk_below (bk BK346) hb);replace HB:=Aside0.mk (below_step bl hb);(try clear hb);(try clear hb2);(try clear hk);(try clear hi);(try clear ho0);(try clear ho1);obtain ⟨Ao23,co23,eo23⟩:=Kd.R_slice HO350.out;subst eo23;obtain ⟨Ao24,co24,eo24⟩:=Kd.R_slice HO357.out;subst eo24)|((with_reducible refine gate_callee (f:=26) rfl ?_);refine goesL_ (some 18) rfl rfl Try.func26 (by kernel_rfl) rfl #[.agg #[.slice Ao23 t348.length co23,.int .i64 t351,.int .i64 t352,.int .i64 t353,.int .i64 t354,.slice Ao24 t355.length co24,.int .i64 t358]] rfl (by (try simp only [List.map_toArray,List.map_cons,List.map_nil]);first|done|rfl|(simp only [List.length_drop,List.length_take];rfl)) ?_;(with_reducible refine (spec_LineList.calls k _ _ t348 t351 t352 t353 t354 _ _ t355 t358 t359 _ ?side1 ?side2 ?side3 ?side4 A8.out).mono ?_);(case side1=>repeat (first|exact (Kd.R_reads' HO350.out).2.2|(with_reducible refine Kd.C_alloc ?_ _)|(with_reducible refine Kd.C_drewN ?_ _)|(with_reducible refine Kd.C_drew ?_)));(case side2=>exact (Kd.R_reads' HO350.out).2.1);(case side3=>repeat (first|exact (Kd.R_reads' HO357.out).2.2|(with_reducible refine Kd.C_alloc ?_ _)|(with_reducible refine Kd.C_drewN ?_ _)|(with_reducible refine Kd.C_drew ?_)));(case side4=>exact (Kd.R_reads' HO357.out).2.1);rintro e w25 ⟨v360,rfl,ho0,hb⟩;refine ⟨_,rfl,?_⟩;replace HO350:=Aside0.mk (Kd.R_below (by (with_reducible repeat (first|apply Kd.R_alloc|apply Kd.R_drewN|apply Kd.R_drew));exact HO350.out) hb);replace HO357:=Aside0.mk (Kd.R_below (by (with_reducible repeat (first|apply Kd.R_alloc|apply Kd.R_drewN|apply Kd.R_drew));exact HO357.out) hb);have HO361:=Aside0.mk (Kd.R_lower ho0 (below_size bl));replace BK346:=Aside0.mk (blk_below (bk BK346) hb);replace HB:=Aside0.mk (below_step bl hb);(try clear hb);(try clear hb2);(try clear hk);(try clear hi);(try clear ho0);obtain ⟨hcz26_0,hcz26_1,hcz26_2,hcz26_3,hcz26_4,hcz26_5,hcz26_6,hfz26_0,hfz26_1,hfz26_2,hfz26_3,hfz26_4,hfz26_5,hfz26_6⟩:=ck7 BK346.out)|((with_reducible refine gate_callee (f:=21) rfl ?_);refine goesL_ (some 20) rfl rfl Try.func21 (by kernel_rfl) rfl #[.agg #[.slice A0_0 l0_0.length c0_0,.int .i64 a0_1,.int .i64 a0_2,.int .i64 a0_3,.int .i64 a0_4,.slice A0_5 l0_5.length c0_5,.int .i64 a0_6]] rfl (by (try simp only [List.map_toArray,List.map_cons,List.map_nil]);first|done|rfl|(simp only [List.length_drop,List.length_take];rfl)) ?_;(with_reducible refine (laws_toLine.calls k _ _ l0_0 a0_1 a0_2 a0_3 a0_4 _ _ l0_5 a0_6 t362 t365 t366 t367 t368 t369 t372 _ ?side1 ?side2 ?side3 ?side4 A9.out).mono ?_);(case side1=>repeat (first|exact (Kd.C_below HR0_0.out HB.out)|(with_reducible refine Kd.C_alloc ?_ _)|(with_reducible refine Kd.C_drewN ?_ _)|(with_reducible refine Kd.C_drew ?_)));(case side2=>exact HC0_0.out);(case side3=>repeat (first|exact (Kd.C_below HR0_5.out HB.out)|(with_reducible refine Kd.C_alloc ?_ _)|(with_reducible refine Kd.C_drewN ?_ _)|(with_reducible refine Kd.C_drew ?_)));(case side4=>exact HC0_5.out);rintro e w27 ⟨v363,v370,rfl,ho0,ho1,hb⟩;refine ⟨_,rfl,?_⟩;replace HO361:=Aside0.mk (Kd.R_below (by (with_reducible repeat (first|apply Kd.R_alloc|apply Kd.R_drewN|apply Kd.R_drew));exact HO361.out) hb);have HO364:=Aside0.mk (Kd.R_lower (Kd.R_new' ho0 (Kd.R_lt (by (with_reducible repeat (first|apply Kd.R_alloc|apply Kd.R_drewN|apply Kd.R_drew));exact HO350.out))) (below_size bl));replace HO350:=Aside0.mk (Kd.R_elder' (by (with_reducible repeat (first|apply Kd.R_alloc|apply Kd.R_drewN|apply Kd.R_drew));exact HO350.out) (Kd.R_base ho0) hb);have HO371:=Aside0.mk (Kd.R_lower (Kd.R_new' ho1 (Kd.R_lt (by (with_reducible repeat (first|apply Kd.R_alloc|apply Kd.R_drewN|apply Kd.R_drew));exact HO357.out))) (below_size bl));replace HO357:=Aside0.mk (Kd.R_elder' (by (with_reducible repeat (first|apply Kd.R_alloc|apply Kd.R_drewN|apply Kd.R_drew));exact HO357.out) (Kd.R_base ho1) hb);replace BK346:=Aside0.mk (blk_below (bk BK346) hb);replace HB:=Aside0.mk (below_step bl hb);(try clear hb);(try clear hb2);(try clear hk);(try clear hi);(try clear ho0);(try clear ho1))|((with_reducible refine gate_dst (N:=5) rfl ?_);refine box_event ?hg (N:=5) ?hd (cs:=#[.slice none 0 0,.int .i64 0,.int .i64 0,.int .i64 0,.int .i64 0,.slice none 0 0,.int .i64 0]) (t:=46) ?hr ?_;(case hd=>rfl);(case hg=>rfl);(case hr=>first|(go_simp;done)|(go_simp;rfl));intro gb373 hg w28 hbox hb;replace HO350:=Aside0.mk (Kd.R_below (by (with_reducible repeat (first|apply Kd.R_alloc|apply Kd.R_drewN|apply Kd.R_drew));exact HO350.out) hb);replace HO357:=Aside0.mk (Kd.R_below (by (with_reducible repeat (first|apply Kd.R_alloc|apply Kd.R_drewN|apply Kd.R_drew));exact HO357.out) hb);replace HO361:=Aside0.mk (Kd.R_below (by (with_reducible repeat (first|apply Kd.R_alloc|apply Kd.R_drewN|apply Kd.R_drew));exact HO361.out) hb);replace HO364:=Aside0.mk (Kd.R_below (by (with_reducible repeat (first|apply Kd.R_alloc|apply Kd.R_drewN|apply Kd.R_drew));exact HO364.out) hb);replace HO371:=Aside0.mk (Kd.R_below (by (with_reducible repeat (first|apply Kd.R_alloc|apply Kd.R_drewN|apply Kd.R_drew));exact HO371.out) hb);have BK373:=Aside0.mk (hbox);have GW373:=Aside0.mk ((by rw [hg];exact (below_size bl):w.heap.size≤gb373));have GE373:=GW373;replace HB:=Aside0.mk (below_step bl hb);have NB346_373:=Aside0.mk ((by rw [hg];exact Nat.ne_of_lt (blk_lt (bk BK346)):gb346≠gb373));have NB373_346:=Aside0.mk ((by rw [hg];exact Nat.ne_of_gt (blk_lt (bk BK346)):gb373≠gb346));replace BK346:=Aside0.mk (blk_below (bk BK346) hb);clear hb hbox hg;obtain ⟨Ao29,co29,eo29⟩:=Kd.R_slice HO364.out;subst eo29;have hnb30:=NB373_346.out;have hnc30:=NB346_373.out;obtain ⟨hcz31_0,hcz31_1,hcz31_2,hcz31_3,hcz31_4,hcz31_5,hcz31_6,hfz31_0,hfz31_1,hfz31_2,hfz31_3,hfz31_4,hfz31_5,hfz31_6⟩:=ck7 BK373.out;obtain ⟨Ao32,co32,eo32⟩:=Kd.R_slice HO371.out;subst eo32)|((with_reducible refine gate_callee (f:=27) rfl ?_);refine goesL_ (some 22) rfl rfl Try.func27 (by kernel_rfl) rfl #[.agg #[.slice Ao29 t362.length co29,.int .i64 t365,.int .i64 t366,.int .i64 t367,.int .i64 t368,.slice Ao32 t369.length co32,.int .i64 t372]] rfl (by (try simp only [List.map_toArray,List.map_cons,List.map_nil]);first|done|rfl|(simp only [List.length_drop,List.length_take];rfl)) ?_;(with_reducible refine (impl_LineList.calls k _ _ t362 t365 t366 t367 t368 _ _ t369 t372 t374 _ ?side1 ?side2 ?side3 ?side4 A10.out).mono ?_);(case side1=>refine (Kd.R_reads' (e:=97) (base:=w.heap.size) (ok:=fun k_=>(True∧some k_≠(.slice Ao23 t348.length co23:Value).ownBlock)) (n:=t362.length) (c:=co29) ?_).2.2;exact (by (with_reducible repeat (first|apply Kd.R_alloc|apply Kd.R_drewN|apply Kd.R_drew));exact (Kd.R_mono (Kd.R_far (p:=⟨gb373,6,none⟩) (Kd.R_far (p:=⟨gb373,5,none⟩) (Kd.R_far (p:=⟨gb373,4,none⟩) (Kd.R_far (p:=⟨gb373,3,none⟩) (Kd.R_far (p:=⟨gb373,2,none⟩) (Kd.R_far (p:=⟨gb373,1,none⟩) (Kd.R_far (p:=⟨gb373,0,none⟩) (Kd.R_types HO364.out BK373.out (by decide)) (fun _ hk=>hk.2) (.slice Ao29 t362.length co29)) (fun _ hk=>hk.2) (.int .i64 t365)) (fun _ hk=>hk.2) (.int .i64 t366)) (fun _ hk=>hk.2) (.int .i64 t367)) (fun _ hk=>hk.2) (.int .i64 t368)) (fun _ hk=>hk.2) (.slice Ao32 t369.length co32)) (fun _ hk=>hk.2) (.int .i64 t372)) (fun _ h_=>h_.1))));(case side2=>exact (Kd.R_reads' HO364.out).2.1);(case side3=>refine (Kd.R_reads' (e:=86) (base:=w.heap.size) (ok:=fun k_=>(True∧some k_≠(.slice Ao24 t355.length co24:Value).ownBlock)) (n:=t369.length) (c:=co32) ?_).2.2;exact (by (with_reducible repeat (first|apply Kd.R_alloc|apply Kd.R_drewN|apply Kd.R_drew));exact (Kd.R_mono (Kd.R_far (p:=⟨gb373,6,none⟩) (Kd.R_far (p:=⟨gb373,5,none⟩) (Kd.R_far (p:=⟨gb373,4,none⟩) (Kd.R_far (p:=⟨gb373,3,none⟩) (Kd.R_far (p:=⟨gb373,2,none⟩) (Kd.R_far (p:=⟨gb373,1,none⟩) (Kd.R_far (p:=⟨gb373,0,none⟩) (Kd.R_types HO371.out BK373.out (by decide)) (fun _ hk=>hk.2) (.slice Ao29 t362.length co29)) (fun _ hk=>hk.2) (.int .i64 t365)) (fun _ hk=>hk.2) (.int .i64 t366)) (fun _ hk=>hk.2) (.int .i64 t367)) (fun _ hk=>hk.2) (.int .i64 t368)) (fun _ hk=>hk.2) (.slice Ao32 t369.length co32)) (fun _ hk=>hk.2) (.int .i64 t372)) (fun _ h_=>h_.1))));(case side4=>exact (Kd.R_reads' HO371.out).2.1);rintro e w33 ⟨v375,rfl,ho0,hb⟩;refine ⟨_,rfl,?_⟩;replace HO350:=Aside0.mk (Kd.R_below (by (with_reducible repeat (first|apply Kd.R_alloc|apply Kd.R_drewN|apply Kd.R_drew));exact (Kd.R_mono (Kd.R_far (p:=⟨gb373,6,none⟩) (Kd.R_far (p:=⟨gb373,5,none⟩) (Kd.R_far (p:=⟨gb373,4,none⟩) (Kd.R_far (p:=⟨gb373,3,none⟩) (Kd.R_far (p:=⟨gb373,2,none⟩) (Kd.R_far (p:=⟨gb373,1,none⟩) (Kd.R_far (p:=⟨gb373,0,none⟩) (Kd.R_types HO350.out BK373.out (by decide)) (fun _ hk=>hk.2) (.slice Ao29 t362.length co29)) (fun _ hk=>hk.2) (.int .i64 t365)) (fun _ hk=>hk.2) (.int .i64 t366)) (fun _ hk=>hk.2) (.int .i64 t367)) (fun _ hk=>hk.2) (.int .i64 t368)) (fun _ hk=>hk.2) (.slice Ao32 t369.length co32)) (fun _ hk=>hk.2) (.int .i64 t372)) (fun _ h_=>h_.1))) hb);replace HO357:=Aside0.mk (Kd.R_below (by (with_reducible repeat (first|apply Kd.R_alloc|apply Kd.R_drewN|apply Kd.R_drew));exact (Kd.R_mono (Kd.R_far (p:=⟨gb373,6,none⟩) (Kd.R_far (p:=⟨gb373,5,none⟩) (Kd.R_far (p:=⟨gb373,4,none⟩) (Kd.R_far (p:=⟨gb373,3,none⟩) (Kd.R_far (p:=⟨gb373,2,none⟩) (Kd.R_far (p:=⟨gb373,1,none⟩) (Kd.R_far (p:=⟨gb373,0,none⟩) (Kd.R_types HO357.out BK373.out (by decide)) (fun _ hk=>hk.2) (.slice Ao29 t362.length co29)) (fun _ hk=>hk.2) (.int .i64 t365)) (fun _ hk=>hk.2) (.int .i64 t366)) (fun _ hk=>hk.2) (.int .i64 t367)) (fun _ hk=>hk.2) (.int .i64 t368)) (fun _ hk=>hk.2) (.slice Ao32 t369.length co32)) (fun _ hk=>hk.2) (.int .i64 t372)) (fun _ h_=>h_.1))) hb);replace HO364:=Aside0.mk (Kd.R_below (by (with_reducible repeat (first|apply Kd.R_alloc|apply Kd.R_drewN|apply Kd.R_drew));exact (Kd.R_mono (Kd.R_far (p:=⟨gb373,6,none⟩) (Kd.R_far (p:=⟨gb373,5,none⟩) (Kd.R_far (p:=⟨gb373,4,none⟩) (Kd.R_far (p:=⟨gb373,3,none⟩) (Kd.R_far (p:=⟨gb373,2,none⟩) (Kd.R_far (p:=⟨gb373,1,none⟩) (Kd.R_far (p:=⟨gb373,0,none⟩) (Kd.R_types HO364.out BK373.out (by decide)) (fun _ hk=>hk.2) (.slice Ao29 t362.length co29)) (fun _ hk=>hk.2) (.int .i64 t365)) (fun _ hk=>hk.2) (.int .i64 t366)) (fun _ hk=>hk.2) (.int .i64 t367)) (fun _ hk=>hk.2) (.int .i64 t368)) (fun _ hk=>hk.2) (.slice Ao32 t369.length co32)) (fun _ hk=>hk.2) (.int .i64 t372)) (fun _ h_=>h_.1))) hb);replace HO371:=Aside0.mk (Kd.R_below (by (with_reducible repeat (first|apply Kd.R_alloc|apply Kd.R_drewN|apply Kd.R_drew));exact (Kd.R_mono (Kd.R_far (p:=⟨gb373,6,none⟩) (Kd.R_far (p:=⟨gb373,5,none⟩) (Kd.R_far (p:=⟨gb373,4,none⟩) (Kd.R_far (p:=⟨gb373,3,none⟩) (Kd.R_far (p:=⟨gb373,2,none⟩) (Kd.R_far (p:=⟨gb373,1,none⟩) (Kd.R_far (p:=⟨gb373,0,none⟩) (Kd.R_types HO371.out BK373.out (by decide)) (fun _ hk=>hk.2) (.slice Ao29 t362.length co29)) (fun _ hk=>hk.2) (.int .i64 t365)) (fun _ hk=>hk.2) (.int .i64 t366)) (fun _ hk=>hk.2) (.int .i64 t367)) (fun _ hk=>hk.2) (.int .i64 t368)) (fun _ hk=>hk.2) (.slice Ao32 t369.length co32)) (fun _ hk=>hk.2) (.int .i64 t372)) (fun _ h_=>h_.1))) hb);have HO376:=Aside0.mk (Kd.R_lower (Kd.R_new' ho0 (Kd.R_lt (by (with_reducible repeat (first|apply Kd.R_alloc|apply Kd.R_drewN|apply Kd.R_drew));exact (Kd.R_mono (Kd.R_far (p:=⟨gb373,6,none⟩) (Kd.R_far (p:=⟨gb373,5,none⟩) (Kd.R_far (p:=⟨gb373,4,none⟩) (Kd.R_far (p:=⟨gb373,3,none⟩) (Kd.R_far (p:=⟨gb373,2,none⟩) (Kd.R_far (p:=⟨gb373,1,none⟩) (Kd.R_far (p:=⟨gb373,0,none⟩) (Kd.R_types HO361.out BK373.out (by decide)) (fun _ hk=>hk.2) (.slice Ao29 t362.length co29)) (fun _ hk=>hk.2) (.int .i64 t365)) (fun _ hk=>hk.2) (.int .i64 t366)) (fun _ hk=>hk.2) (.int .i64 t367)) (fun _ hk=>hk.2) (.int .i64 t368)) (fun _ hk=>hk.2) (.slice Ao32 t369.length co32)) (fun _ hk=>hk.2) (.int .i64 t372)) (fun _ h_=>h_.1))))) (below_size bl));replace HO361:=Aside0.mk (Kd.R_elder' (by (with_reducible repeat (first|apply Kd.R_alloc|apply Kd.R_drewN|apply Kd.R_drew));exact (Kd.R_mono (Kd.R_far (p:=⟨gb373,6,none⟩) (Kd.R_far (p:=⟨gb373,5,none⟩) (Kd.R_far (p:=⟨gb373,4,none⟩) (Kd.R_far (p:=⟨gb373,3,none⟩) (Kd.R_far (p:=⟨gb373,2,none⟩) (Kd.R_far (p:=⟨gb373,1,none⟩) (Kd.R_far (p:=⟨gb373,0,none⟩) (Kd.R_types HO361.out BK373.out (by decide)) (fun _ hk=>hk.2) (.slice Ao29 t362.length co29)) (fun _ hk=>hk.2) (.int .i64 t365)) (fun _ hk=>hk.2) (.int .i64 t366)) (fun _ hk=>hk.2) (.int .i64 t367)) (fun _ hk=>hk.2) (.int .i64 t368)) (fun _ hk=>hk.2) (.slice Ao32 t369.length co32)) (fun _ hk=>hk.2) (.int .i64 t372)) (fun _ h_=>h_.1))) (Kd.R_base ho0) hb);replace BK346:=Aside0.mk (blk_below (g:=gb346) (o:=.cells #[.slice A0_0 l0_0.length c0_0,.int .i64 a0_1,.int .i64 a0_2,.int .i64 a0_3,.int .i64 a0_4,.slice A0_5 l0_5.length c0_5,.int .i64 a0_6] 39 (0,0)) (by (with_reducible repeat (first|refine blk_drewN ?_ _|refine blk_drew ?_|refine blk_alloc ?_ _));refine blk_far ?_ NB346_373.out _;(with_reducible repeat (first|refine blk_drewN ?_ _|refine blk_drew ?_|refine blk_alloc ?_ _));refine blk_far ?_ NB346_373.out _;(with_reducible repeat (first|refine blk_drewN ?_ _|refine blk_drew ?_|refine blk_alloc ?_ _));refine blk_far ?_ NB346_373.out _;(with_reducible repeat (first|refine blk_drewN ?_ _|refine blk_drew ?_|refine blk_alloc ?_ _));refine blk_far ?_ NB346_373.out _;(with_reducible repeat (first|refine blk_drewN ?_ _|refine blk_drew ?_|refine blk_alloc ?_ _));refine blk_far ?_ NB346_373.out _;(with_reducible repeat (first|refine blk_drewN ?_ _|refine blk_drew ?_|refine blk_alloc ?_ _));refine blk_far ?_ NB346_373.out _;(with_reducible repeat (first|refine blk_drewN ?_ _|refine blk_drew ?_|refine blk_alloc ?_ _));refine blk_far ?_ NB346_373.out _;(with_reducible repeat (first|refine blk_drewN ?_ _|refine blk_drew ?_|refine blk_alloc ?_ _));exact BK346.out) hb);replace BK373:=Aside0.mk (blk_below (g:=gb373) (o:=.cells #[.slice Ao29 t362.length co29,.int .i64 t365,.int .i64 t366,.int .i64 t367,.int .i64 t368,.slice Ao32 t369.length co32,.int .i64 t372] 46 (0,0)) (by (with_reducible repeat (first|refine blk_drewN ?_ _|refine blk_drew ?_|refine blk_alloc ?_ _));refine blk_put (cs:=#[.slice Ao29 t362.length co29,.int .i64 t365,.int .i64 t366,.int .i64 t367,.int .i64 t368,.slice Ao32 t369.length co32,.int .i64 0]) ?_ 6 _ rfl;(with_reducible repeat (first|refine blk_drewN ?_ _|refine blk_drew ?_|refine blk_alloc ?_ _));refine blk_put (cs:=#[.slice Ao29 t362.length co29,.int .i64 t365,.int .i64 t366,.int .i64 t367,.int .i64 t368,.slice none 0 0,.int .i64 0]) ?_ 5 _ rfl;(with_reducible repeat (first|refine blk_drewN ?_ _|refine blk_drew ?_|refine blk_alloc ?_ _));refine blk_put (cs:=#[.slice Ao29 t362.length co29,.int .i64 t365,.int .i64 t366,.int .i64 t367,.int .i64 0,.slice none 0 0,.int .i64 0]) ?_ 4 _ rfl;(with_reducible repeat (first|refine blk_drewN ?_ _|refine blk_drew ?_|refine blk_alloc ?_ _));refine blk_put (cs:=#[.slice Ao29 t362.length co29,.int .i64 t365,.int .i64 t366,.int .i64 0,.int .i64 0,.slice none 0 0,.int .i64 0]) ?_ 3 _ rfl;(with_reducible repeat (first|refine blk_drewN ?_ _|refine blk_drew ?_|refine blk_alloc ?_ _));refine blk_put (cs:=#[.slice Ao29 t362.length co29,.int .i64 t365,.int .i64 0,.int .i64 0,.int .i64 0,.slice none 0 0,.int .i64 0]) ?_ 2 _ rfl;(with_reducible repeat (first|refine blk_drewN ?_ _|refine blk_drew ?_|refine blk_alloc ?_ _));refine blk_put (cs:=#[.slice Ao29 t362.length co29,.int .i64 0,.int .i64 0,.int .i64 0,.int .i64 0,.slice none 0 0,.int .i64 0]) ?_ 1 _ rfl;(with_reducible repeat (first|refine blk_drewN ?_ _|refine blk_drew ?_|refine blk_alloc ?_ _));refine blk_put (cs:=#[.slice none 0 0,.int .i64 0,.int .i64 0,.int .i64 0,.int .i64 0,.slice none 0 0,.int .i64 0]) ?_ 0 _ rfl;(with_reducible repeat (first|refine blk_drewN ?_ _|refine blk_drew ?_|refine blk_alloc ?_ _));exact BK373.out) hb);replace HB:=Aside0.mk (below_step bl hb);(try clear hb);(try clear hb2);(try clear hk);(try clear hi);(try clear ho0);obtain ⟨Ao34,co34,eo34⟩:=Kd.R_slice HO376.out;subst eo34;obtain ⟨Ao35,co35,eo35⟩:=Kd.R_slice HO361.out;subst eo35)|((with_reducible refine gate_callee (f:=28) rfl ?_);refine goesL_ (some 25) rfl rfl Try.func28 (by kernel_rfl) rfl #[.slice Ao34 t374.length co34,.slice Ao35 t359.length co35] rfl (by (try simp only [List.map_toArray,List.map_cons,List.map_nil]);first|done|rfl|(simp only [List.length_drop,List.length_take];rfl)) ?_;(with_reducible refine (laws_eqIntS.calls k _ _ t374 _ _ t359 true _ ?side1 ?side2 ?side3 ?side4 A11.out).mono ?_);(case side1=>repeat (first|exact (Kd.R_reads' HO376.out).2.2|(with_reducible refine Kd.C_alloc ?_ _)|(with_reducible refine Kd.C_drewN ?_ _)|(with_reducible refine Kd.C_drew ?_)));(case side2=>exact (Kd.R_reads' HO376.out).2.1);(case side3=>repeat (first|exact (Kd.R_reads' HO361.out).2.2|(with_reducible refine Kd.C_alloc ?_ _)|(with_reducible refine Kd.C_drewN ?_ _)|(with_reducible refine Kd.C_drew ?_)));(case side4=>exact (Kd.R_reads' HO361.out).2.1);rintro e w' ⟨rfl,⟨nd,rfl⟩⟩;refine ⟨_,rfl,?_⟩))
    (try (rw [drewN_self w33];generalize hq_:World.drewN w33 _=w33;have n0_:Aside0 (Kd.R k97 97 w33 w.heap.size (fun k_=>some k_≠(.slice Ao29 t362.length co29:Value).ownBlock) (.slice Ao23 t348.length co23) t348):=⟨by rw [← hq_];exact (by (with_reducible repeat (first|apply Kd.R_alloc|apply Kd.R_drewN|apply Kd.R_drew));exact Kd.R_mono HO350.out (fun _ hk=>hk.2))⟩;have n1_:Aside0 (Kd.R k86 86 w33 w.heap.size (fun k_=>some k_≠(.slice Ao32 t369.length co32:Value).ownBlock) (.slice Ao24 t355.length co24) t355):=⟨by rw [← hq_];exact (by (with_reducible repeat (first|apply Kd.R_alloc|apply Kd.R_drewN|apply Kd.R_drew));exact Kd.R_mono HO357.out (fun _ hk=>hk.2))⟩;have n2_:Aside0 (Kd.R (Kd.int .i64) 3 w33 w.heap.size (fun k_=>some k_≠(.slice Ao34 t374.length co34:Value).ownBlock) (.slice Ao35 t359.length co35) t359):=⟨by rw [← hq_];exact (by (with_reducible repeat (first|apply Kd.R_alloc|apply Kd.R_drewN|apply Kd.R_drew));exact Kd.R_mono HO361.out (fun _ hk=>hk.2))⟩;have n3_:Aside0 (Kd.R k97 97 w33 w.heap.size (fun k_=>some k_≠(.slice Ao23 t348.length co23:Value).ownBlock) (.slice Ao29 t362.length co29) t362):=⟨by rw [← hq_];exact (by (with_reducible repeat (first|apply Kd.R_alloc|apply Kd.R_drewN|apply Kd.R_drew));exact Kd.R_mono HO364.out (fun _ hk=>hk.2))⟩;have n4_:Aside0 (Kd.R k86 86 w33 w.heap.size (fun k_=>some k_≠(.slice Ao24 t355.length co24:Value).ownBlock) (.slice Ao32 t369.length co32) t369):=⟨by rw [← hq_];exact (by (with_reducible repeat (first|apply Kd.R_alloc|apply Kd.R_drewN|apply Kd.R_drew));exact Kd.R_mono HO371.out (fun _ hk=>hk.2))⟩;have n5_:Aside0 (Kd.R (Kd.int .i64) 3 w33 w.heap.size (fun k_=>some k_≠(.slice Ao35 t359.length co35:Value).ownBlock) (.slice Ao34 t374.length co34) t374):=⟨by rw [← hq_];exact (by (with_reducible repeat (first|apply Kd.R_alloc|apply Kd.R_drewN|apply Kd.R_drew));exact Kd.R_mono HO376.out (fun _ hk=>hk.2))⟩;have n6_:Aside0 (w33.heap[gb346]? = some (.cells #[.slice A0_0 l0_0.length c0_0,.int .i64 a0_1,.int .i64 a0_2,.int .i64 a0_3,.int .i64 a0_4,.slice A0_5 l0_5.length c0_5,.int .i64 a0_6] 39 (0,0))):=⟨by rw [← hq_];exact (bk BK346)⟩;have n7_:Aside0 (w33.heap[gb373]? = some (.cells #[.slice Ao29 t362.length co29,.int .i64 t365,.int .i64 t366,.int .i64 t367,.int .i64 t368,.slice Ao32 t369.length co32,.int .i64 t372] 46 (0,0))):=⟨by rw [← hq_];exact (bk BK373)⟩;have n8_:Aside0 (Below w.heap.size w w33):=⟨by rw [← hq_];exact bl⟩;clear HO350 HO357 HO361 HO364 HO371 HO376 BK346 BK373 HB hq_;have HO350:=n0_;have HO357:=n1_;have HO361:=n2_;have HO364:=n3_;have HO371:=n4_;have HO376:=n5_;have BK346:=n6_;have BK373:=n7_;have HB:=n8_;clear n0_ n1_ n2_ n3_ n4_ n5_ n6_ n7_ n8_))
    replace HO350:=Aside0.mk (Kd.R_drew HO350.out)
    replace HO357:=Aside0.mk (Kd.R_drew HO357.out)
    replace HO361:=Aside0.mk (Kd.R_drew HO361.out)
    replace HO364:=Aside0.mk (Kd.R_drew HO364.out)
    replace HO371:=Aside0.mk (Kd.R_drew HO371.out)
    replace HO376:=Aside0.mk (Kd.R_drew HO376.out)
    replace BK346:=Aside0.mk (blk_drew BK346.out)
    replace BK373:=Aside0.mk (blk_drew BK373.out)
    replace HB:=Aside0.mk (below_drew1 HB.out)
    refine start_ (n:=5) (S:=fun w'=>w'.cell? ⟨gb373,0,none⟩=some (.slice Ao29 t362.length co29)∧w'.cell? ⟨gb373,1,none⟩=some (.int .i64 t365)∧w'.cell? ⟨gb373,2,none⟩=some (.int .i64 t366)∧w'.cell? ⟨gb373,3,none⟩=some (.int .i64 t367)∧w'.cell? ⟨gb373,4,none⟩=some (.int .i64 t368)∧w'.cell? ⟨gb373,5,none⟩=some (.slice Ao32 t369.length co32)∧w'.cell? ⟨gb373,6,none⟩=some (.int .i64 t372)∧w'.cell? ⟨gb346,0,none⟩=some (.slice A0_0 l0_0.length c0_0)∧w'.cell? ⟨gb346,1,none⟩=some (.int .i64 a0_1)∧w'.cell? ⟨gb346,2,none⟩=some (.int .i64 a0_2)∧w'.cell? ⟨gb346,3,none⟩=some (.int .i64 a0_3)∧w'.cell? ⟨gb346,4,none⟩=some (.int .i64 a0_4)∧w'.cell? ⟨gb346,5,none⟩=some (.slice A0_5 l0_5.length c0_5)∧w'.cell? ⟨gb346,6,none⟩=some (.int .i64 a0_6)) (ds:=[]) (bs 5 0) (by kernel_rfl) rfl rfl ⟨bc BK373 0,bc BK373 1,bc BK373 2,bc BK373 3,bc BK373 4,bc BK373 5,bc BK373 6,bc BK346 0,bc BK346 1,bc BK346 2,bc BK346 3,bc BK346 4,bc BK346 5,bc BK346 6⟩ (fun hHeld=>?_)
    generalize w33.drew=w36 at HO350 HO357 HO361 HO364 HO371 HO376 BK346 BK373 HB hHeld ⊢
    refine tk 0 27 (bs 5 1) hHeld ?_
    refine tk 1 28 (bs 5 3) hHeld ?_
    refine one_ (i:=2) (N:=some 29) (bs 5 7) rfl rfl (by kernel_rfl) (by decide) (fun K hK=>?_)
    refine goes_ Try.func21 (by kernel_rfl) rfl #[.agg #[.slice A0_0 l0_0.length c0_0,.int .i64 a0_1,.int .i64 a0_2,.int .i64 a0_3,.int .i64 a0_4,.slice A0_5 l0_5.length c0_5,.int .i64 a0_6]] (by rfl) rfl rfl (by (try simp only [List.map_toArray,List.map_cons,List.map_nil]);first|done|rfl|(simp only [List.length_drop,List.length_take];rfl)) ?_
    with_reducible refine (laws_toLine.calls k _ _ l0_0 a0_1 a0_2 a0_3 a0_4 _ _ l0_5 a0_6 t378 t381 t382 t383 t384 t385 t388 _ ?side1 ?side2 ?side3 ?side4 A13.out).mono ?_
    (case side1=>repeat (first|exact (Kd.C_below HR0_0.out HB.out)|(with_reducible refine Kd.C_alloc ?_ _)|(with_reducible refine Kd.C_drewN ?_ _)|(with_reducible refine Kd.C_drew ?_)))
    (case side2=>exact HC0_0.out)
    (case side3=>repeat (first|exact (Kd.C_below HR0_5.out HB.out)|(with_reducible refine Kd.C_alloc ?_ _)|(with_reducible refine Kd.C_drewN ?_ _)|(with_reducible refine Kd.C_drew ?_)))
    (case side4=>exact HC0_5.out)
    rintro e w37 ⟨v379,v386,rfl,ho0,ho1,hb⟩
    refine ⟨_,rfl,?_⟩
    replace HO361:=Aside0.mk (Kd.R_below (by (with_reducible repeat (first|apply Kd.R_alloc|apply Kd.R_drewN|apply Kd.R_drew));exact HO361.out) hb)
    replace HO376:=Aside0.mk (Kd.R_below (by (with_reducible repeat (first|apply Kd.R_alloc|apply Kd.R_drewN|apply Kd.R_drew));exact HO376.out) hb)
    have HO380:=Aside0.mk (Kd.R_lower (Kd.R_new' (Kd.R_new' ho0 (Kd.R_lt (by (with_reducible repeat (first|apply Kd.R_alloc|apply Kd.R_drewN|apply Kd.R_drew));exact HO350.out))) (Kd.R_lt (by (with_reducible repeat (first|apply Kd.R_alloc|apply Kd.R_drewN|apply Kd.R_drew));exact HO364.out))) (below_size bl))
    replace HO350:=Aside0.mk (Kd.R_elder' (by (with_reducible repeat (first|apply Kd.R_alloc|apply Kd.R_drewN|apply Kd.R_drew));exact HO350.out) (Kd.R_base ho0) hb)
    replace HO364:=Aside0.mk (Kd.R_elder' (by (with_reducible repeat (first|apply Kd.R_alloc|apply Kd.R_drewN|apply Kd.R_drew));exact HO364.out) (Kd.R_base ho0) hb)
    have HO387:=Aside0.mk (Kd.R_lower (Kd.R_new' (Kd.R_new' ho1 (Kd.R_lt (by (with_reducible repeat (first|apply Kd.R_alloc|apply Kd.R_drewN|apply Kd.R_drew));exact HO357.out))) (Kd.R_lt (by (with_reducible repeat (first|apply Kd.R_alloc|apply Kd.R_drewN|apply Kd.R_drew));exact HO371.out))) (below_size bl))
    replace HO357:=Aside0.mk (Kd.R_elder' (by (with_reducible repeat (first|apply Kd.R_alloc|apply Kd.R_drewN|apply Kd.R_drew));exact HO357.out) (Kd.R_base ho1) hb)
    replace HO371:=Aside0.mk (Kd.R_elder' (by (with_reducible repeat (first|apply Kd.R_alloc|apply Kd.R_drewN|apply Kd.R_drew));exact HO371.out) (Kd.R_base ho1) hb)
    replace BK346:=Aside0.mk (blk_below (bk BK346) hb)
    replace BK373:=Aside0.mk (blk_below (bk BK373) hb)
    replace HB:=Aside0.mk (below_step bl hb)
    (try clear hb)
    (try clear hb2)
    (try clear hk)
    (try clear hi)
    (try clear ho0)
    (try clear ho1)
    obtain ⟨Ao38,co38,eo38⟩:=Kd.R_slice HO380.out
    (first|subst eo38|(injection eo38 with f1_ f2_ f3_;have f4_:=f1_.symm;have f5_:=f3_.symm;clear f1_ f2_ f3_;subst f4_;subst f5_))
    obtain ⟨Ao39,co39,eo39⟩:=Kd.R_slice HO387.out
    (first|subst eo39|(injection eo39 with f1_ f2_ f3_;have f4_:=f1_.symm;have f5_:=f3_.symm;clear f1_ f2_ f3_;subst f4_;subst f5_))
    refine hK.out _ _ ⟨bc BK373 0,bc BK373 1,bc BK373 2,bc BK373 3,bc BK373 4,bc BK373 5,bc BK373 6,bc BK346 0,bc BK346 1,bc BK346 2,bc BK346 3,bc BK346 4,bc BK346 5,bc BK346 6⟩ (fun hHeld=>?_)
    clear hK K
    refine nrm ?_
    refine one_ (i:=3) (N:=some 30) (bs 5 15) rfl rfl (by kernel_rfl) (by decide) (fun K hK=>?_)
    refine goes_ Try.func23 (by kernel_rfl) rfl #[.agg #[.slice Ao29 t362.length co29,.int .i64 t365,.int .i64 t366,.int .i64 t367,.int .i64 t368,.slice Ao32 t369.length co32,.int .i64 t372],.agg #[.slice Ao38 t378.length co38,.int .i64 t381,.int .i64 t382,.int .i64 t383,.int .i64 t384,.slice Ao39 t385.length co39,.int .i64 t388]] (by rfl) rfl rfl (by (try simp only [List.map_toArray,List.map_cons,List.map_nil]);first|done|rfl|(simp only [List.length_drop,List.length_take];rfl)) ?_
    with_reducible refine (laws_eqLine.calls k _ _ t362 t365 t366 t367 t368 _ _ t369 t372 _ _ t378 t381 t382 t383 t384 _ _ t385 t388 true _ ?side1 ?side2 ?side3 ?side4 ?side5 ?side6 ?side7 ?side8 A14.out).mono ?_
    (case side1=>repeat (first|exact (Kd.R_reads' HO364.out).2.2|(with_reducible refine Kd.C_alloc ?_ _)|(with_reducible refine Kd.C_drewN ?_ _)|(with_reducible refine Kd.C_drew ?_)))
    (case side2=>exact (Kd.R_reads' HO364.out).2.1)
    (case side3=>repeat (first|exact (Kd.R_reads' HO371.out).2.2|(with_reducible refine Kd.C_alloc ?_ _)|(with_reducible refine Kd.C_drewN ?_ _)|(with_reducible refine Kd.C_drew ?_)))
    (case side4=>exact (Kd.R_reads' HO371.out).2.1)
    (case side5=>repeat (first|exact (Kd.R_reads' HO380.out).2.2|(with_reducible refine Kd.C_alloc ?_ _)|(with_reducible refine Kd.C_drewN ?_ _)|(with_reducible refine Kd.C_drew ?_)))
    (case side6=>exact (Kd.R_reads' HO380.out).2.1)
    (case side7=>repeat (first|exact (Kd.R_reads' HO387.out).2.2|(with_reducible refine Kd.C_alloc ?_ _)|(with_reducible refine Kd.C_drewN ?_ _)|(with_reducible refine Kd.C_drew ?_)))
    (case side8=>exact (Kd.R_reads' HO387.out).2.1)
    rintro e w40 ⟨rfl,hb⟩
    refine ⟨_,rfl,?_⟩
    replace HO350:=Aside0.mk (Kd.R_below (by (with_reducible repeat (first|apply Kd.R_alloc|apply Kd.R_drewN|apply Kd.R_drew));exact HO350.out) hb)
    replace HO357:=Aside0.mk (Kd.R_below (by (with_reducible repeat (first|apply Kd.R_alloc|apply Kd.R_drewN|apply Kd.R_drew));exact HO357.out) hb)
    replace HO361:=Aside0.mk (Kd.R_below (by (with_reducible repeat (first|apply Kd.R_alloc|apply Kd.R_drewN|apply Kd.R_drew));exact HO361.out) hb)
    replace HO364:=Aside0.mk (Kd.R_below (by (with_reducible repeat (first|apply Kd.R_alloc|apply Kd.R_drewN|apply Kd.R_drew));exact HO364.out) hb)
    replace HO371:=Aside0.mk (Kd.R_below (by (with_reducible repeat (first|apply Kd.R_alloc|apply Kd.R_drewN|apply Kd.R_drew));exact HO371.out) hb)
    replace HO376:=Aside0.mk (Kd.R_below (by (with_reducible repeat (first|apply Kd.R_alloc|apply Kd.R_drewN|apply Kd.R_drew));exact HO376.out) hb)
    replace HO380:=Aside0.mk (Kd.R_below (by (with_reducible repeat (first|apply Kd.R_alloc|apply Kd.R_drewN|apply Kd.R_drew));exact HO380.out) hb)
    replace HO387:=Aside0.mk (Kd.R_below (by (with_reducible repeat (first|apply Kd.R_alloc|apply Kd.R_drewN|apply Kd.R_drew));exact HO387.out) hb)
    replace BK346:=Aside0.mk (blk_below (bk BK346) hb)
    replace BK373:=Aside0.mk (blk_below (bk BK373) hb)
    replace HB:=Aside0.mk (below_step bl hb)
    (try clear hb)
    (try clear hb2)
    (try clear hk)
    (try clear hi)
    refine hK.out _ _ ⟨bc BK373 0,bc BK373 1,bc BK373 2,bc BK373 3,bc BK373 4,bc BK373 5,bc BK373 6,bc BK346 0,bc BK346 1,bc BK346 2,bc BK346 3,bc BK346 4,bc BK346 5,bc BK346 6⟩ (fun hHeld=>?_)
    clear hK K
    refine nrm ?_
    refine pk 4 31 (bs 5 31) ?_
    refine done_ (by kernel_rfl) ?_
    obtain ⟨hcz41_0,hcz41_1,hcz41_2,hcz41_3,hcz41_4,hcz41_5,hcz41_6,hfz41_0,hfz41_1,hfz41_2,hfz41_3,hfz41_4,hfz41_5,hfz41_6⟩:=ck7 BK373.out
    go_upto_region 14 with (first|((with_reducible refine gate_callee (f:=29) rfl ?_);refine goesL_ (some 34) rfl rfl Try.func29 (by kernel_rfl) rfl #[.agg #[.slice Ao29 t362.length co29,.int .i64 t365,.int .i64 t366,.int .i64 t367,.int .i64 t368,.slice Ao32 t369.length co32,.int .i64 t372],.int .i64 1] rfl (by (try simp only [List.map_toArray,List.map_cons,List.map_nil]);first|done|rfl|(simp only [List.length_drop,List.length_take];rfl)) ?_;(with_reducible refine (laws_markLine.calls k (fun k_=>some k_=(.slice Ao29 t362.length co29:Value).ownBlock) (.slice Ao29 t362.length co29) t362 t365 t366 t367 t368 (fun k_=>some k_=(.slice Ao32 t369.length co32:Value).ownBlock) (.slice Ao32 t369.length co32) t369 t372 1 t390 t391 t392 w _ ?side1 ?side2 ?side3 A16.out).mono ?_);(case side1=>repeat (first|(with_reducible first|exact HB.out|apply below_alloc|apply pw_below_drewN|apply below_drew1|refine below_set ?_ GE346.out|refine below_set ?_ GE373.out)|exact HB.out));(case side2=>exact Kd.R_tight rfl HO364.out);(case side3=>exact Kd.R_tight rfl HO371.out);rintro e w42 ⟨rfl,hy0,hy1,hb,hkp⟩;refine ⟨_,rfl,?_⟩;have n0_:=Aside0.mk (blk_kept (bk BK346) hkp (fun hs_=>Or.elim hs_ (fun e_=>(fun e_=>(Kd.R_ne HO364.out BK346.out (by decide)) e_) e_) (fun e_=>(fun e_=>(Kd.R_ne HO371.out BK346.out (by decide)) e_) e_)));have n1_:=Aside0.mk (Kd.R_mono (ok':=fun k_=>some k_≠(.slice Ao29 t362.length co29:Value).ownBlock∧some k_≠(.slice Ao38 t378.length co38:Value).ownBlock) (Kd.R_keptB ((Kd.R_apart' HO350.out (Kd.R_typed HO371.out) (by decide))) hkp (fun k_ hk_ hs_=>by first|exact (Or.elim hs_ (fun e_=>(hk_.1.1.2) e_) (fun e_=>(hk_.2) e_))|(rcases hs_ with e_|e_ <;> simp_all)|simp_all)) (fun k_ hk_=>by first|exact (⟨hk_.1.1.1.2,hk_.1.1.2⟩)|simp_all));have n2_:=Aside0.mk (Kd.R_mono (ok':=fun k_=>some k_≠(.slice Ao32 t369.length co32:Value).ownBlock∧some k_≠(.slice Ao39 t385.length co39:Value).ownBlock) (Kd.R_keptB ((Kd.R_apart' HO357.out (Kd.R_typed HO364.out) (by decide))) hkp (fun k_ hk_ hs_=>by first|exact (Or.elim hs_ (fun e_=>(hk_.2) e_) (fun e_=>(hk_.1.1.2) e_))|(rcases hs_ with e_|e_ <;> simp_all)|simp_all)) (fun k_ hk_=>by first|exact (⟨hk_.1.1.1.2,hk_.1.1.2⟩)|simp_all));have n3_:=Aside0.mk (Kd.R_mono (ok':=fun k_=>some k_≠(.slice Ao34 t374.length co34:Value).ownBlock) (Kd.R_keptB ((Kd.R_apart' (Kd.R_apart' HO361.out (Kd.R_typed HO364.out) (by decide)) (Kd.R_typed HO371.out) (by decide))) hkp (fun k_ hk_ hs_=>by first|exact (Or.elim hs_ (fun e_=>(hk_.1.2) e_) (fun e_=>(hk_.2) e_))|(rcases hs_ with e_|e_ <;> simp_all)|simp_all)) (fun k_ hk_=>by first|exact (hk_.1.1.1.2)|simp_all));have n4_:=Aside0.mk (Kd.R_reok rfl hy0 (fun k_ e_=>HO364.out.1 k_ e_));have n5_:=Aside0.mk (Kd.R_reok rfl hy1 (fun k_ e_=>HO371.out.1 k_ e_));have n6_:=Aside0.mk (blk_kept (bk BK373) hkp (fun hs_=>Or.elim hs_ (fun e_=>(fun e_=>(Kd.R_ne HO364.out BK373.out (by decide)) e_) e_) (fun e_=>(fun e_=>(Kd.R_ne HO371.out BK373.out (by decide)) e_) e_)));have n7_:=Aside0.mk (Kd.R_mono (ok':=fun k_=>some k_≠(.slice Ao35 t359.length co35:Value).ownBlock) (Kd.R_keptB ((Kd.R_apart' (Kd.R_apart' HO376.out (Kd.R_typed HO364.out) (by decide)) (Kd.R_typed HO371.out) (by decide))) hkp (fun k_ hk_ hs_=>by first|exact (Or.elim hs_ (fun e_=>(hk_.1.2) e_) (fun e_=>(hk_.2) e_))|(rcases hs_ with e_|e_ <;> simp_all)|simp_all)) (fun k_ hk_=>by first|exact (hk_.1.1.1.2)|simp_all));have n8_:=Aside0.mk (Kd.R_mono (ok':=fun k_=>some k_≠(.slice Ao23 t348.length co23:Value).ownBlock∧some k_≠(.slice Ao29 t362.length co29:Value).ownBlock) (Kd.R_keptB ((Kd.R_apart' HO380.out (Kd.R_typed HO371.out) (by decide))) hkp (fun k_ hk_ hs_=>by first|exact (Or.elim hs_ (fun e_=>(hk_.1.2) e_) (fun e_=>(hk_.2) e_))|(rcases hs_ with e_|e_ <;> simp_all)|simp_all)) (fun k_ hk_=>by first|exact (⟨hk_.1.1.1.2,hk_.1.1.2⟩)|simp_all));have n9_:=Aside0.mk (Kd.R_mono (ok':=fun k_=>some k_≠(.slice Ao24 t355.length co24:Value).ownBlock∧some k_≠(.slice Ao32 t369.length co32:Value).ownBlock) (Kd.R_keptB ((Kd.R_apart' HO387.out (Kd.R_typed HO364.out) (by decide))) hkp (fun k_ hk_ hs_=>by first|exact (Or.elim hs_ (fun e_=>(hk_.2) e_) (fun e_=>(hk_.1.2) e_))|(rcases hs_ with e_|e_ <;> simp_all)|simp_all)) (fun k_ hk_=>by first|exact (⟨hk_.1.1.1.2,hk_.1.1.2⟩)|simp_all));have n10_:=Aside0.mk (hb);clear BK346;clear HO350;clear HO357;clear HO361;clear HO364;clear HO371;clear BK373;clear HO376;clear HO380;clear HO387;clear HB;have BK346:=n0_;have HO350:=n1_;have HO357:=n2_;have HO361:=n3_;have HO364:=n4_;have HO371:=n5_;have BK373:=n6_;have HO376:=n7_;have HO380:=n8_;have HO387:=n9_;have HB:=n10_;clear n0_ n1_ n2_ n3_ n4_ n5_ n6_ n7_ n8_ n9_ n10_;(try clear hb);(try clear hkp);(try clear hy0);(try clear hy1)))
    (try simp only [Act.put,List.setIfInBounds_toArray,List.set_cons_zero,List.set_cons_succ])
    go_cut [42] (fun v42 wc=>∃ (kq:Nat) (x42_16:Bool),v42 = .bool x42_16∧Aside0 (laws_FnExactLineList.j0 kq t359 t374 x42_16 l0_0 a0_1 a0_2 a0_3 a0_4 l0_5 a0_6=some r)∧Aside0 (kq≤k)∧Aside0 (Kd.R (Kd.int .i64) 3 wc w.heap.size (fun k_=>some k_≠((.slice Ao34 t374.length co34):Value).ownBlock) (.slice Ao35 t359.length co35) t359)∧Aside0 (Kd.R (Kd.int .i64) 3 wc w.heap.size (fun k_=>some k_≠((.slice Ao35 t359.length co35):Value).ownBlock) (.slice Ao34 t374.length co34) t374)∧Aside0 (Kd.R k97 97 wc w.heap.size (fun _=>True) (.slice Ao29 t362.length co29) t391)∧Aside0 (Kd.R k86 86 wc w.heap.size (fun _=>True) (.slice Ao32 t369.length co32) t392)∧Aside0 (wc.heap[gb346]? = some (.cells #[(.slice A0_0 l0_0.length c0_0),.int .i64 a0_1,.int .i64 a0_2,.int .i64 a0_3,.int .i64 a0_4,(.slice A0_5 l0_5.length c0_5),.int .i64 a0_6] 39 (0,0)))∧Aside0 (wc.heap[gb373]? = some (.cells #[(.slice Ao29 t362.length co29),.int .i64 t365,.int .i64 t366,.int .i64 t367,.int .i64 t368,(.slice Ao32 t369.length co32),.int .i64 t372] 46 (0,0)))∧Aside0 (Below w.heap.size w wc))
    case first =>
     have H:=HC17.out
     clear HC17
     by_cases c43:t390 < 0
     ·rw [if_pos c43] at H
      have c43b0:decide (t390 < 0)=true:=decide_eq_true c43
      clear c43
      (first|rw [c43b0]|(simp only [i64_w,i32_w];rw [c43b0])|skip)
      have H':=Aside0.mk H
      clear H
      go_wp2
      go_meet
      case rel=>exact ⟨_,(true),(by first|rfl|(simp;done)|(simp [*];done)),H',⟨by first|omega|exact Nat.le_refl _⟩,⟨by (with_reducible repeat (first|apply Kd.R_alloc|apply Kd.R_drewN|apply Kd.R_drew));exact HO361.out⟩,⟨by (with_reducible repeat (first|apply Kd.R_alloc|apply Kd.R_drewN|apply Kd.R_drew));exact HO376.out⟩,⟨by (with_reducible repeat (first|apply Kd.R_alloc|apply Kd.R_drewN|apply Kd.R_drew));exact Kd.R_mono HO364.out (fun _ hk=>trivial)⟩,⟨by (with_reducible repeat (first|apply Kd.R_alloc|apply Kd.R_drewN|apply Kd.R_drew));exact Kd.R_mono HO371.out (fun _ hk=>trivial)⟩,⟨bk BK346⟩,⟨bk BK373⟩,⟨bl⟩⟩
     ·rw [if_neg c43] at H
      have c43b0:decide (t390 < 0)=false:=decide_eq_false c43
      clear c43
      (first|rw [c43b0]|(simp only [i64_w,i32_w];rw [c43b0])|skip)
      replace H:=Option.bind_eq_some_iff.mp H
      obtain ⟨t393,A440,H⟩:=H
      have A44:=Aside0.mk A440
      clear A440
      have H':=Aside0.mk H
      clear H
      go_wp2_with (first|(go_at_call 28;(with_reducible refine (laws_eqIntS.calls k _ _ t374 _ _ t359 t393 _ ?side1 ?side2 ?side3 ?side4 A44.out).mono ?_);(case side1=>repeat (first|exact (Kd.R_reads' HO376.out).2.2|(with_reducible refine Kd.C_alloc ?_ _)|(with_reducible refine Kd.C_drewN ?_ _)|(with_reducible refine Kd.C_drew ?_)));(case side2=>exact (Kd.R_reads' HO376.out).2.1);(case side3=>repeat (first|exact (Kd.R_reads' HO361.out).2.2|(with_reducible refine Kd.C_alloc ?_ _)|(with_reducible refine Kd.C_drewN ?_ _)|(with_reducible refine Kd.C_drew ?_)));(case side4=>exact (Kd.R_reads' HO361.out).2.1);rintro e w' ⟨rfl,⟨nd,rfl⟩⟩))
      go_meet
      case rel=>exact ⟨_,(!t393),(by first|rfl|(simp;done)|(simp [*];done)),H',⟨by first|omega|exact Nat.le_refl _⟩,⟨by (with_reducible repeat (first|apply Kd.R_alloc|apply Kd.R_drewN|apply Kd.R_drew));exact HO361.out⟩,⟨by (with_reducible repeat (first|apply Kd.R_alloc|apply Kd.R_drewN|apply Kd.R_drew));exact HO376.out⟩,⟨by (with_reducible repeat (first|apply Kd.R_alloc|apply Kd.R_drewN|apply Kd.R_drew));exact Kd.R_mono HO364.out (fun _ hk=>trivial)⟩,⟨by (with_reducible repeat (first|apply Kd.R_alloc|apply Kd.R_drewN|apply Kd.R_drew));exact Kd.R_mono HO371.out (fun _ hk=>trivial)⟩,⟨bk BK346⟩,⟨bk BK373⟩,⟨bl⟩⟩
    case rest =>
     clear HC17
     try clear c1
     try clear c2
     try clear p2
     try clear c3
     try clear c3b0
     try clear c4
     try clear c6
     try clear c12
     try clear c15
     try clear c19
     try clear c21
     try clear c23
     try clear c26
     try clear c27
     try clear c28
     try clear c29
     try clear c30
     try clear c43
     try clear c43b0
     try clear hcz19_0
     try clear hcz19_1
     try clear hcz19_2
     try clear hcz19_3
     try clear hcz19_4
     try clear hcz19_5
     try clear hcz19_6
     try clear hcz21_0
     try clear hcz21_1
     try clear hcz21_2
     try clear hcz21_3
     try clear hcz21_4
     try clear hcz21_5
     try clear hcz21_6
     try clear hcz26_0
     try clear hcz26_1
     try clear hcz26_2
     try clear hcz26_3
     try clear hcz26_4
     try clear hcz26_5
     try clear hcz26_6
     try clear hcz31_0
     try clear hcz31_1
     try clear hcz31_2
     try clear hcz31_3
     try clear hcz31_4
     try clear hcz31_5
     try clear hcz31_6
     try clear hcz41_0
     try clear hcz41_1
     try clear hcz41_2
     try clear hcz41_3
     try clear hcz41_4
     try clear hcz41_5
     try clear hcz41_6
     try clear hcz5_0
     try clear hcz5_1
     try clear hcz5_2
     try clear hcz5_3
     try clear hcz5_4
     try clear hcz5_5
     try clear hcz5_6
     try clear hfz19_0
     try clear hfz19_1
     try clear hfz19_2
     try clear hfz19_3
     try clear hfz19_4
     try clear hfz19_5
     try clear hfz19_6
     try clear hfz21_0
     try clear hfz21_1
     try clear hfz21_2
     try clear hfz21_3
     try clear hfz21_4
     try clear hfz21_5
     try clear hfz21_6
     try clear hfz26_0
     try clear hfz26_1
     try clear hfz26_2
     try clear hfz26_3
     try clear hfz26_4
     try clear hfz26_5
     try clear hfz26_6
     try clear hfz31_0
     try clear hfz31_1
     try clear hfz31_2
     try clear hfz31_3
     try clear hfz31_4
     try clear hfz31_5
     try clear hfz31_6
     try clear hfz41_0
     try clear hfz41_1
     try clear hfz41_2
     try clear hfz41_3
     try clear hfz41_4
     try clear hfz41_5
     try clear hfz41_6
     try clear hfz5_0
     try clear hfz5_1
     try clear hfz5_2
     try clear hfz5_3
     try clear hfz5_4
     try clear hfz5_5
     try clear hfz5_6
     obtain ⟨kq,x42_16,rfl,HA,HJ16,HO_4,HO_6,HO_374000,HO_374005,BK346,BK373,HB⟩:=hcut
     have hl374000_16:=(Kd.R_reads' HO_374000.out).1
     rw [hl374000_16] at HO_374000
     (try simp only [hl374000_16])
     (try simp only [hl374000_16] at BK346)
     (try simp only [hl374000_16] at BK373)
     (try simp only [hl374000_16] at HO_4)
     (try simp only [hl374000_16] at HO_6)
     (try simp only [hl374000_16] at HO_374005)
     have hl374005_16:=(Kd.R_reads' HO_374005.out).1
     rw [hl374005_16] at HO_374005
     (try simp only [hl374005_16])
     (try simp only [hl374005_16] at BK346)
     (try simp only [hl374005_16] at BK373)
     (try simp only [hl374005_16] at HO_4)
     (try simp only [hl374005_16] at HO_6)
     (try simp only [hl374005_16] at HO_374000)
     cases kq with
     | zero=>exact absurd HA.out (by simp [laws_FnExactLineList.j0])
     | succ kj16 =>
      have H:=HA.out
      clear HA
      simp only [laws_FnExactLineList.j0] at H
      by_cases c45:x42_16=true
      ·subst c45
       rw [if_pos rfl] at H
       exact absurd H (by simp)
      ·replace c45:=Bool.eq_false_iff.mpr c45
       subst c45
       rw [if_neg nft] at H
       replace H:=Option.bind_eq_some_iff.mp H
       obtain ⟨⟨t394,t395⟩,A460,H⟩:=H
       replace H:((laws_heldIntS.f kj16 t395 1).bind fun t396=>(if t396 < 0 then (none) else (if t396=t394 then ((laws_toLine.f kj16 l0_0 a0_1 a0_2 a0_3 a0_4 l0_5 a0_6).bind fun bt397=>((impl_LineList.f kj16 bt397.1 bt397.2.1 bt397.2.2.1 bt397.2.2.2.1 bt397.2.2.2.2.1 bt397.2.2.2.2.2.1 bt397.2.2.2.2.2.2).bind fun t408=>((laws_eqIntS.f kj16 t408 t359).bind fun t411=>(if t411=true then ((laws_heldIntS.f kj16 t395 1).bind fun t412=>(if t412 < 0 then (none) else (if t412=t394 then (some true) else (none)))) else (none))))) else (none))))=some r:=H
       have A46:=Aside0.mk A460
       clear A460
       replace H:=Option.bind_eq_some_iff.mp H
       obtain ⟨t396,A470,H⟩:=H
       have A47:=Aside0.mk A470
       clear A470
       by_cases c48:t396 < 0
       ·rw [if_pos c48] at H
        exact absurd H (by simp)
       ·rw [if_neg c48] at H
        have c48b0:decide (t396 < 0)=false:=decide_eq_false c48
        clear c48
        by_cases c49:t396=t394
        ·rw [if_pos c49] at H
         have c49b0:(t396 == t394)=true:=beq_iff_eq.mpr c49
         have c49b1:(t396 != t394)=false:=bne_eq_false_iff_eq.mpr c49
         clear c49
         replace H:=Option.bind_eq_some_iff.mp H
         obtain ⟨⟨t397,t400,t401,t402,t403,t404,t407⟩,A500,H⟩:=H
         replace H:((impl_LineList.f kj16 t397 t400 t401 t402 t403 t404 t407).bind fun t408=>((laws_eqIntS.f kj16 t408 t359).bind fun t411=>(if t411=true then ((laws_heldIntS.f kj16 t395 1).bind fun t412=>(if t412 < 0 then (none) else (if t412=t394 then (some true) else (none)))) else (none))))=some r:=H
         have A50:=Aside0.mk A500
         clear A500
         replace H:=Option.bind_eq_some_iff.mp H
         obtain ⟨t408,A510,H⟩:=H
         have A51:=Aside0.mk A510
         clear A510
         replace H:=Option.bind_eq_some_iff.mp H
         obtain ⟨t411,A520,H⟩:=H
         have A52:=Aside0.mk A520
         clear A520
         by_cases c53:t411=true
         ·subst c53
          rw [if_pos rfl] at H
          replace H:=Option.bind_eq_some_iff.mp H
          obtain ⟨t412,A540,H⟩:=H
          have A54:=Aside0.mk A540
          clear A540
          by_cases c55:t412 < 0
          ·rw [if_pos c55] at H
           exact absurd H (by simp)
          ·rw [if_neg c55] at H
           have c55b0:decide (t412 < 0)=false:=decide_eq_false c55
           clear c55
           by_cases c56:t412=t394
           ·rw [if_pos c56] at H
            have c56b0:(t412 == t394)=true:=beq_iff_eq.mpr c56
            have c56b1:(t412 != t394)=false:=bne_eq_false_iff_eq.mpr c56
            clear c56
            obtain rfl:=Option.some.inj H
            go_wp2_with (first|((with_reducible refine gate_callee (f:=30) rfl ?_);refine goesL_ (some 45) rfl rfl Try.func30 (by kernel_rfl) rfl #[.slice Ao34 t374.length co34,.int .i64 1] rfl (by (try simp only [List.map_toArray,List.map_cons,List.map_nil]);first|done|rfl|(simp only [List.length_drop,List.length_take];rfl)) ?_;(with_reducible refine (laws_markIntS.calls kj16 (fun k_=>some k_=(.slice Ao34 t374.length co34:Value).ownBlock) (.slice Ao34 t374.length co34) t374 1 t394 t395 w _ ?side1 ?side2 A46.out).mono ?_);(case side1=>repeat (first|(with_reducible first|exact HB.out|apply below_alloc|apply pw_below_drewN|apply below_drew1|refine below_set ?_ GE346.out|refine below_set ?_ GE373.out)|exact HB.out));(case side2=>exact Kd.R_tight rfl HO_6.out);rintro e w57 ⟨rfl,hy0,hb,hkp⟩;refine ⟨_,rfl,?_⟩;replace HO_4:=Aside0.mk (Kd.R_mono (ok':=fun k_=>some k_≠(.slice Ao34 t374.length co34:Value).ownBlock) (Kd.R_keptB (HO_4.out) hkp (fun k_ hk_ hs_=>by first|exact ((hk_) hs_)|(rcases hs_ with e_|e_ <;> simp_all)|simp_all)) (fun k_ hk_=>by first|exact (hk_.1)|simp_all));replace HO_374000:=Aside0.mk (Kd.R_mono (ok':=fun k_=>True) (Kd.R_keptB ((Kd.R_apart' HO_374000.out (Kd.R_typed HO_6.out) (by decide))) hkp (fun k_ hk_ hs_=>by first|exact ((hk_.2) hs_)|(rcases hs_ with e_|e_ <;> simp_all)|simp_all)) (fun k_ hk_=>by first|exact (trivial)|simp_all));replace HO_374005:=Aside0.mk (Kd.R_mono (ok':=fun k_=>True) (Kd.R_keptB ((Kd.R_apart' HO_374005.out (Kd.R_typed HO_6.out) (by decide))) hkp (fun k_ hk_ hs_=>by first|exact ((hk_.2) hs_)|(rcases hs_ with e_|e_ <;> simp_all)|simp_all)) (fun k_ hk_=>by first|exact (trivial)|simp_all));replace BK346:=Aside0.mk (blk_kept (bk BK346) hkp (fun hs_=>(fun e_=>(Kd.R_ne HO_6.out BK346.out (by decide)) e_) hs_));replace BK373:=Aside0.mk (blk_kept (bk BK373) hkp (fun hs_=>(fun e_=>(Kd.R_ne HO_6.out BK373.out (by decide)) e_) hs_));replace HO_6:=Aside0.mk (Kd.R_reok rfl hy0 (fun k_ e_=>HO_6.out.1 k_ e_));replace HB:=Aside0.mk (hb);(try clear hb);(try clear hkp);(try clear hy0))|((with_reducible refine gate_callee (f:=31) rfl ?_);refine goesL_ (some 48) rfl rfl Try.func31 (by kernel_rfl) rfl #[.slice Ao34 t395.length co34,.int .i64 1] rfl (by (try simp only [List.map_toArray,List.map_cons,List.map_nil]);first|done|(rw [show t395.length=t374.length from (Kd.R_reads' HO_6.out).1.symm] <;> rfl)|rfl|(simp only [List.length_drop,List.length_take];rfl)) ?_;(with_reducible refine (laws_heldIntS.calls kj16 _ _ t395 1 t396 _ ?side1 ?side2 A47.out).mono ?_);(case side1=>repeat (first|exact (Kd.R_reads' HO_6.out).2.2|(with_reducible refine Kd.C_alloc ?_ _)|(with_reducible refine Kd.C_drewN ?_ _)|(with_reducible refine Kd.C_drew ?_)));(case side2=>rw [show t395.length=t374.length from (Kd.R_reads' HO_6.out).1.symm];exact (Kd.R_reads' HO_6.out).2.1);rintro e w' ⟨rfl,⟨nd,rfl⟩⟩;refine ⟨_,rfl,?_⟩;have hnb58:=NB346_373.out;have hnc58:=NB373_346.out;obtain ⟨hcz59_0,hcz59_1,hcz59_2,hcz59_3,hcz59_4,hcz59_5,hcz59_6,hfz59_0,hfz59_1,hfz59_2,hfz59_3,hfz59_4,hfz59_5,hfz59_6⟩:=ck7 BK346.out)|((with_reducible refine gate_callee (f:=21) rfl ?_);refine goesL_ (some 55) rfl rfl Try.func21 (by kernel_rfl) rfl #[.agg #[.slice A0_0 l0_0.length c0_0,.int .i64 a0_1,.int .i64 a0_2,.int .i64 a0_3,.int .i64 a0_4,.slice A0_5 l0_5.length c0_5,.int .i64 a0_6]] rfl (by (try simp only [List.map_toArray,List.map_cons,List.map_nil]);first|done|rfl|(simp only [List.length_drop,List.length_take];rfl)) ?_;(with_reducible refine (laws_toLine.calls kj16 _ _ l0_0 a0_1 a0_2 a0_3 a0_4 _ _ l0_5 a0_6 t397 t400 t401 t402 t403 t404 t407 _ ?side1 ?side2 ?side3 ?side4 A50.out).mono ?_);(case side1=>repeat (first|exact (Kd.C_below HR0_0.out bl)|(with_reducible refine Kd.C_alloc ?_ _)|(with_reducible refine Kd.C_drewN ?_ _)|(with_reducible refine Kd.C_drew ?_)));(case side2=>exact HC0_0.out);(case side3=>repeat (first|exact (Kd.C_below HR0_5.out bl)|(with_reducible refine Kd.C_alloc ?_ _)|(with_reducible refine Kd.C_drewN ?_ _)|(with_reducible refine Kd.C_drew ?_)));(case side4=>exact HC0_5.out);rintro e w60 ⟨v398,v405,rfl,ho0,ho1,hb⟩;refine ⟨_,rfl,?_⟩;replace HO_4:=Aside0.mk (Kd.R_below (by (with_reducible repeat (first|apply Kd.R_alloc|apply Kd.R_drewN|apply Kd.R_drew));exact HO_4.out) hb);replace HO_6:=Aside0.mk (Kd.R_below (by (with_reducible repeat (first|apply Kd.R_alloc|apply Kd.R_drewN|apply Kd.R_drew));exact HO_6.out) hb);have HO399:=Aside0.mk (Kd.R_lower (Kd.R_new' ho0 (Kd.R_lt (by (with_reducible repeat (first|apply Kd.R_alloc|apply Kd.R_drewN|apply Kd.R_drew));exact HO_374000.out))) (below_size bl));replace HO_374000:=Aside0.mk (Kd.R_elder' (by (with_reducible repeat (first|apply Kd.R_alloc|apply Kd.R_drewN|apply Kd.R_drew));exact HO_374000.out) (Kd.R_base ho0) hb);have HO406:=Aside0.mk (Kd.R_lower (Kd.R_new' ho1 (Kd.R_lt (by (with_reducible repeat (first|apply Kd.R_alloc|apply Kd.R_drewN|apply Kd.R_drew));exact HO_374005.out))) (below_size bl));replace HO_374005:=Aside0.mk (Kd.R_elder' (by (with_reducible repeat (first|apply Kd.R_alloc|apply Kd.R_drewN|apply Kd.R_drew));exact HO_374005.out) (Kd.R_base ho1) hb);replace BK346:=Aside0.mk (blk_below (bk BK346) hb);replace BK373:=Aside0.mk (blk_below (bk BK373) hb);replace HB:=Aside0.mk (below_step bl hb);(try clear hb);(try clear hb2);(try clear hk);(try clear hi);(try clear ho0);(try clear ho1);obtain ⟨Ao61,co61,eo61⟩:=Kd.R_slice HO399.out;subst eo61;obtain ⟨Ao62,co62,eo62⟩:=Kd.R_slice HO406.out;subst eo62)|((with_reducible refine gate_callee (f:=27) rfl ?_);refine goesL_ (some 56) rfl rfl Try.func27 (by kernel_rfl) rfl #[.agg #[.slice Ao61 t397.length co61,.int .i64 t400,.int .i64 t401,.int .i64 t402,.int .i64 t403,.slice Ao62 t404.length co62,.int .i64 t407]] rfl (by (try simp only [List.map_toArray,List.map_cons,List.map_nil]);first|done|rfl|(simp only [List.length_drop,List.length_take];rfl)) ?_;(with_reducible refine (impl_LineList.calls kj16 _ _ t397 t400 t401 t402 t403 _ _ t404 t407 t408 _ ?side1 ?side2 ?side3 ?side4 A51.out).mono ?_);(case side1=>repeat (first|exact (Kd.R_reads' HO399.out).2.2|(with_reducible refine Kd.C_alloc ?_ _)|(with_reducible refine Kd.C_drewN ?_ _)|(with_reducible refine Kd.C_drew ?_)));(case side2=>exact (Kd.R_reads' HO399.out).2.1);(case side3=>repeat (first|exact (Kd.R_reads' HO406.out).2.2|(with_reducible refine Kd.C_alloc ?_ _)|(with_reducible refine Kd.C_drewN ?_ _)|(with_reducible refine Kd.C_drew ?_)));(case side4=>exact (Kd.R_reads' HO406.out).2.1);rintro e w63 ⟨v409,rfl,ho0,hb⟩;refine ⟨_,rfl,?_⟩;replace HO_374000:=Aside0.mk (Kd.R_below (by (with_reducible repeat (first|apply Kd.R_alloc|apply Kd.R_drewN|apply Kd.R_drew));exact HO_374000.out) hb);replace HO_374005:=Aside0.mk (Kd.R_below (by (with_reducible repeat (first|apply Kd.R_alloc|apply Kd.R_drewN|apply Kd.R_drew));exact HO_374005.out) hb);replace HO399:=Aside0.mk (Kd.R_below (by (with_reducible repeat (first|apply Kd.R_alloc|apply Kd.R_drewN|apply Kd.R_drew));exact HO399.out) hb);replace HO406:=Aside0.mk (Kd.R_below (by (with_reducible repeat (first|apply Kd.R_alloc|apply Kd.R_drewN|apply Kd.R_drew));exact HO406.out) hb);have HO410:=Aside0.mk (Kd.R_lower (Kd.R_new' (Kd.R_new' ho0 (Kd.R_lt (by (with_reducible repeat (first|apply Kd.R_alloc|apply Kd.R_drewN|apply Kd.R_drew));exact HO_4.out))) (Kd.R_lt (by (with_reducible repeat (first|apply Kd.R_alloc|apply Kd.R_drewN|apply Kd.R_drew));exact HO_6.out))) (below_size bl));replace HO_4:=Aside0.mk (Kd.R_elder' (by (with_reducible repeat (first|apply Kd.R_alloc|apply Kd.R_drewN|apply Kd.R_drew));exact HO_4.out) (Kd.R_base ho0) hb);replace HO_6:=Aside0.mk (Kd.R_elder' (by (with_reducible repeat (first|apply Kd.R_alloc|apply Kd.R_drewN|apply Kd.R_drew));exact HO_6.out) (Kd.R_base ho0) hb);replace BK346:=Aside0.mk (blk_below (bk BK346) hb);replace BK373:=Aside0.mk (blk_below (bk BK373) hb);replace HB:=Aside0.mk (below_step bl hb);(try clear hb);(try clear hb2);(try clear hk);(try clear hi);(try clear ho0);obtain ⟨Ao64,co64,eo64⟩:=Kd.R_slice HO410.out;subst eo64)|((with_reducible refine gate_callee (f:=28) rfl ?_);refine goesL_ (some 59) rfl rfl Try.func28 (by kernel_rfl) rfl #[.slice Ao64 t408.length co64,.slice Ao35 t359.length co35] rfl (by (try simp only [List.map_toArray,List.map_cons,List.map_nil]);first|done|rfl|(simp only [List.length_drop,List.length_take];rfl)) ?_;(with_reducible refine (laws_eqIntS.calls kj16 _ _ t408 _ _ t359 true _ ?side1 ?side2 ?side3 ?side4 A52.out).mono ?_);(case side1=>repeat (first|exact (Kd.R_reads' HO410.out).2.2|(with_reducible refine Kd.C_alloc ?_ _)|(with_reducible refine Kd.C_drewN ?_ _)|(with_reducible refine Kd.C_drew ?_)));(case side2=>exact (Kd.R_reads' HO410.out).2.1);(case side3=>repeat (first|exact (Kd.R_reads' HO_4.out).2.2|(with_reducible refine Kd.C_alloc ?_ _)|(with_reducible refine Kd.C_drewN ?_ _)|(with_reducible refine Kd.C_drew ?_)));(case side4=>exact (Kd.R_reads' HO_4.out).2.1);rintro e w' ⟨rfl,⟨nd,rfl⟩⟩;refine ⟨_,rfl,?_⟩)|((with_reducible refine gate_callee (f:=31) rfl ?_);refine goesL_ (some 63) rfl rfl Try.func31 (by kernel_rfl) rfl #[.slice Ao34 t395.length co34,.int .i64 1] rfl (by (try simp only [List.map_toArray,List.map_cons,List.map_nil]);first|done|(rw [show t395.length=t374.length from (Kd.R_reads' HO_6.out).1.symm] <;> rfl)|rfl|(simp only [List.length_drop,List.length_take];rfl)) ?_;(with_reducible refine (laws_heldIntS.calls kj16 _ _ t395 1 t412 _ ?side1 ?side2 A54.out).mono ?_);(case side1=>repeat (first|exact (Kd.R_reads' HO_6.out).2.2|(with_reducible refine Kd.C_alloc ?_ _)|(with_reducible refine Kd.C_drewN ?_ _)|(with_reducible refine Kd.C_drew ?_)));(case side2=>rw [show t395.length=t374.length from (Kd.R_reads' HO_6.out).1.symm];exact (Kd.R_reads' HO_6.out).2.1);rintro e w' ⟨rfl,⟨nd,rfl⟩⟩;refine ⟨_,rfl,?_⟩))
            go_ret
            exact ⟨by first|rfl|(simp [errW_none,errW_some] <;> rfl)|(simp [*,errW_none,errW_some] <;> rfl),bl⟩
           ·rw [if_neg c56] at H
            exact absurd H (by simp)
         ·replace c53:=Bool.eq_false_iff.mpr c53
          subst c53
          rw [if_neg nft] at H
          exact absurd H (by simp)
        ·rw [if_neg c49] at H
         exact absurd H (by simp)
   ·replace c15:=Bool.eq_false_iff.mpr c15
    subst c15
    rw [if_neg nft] at H
    exact absurd H (by simp)
  ·replace c12:=Bool.eq_false_iff.mpr c12
   subst c12
   rw [if_neg nft] at H
   exact absurd H (by simp)

end Go.Proofs.Ytnkpjpfmjkiidaa.PFnExactLineList
