/- Contracts of functions of the given program: what each call answers. Written by a program of this session, out of the text of the functions. -/
import Derived.Test.YtdffkcbaijbhoaaPFnExactSchedulex0
import Derived.Test.YtdffkcbaijbhoaaPrs
namespace Go.Proofs.Ytdffkcbaijbhoaa.PFnExactSchedule
open Go.RowKit Go.Proofs.YtdffkcbaijbhoaaW.PrintWords Go.Proofs.YtdffkcbaijbhoaaW.PrintLast Go.Proofs.YtdffkcbaijbhoaaW.PrintMore Go.Proofs.Ytdffkcbaijbhoaa.Giv Go.Proofs.Ytdffkcbaijbhoaa.Prs
attribute [local go_sem] max2_int min2_int max_two min_two max_three min_three max_four min_four   -- for this text's walks alone
set_option linter.unusedVariables false
set_option linter.unusedSimpArgs false

/-! ### laws_szDueS: function 38 -/
def laws_szDueS.f (l0:List (S84)) (a1:Int):Option (Int):=if (wrap64 (a1 - (l0.length:Int))) < 0 then (some (-1)) else (some (wrap64 (a1 - (l0.length:Int))))
set_option maxHeartbeats 8000000 in
set_option maxRecDepth 100000 in
theorem laws_szDueS.calls (A0:Option Addr) (c0:Nat) (l0:List (S84)) (a1:Int) (r:Int) (w:World) (hr0:Kd.C k84 w A0 l0.length l0) (hc0:l0.length≤c0) (h:laws_szDueS.f l0 a1=some r) :
  Calls Try.prog 38 #[.slice A0 l0.length c0,.int .i64 a1] w fun e w'=>e = .returned (.int .i64 r)∧Drawn0 w w':=by
 have HR0:=Aside0.mk hr0
 have HC0:=Aside0.mk hc0
 clear hr0 hc0
 have H:(if (wrap64 (a1 - (l0.length:Int))) < 0 then (some (-1)) else (some (wrap64 (a1 - (l0.length:Int)))))=some r:=h
 clear h
 by_cases c3:(wrap64 (a1 - (l0.length:Int))) < 0
 ·rw [if_pos c3] at H
  have c3b0:decide ((wrap64 (a1 - (l0.length:Int))) < 0)=true:=decide_eq_true c3
  clear c3
  obtain rfl:=Option.some.inj H
  go_enter Try.func38,Try.ntmps38
  go_wp2
  go_ret
  exact ⟨by first|rfl|(simp;done)|(simp [*];done),by repeat (first|exact Drawn0.refl _|apply Drawn0.step)⟩
 ·rw [if_neg c3] at H
  have c3b0:decide ((wrap64 (a1 - (l0.length:Int))) < 0)=false:=decide_eq_false c3
  clear c3
  obtain rfl:=Option.some.inj H
  go_enter Try.func38,Try.ntmps38
  go_wp2
  go_ret
  exact ⟨by first|rfl|(simp;done)|(simp [*];done),by repeat (first|exact Drawn0.refl _|apply Drawn0.step)⟩

/-! ### laws_szHeap: function 9 -/
def laws_szHeap.f (l0_0:List (S84)) (a0_1:Int) (a1:Int):Option (Int):=(laws_szDueS.f l0_0 a1).bind fun t102=>(if t102 < 0 then (some (-1)) else (some t102))
set_option maxHeartbeats 8000000 in
set_option maxRecDepth 100000 in
theorem laws_szHeap.calls (A0_0:Option Addr) (c0_0:Nat) (l0_0:List (S84)) (a0_1:Int) (a1:Int) (r:Int) (w:World) (hr0_0:Kd.C k84 w A0_0 l0_0.length l0_0) (hc0_0:l0_0.length≤c0_0) (h:laws_szHeap.f l0_0 a0_1 a1=some r) :
  Calls Try.prog 9 #[.agg #[.slice A0_0 l0_0.length c0_0,.int .i64 a0_1],.int .i64 a1] w fun e w'=>e = .returned (.int .i64 r)∧Below w.heap.size w w':=by
 have hu24:=Try.underlying24
 have HR0_0:=Aside0.mk hr0_0
 have HC0_0:=Aside0.mk hc0_0
 clear hr0_0 hc0_0
 have HB:=Aside0.mk (Below.refl w.heap.size w)
 have H:((laws_szDueS.f l0_0 a1).bind fun t102=>(if t102 < 0 then (some (-1)) else (some t102)))=some r:=h
 clear h
 replace H:=Option.bind_eq_some_iff.mp H
 obtain ⟨t102,A30,H⟩:=H
 have A3:=Aside0.mk A30
 clear A30
 by_cases c4:t102 < 0
 ·rw [if_pos c4] at H
  have c4b0:decide (t102 < 0)=true:=decide_eq_true c4
  clear c4
  obtain rfl:=Option.some.inj H
  go_enter Try.func9,Try.ntmps9
  go_wp2_with (first|((with_reducible refine gate_dst (N:=2) rfl ?_);refine bx 2 #[.slice A0_0 l0_0.length c0_0,.int .i64 a0_1] 24 ?_;intro gb101 hg w5 hbox hb;have BK101:=Aside0.mk (hbox);have GW101:=Aside0.mk (bz hg:w.heap.size≤gb101);have GE101:=GW101;replace HB:=Aside0.mk (below_step bl hb);clear hb hbox hg;obtain ⟨hcz6_0,hcz6_1,hfz6_0,hfz6_1⟩:=ck2 BK101.out)|((with_reducible refine gate_callee (f:=38) rfl ?_);refine gl (some 8) Try.func38 #[.slice A0_0 l0_0.length c0_0,.int .i64 a1] ?_;(with_reducible refine (laws_szDueS.calls _ _ l0_0 a1 t102 _ ?side1 ?side2 A3.out).mono ?_);(case side1=>exact kc HR0_0);(case side2=>exact HC0_0.out);rintro e w' ⟨rfl,⟨nd,rfl⟩⟩;refine ⟨_,rfl,?_⟩))
  go_ret
  exact ⟨er,bl⟩
 ·rw [if_neg c4] at H
  have c4b0:decide (t102 < 0)=false:=decide_eq_false c4
  clear c4
  obtain rfl:=Option.some.inj H
  go_enter Try.func9,Try.ntmps9
  go_wp2_with (first|((with_reducible refine gate_dst (N:=2) rfl ?_);refine bx 2 #[.slice A0_0 l0_0.length c0_0,.int .i64 a0_1] 24 ?_;intro gb101 hg w7 hbox hb;have BK101:=Aside0.mk (hbox);have GW101:=Aside0.mk (bz hg:w.heap.size≤gb101);have GE101:=GW101;replace HB:=Aside0.mk (below_step bl hb);clear hb hbox hg;obtain ⟨hcz8_0,hcz8_1,hfz8_0,hfz8_1⟩:=ck2 BK101.out)|((with_reducible refine gate_callee (f:=38) rfl ?_);refine gl (some 8) Try.func38 #[.slice A0_0 l0_0.length c0_0,.int .i64 a1] ?_;(with_reducible refine (laws_szDueS.calls _ _ l0_0 a1 t102 _ ?side1 ?side2 A3.out).mono ?_);(case side1=>exact kc HR0_0);(case side2=>exact HC0_0.out);rintro e w' ⟨rfl,⟨nd,rfl⟩⟩;refine ⟨_,rfl,?_⟩))
  go_ret
  exact ⟨er,bl⟩

/-! ### laws_toDue: function 69 -/
def laws_toDue.f (a0_0:Int) (a0_1:Int) (a0_2:Int):Option (Int × Int × Int):=some (a0_0,a0_1,a0_2)
set_option maxHeartbeats 8000000 in
set_option maxRecDepth 100000 in
theorem laws_toDue.calls (a0_0:Int) (a0_1:Int) (a0_2:Int) (r1:Int) (r2:Int) (r3:Int) (w:World) (h:laws_toDue.f a0_0 a0_1 a0_2=some (r1,r2,r3)) :
  Calls Try.prog 69 #[.agg #[.int .i64 a0_0,.int .i64 a0_1,.int .i64 a0_2]] w fun e w'=>e = .returned (.agg #[.int .i64 r1,.int .i64 r2,.int .i64 r3])∧Below w.heap.size w w':=by
 have hu84:=Try.underlying84
 have hu56:=Try.underlying56
 have HB:=Aside0.mk (Below.refl w.heap.size w)
 have H:(some (a0_0,a0_1,a0_2))=some (r1,r2,r3):=h
 clear h
 simp only [Option.some.injEq,Prod.mk.injEq] at H
 obtain ⟨rfl,rfl,rfl⟩:=H
 go_enter Try.func69,Try.ntmps69
 go_wp2_with (first|((with_reducible refine gate_dst (N:=1) rfl ?_);refine bx 1 #[.int .i64 a0_0,.int .i64 a0_1,.int .i64 a0_2] 84 ?_;intro gb103 hg w2 hbox hb;have BK103:=Aside0.mk (hbox);have GW103:=Aside0.mk (bz hg:w.heap.size≤gb103);have GE103:=GW103;replace HB:=Aside0.mk (below_step bl hb);clear hb hbox hg)|((with_reducible refine gate_dst (N:=2) rfl ?_);refine bx 2 #[.int .i64 0,.int .i64 0,.int .i64 0] 56 ?_;intro gb104 hg w3 hbox hb;have BK104:=Aside0.mk (hbox);have GW104:=Aside0.mk (bz hg:w.heap.size≤gb104);have GE104:=GW104;replace HB:=Aside0.mk (below_step bl hb);have NB103_104:=Aside0.mk (nl hg BK103:gb103≠gb104);have NB104_103:=Aside0.mk (nr hg BK103:gb104≠gb103);replace BK103:=Aside0.mk (blk_below (bk BK103) hb);clear hb hbox hg)|((with_reducible refine gate_dst (N:=3) rfl ?_);refine bx 3 #[.int .i64 0,.int .i64 0,.int .i64 0] 56 ?_;intro gb105 hg w4 hbox hb;have BK105:=Aside0.mk (hbox);have GW105:=Aside0.mk (bz hg:w.heap.size≤gb105);have GE105:=GW105;replace HB:=Aside0.mk (below_step bl hb);have NB103_105:=Aside0.mk (nl hg BK103:gb103≠gb105);have NB105_103:=Aside0.mk (nr hg BK103:gb105≠gb103);replace BK103:=Aside0.mk (blk_below (bk BK103) hb);have NB104_105:=Aside0.mk (nl hg BK104:gb104≠gb105);have NB105_104:=Aside0.mk (nr hg BK104:gb105≠gb104);replace BK104:=Aside0.mk (blk_below (bk BK104) hb);clear hb hbox hg;have hnb5:=NB103_104.out;have hnc5:=NB104_103.out;have hnb6:=NB103_105.out;have hnc6:=NB105_103.out;obtain ⟨hcz7_0,hcz7_1,hcz7_2,hfz7_0,hfz7_1,hfz7_2⟩:=ck3 BK103.out;have hnb8:=NB105_104.out;have hnc8:=NB104_105.out;obtain ⟨hcz9_0,hcz9_1,hcz9_2,hfz9_0,hfz9_1,hfz9_2⟩:=ck3 BK105.out;obtain ⟨hcz10_0,hcz10_1,hcz10_2,hfz10_0,hfz10_1,hfz10_2⟩:=ck3 BK104.out))
 refine bodyPost_ret (results_cell_row rfl _ _ gb104 56 #[.int .i64 a0_0,.int .i64 a0_1,.int .i64 a0_2] (0,0) _ rfl (by (with_reducible repeat (first|refine blk_drewN ?_ _|refine blk_drew ?_|refine blk_alloc ?_ _));refine blk_put (cs:=#[.int .i64 a0_0,.int .i64 a0_1,.int .i64 0]) ?_ 2 _ rfl;(with_reducible repeat (first|refine blk_drewN ?_ _|refine blk_drew ?_|refine blk_alloc ?_ _));refine blk_put (cs:=#[.int .i64 a0_0,.int .i64 0,.int .i64 0]) ?_ 1 _ rfl;(with_reducible repeat (first|refine blk_drewN ?_ _|refine blk_drew ?_|refine blk_alloc ?_ _));refine blk_put (cs:=#[.int .i64 0,.int .i64 0,.int .i64 0]) ?_ 0 _ rfl;(with_reducible repeat (first|refine blk_drewN ?_ _|refine blk_drew ?_|refine blk_alloc ?_ _));refine blk_far ?_ NB104_105.out _;(with_reducible repeat (first|refine blk_drewN ?_ _|refine blk_drew ?_|refine blk_alloc ?_ _));refine blk_far ?_ NB104_105.out _;(with_reducible repeat (first|refine blk_drewN ?_ _|refine blk_drew ?_|refine blk_alloc ?_ _));refine blk_far ?_ NB104_105.out _;(with_reducible repeat (first|refine blk_drewN ?_ _|refine blk_drew ?_|refine blk_alloc ?_ _));exact BK104.out) Try.underlying56 rfl (by kernel_rfl)) rfl ?_
 exact ⟨er,bl⟩

/-! ### laws_toDueS: function 43 -/
def laws_toDueS.l0:Nat→List (S84)→List (S56)→Int→Option ((List (S56)))
 | 0,_,_,_=>none
 | k + 1,x0,x3,x4=>if x4 < (x0.length:Int) then (if 0≤x4 then ((laws_toDue.f ((rd_T84 x0 x4).f0) ((rd_T84 x0 x4).f1) ((rd_T84 x0 x4).f2)).bind fun bt110=>(if x4 < (x3.length:Int) then (laws_toDueS.l0 k x0 (x3.set (x4:Int).toNat (⟨bt110.1,bt110.2.1,bt110.2.2⟩:S56)) (wrap64 (x4 + 1))) else (none))) else (none)) else (some x3)
def laws_toDueS.f (k:Nat) (l0:List (S84)):Option ((List (S56))):=if 0≤(l0.length:Int) then (if ((l0.length:Int):Int).toNat≤11728124029610 then (laws_toDueS.l0 k l0 (List.replicate ((l0.length:Int):Int).toNat z56) 0) else (none)) else (none)
theorem laws_toDueS.mono_l:∀ k,(∀ y0 y1 y2,LeO (laws_toDueS.l0 k y0 y1 y2) (laws_toDueS.l0 (k + 1) y0 y1 y2))
 | 0=>fun _ _ _ r h=>by simp [laws_toDueS.l0] at h
 | k + 1=>by
  have ih0:=laws_toDueS.mono_l k
  ·intro y0 y1 y2
   unfold laws_toDueS.l0
   repeat' first
   | (with_reducible exact ih0 _ _ _)
   | (with_reducible exact LeO.refl _)
   | (with_reducible exact LeO.none _)
   | (with_reducible refine LeO.ite ?_ ?_)
   | (with_reducible refine LeO.bind ?_ (fun _=>?_))
   | exact ih0 _ _ _
   | exact LeO.none _
   | refine LeO.ite ?_ ?_
   | refine LeO.bind ?_ (fun _=>?_)
theorem laws_toDueS.mono:∀ a0 k,LeO (laws_toDueS.f k a0) (laws_toDueS.f (k + 1) a0):=by
 intro a0 k
 have ih0:=laws_toDueS.mono_l k
 unfold laws_toDueS.f
 repeat' first
   | (with_reducible exact ih0 _ _ _)
   | (with_reducible exact LeO.refl _)
   | (with_reducible exact LeO.none _)
   | (with_reducible refine LeO.ite ?_ ?_)
   | (with_reducible refine LeO.bind ?_ (fun _=>?_))
   | exact ih0 _ _ _
   | exact LeO.none _
   | refine LeO.ite ?_ ?_
   | refine LeO.bind ?_ (fun _=>?_)
set_option maxHeartbeats 8000000 in
set_option maxRecDepth 100000 in
theorem laws_toDueS.calls (k:Nat) (A0:Option Addr) (c0:Nat) (l0:List (S84)) (r:List (S56)) (w:World) (hr0:Kd.C k84 w A0 l0.length l0) (hc0:l0.length≤c0) (h:laws_toDueS.f k l0=some r) :
  Calls Try.prog 43 #[.slice A0 l0.length c0] w fun e w'=>∃ v0_:Value,e = .returned (v0_)∧Kd.R k56 56 w' w.heap.size (fun _=>True) v0_ r∧Below w.heap.size w w':=by
 have hu84:=Try.underlying84
 have hu56:=Try.underlying56
 have HR0:=Aside0.mk hr0
 have HC0:=Aside0.mk hc0
 clear hr0 hc0
 have HB:=Aside0.mk (Below.refl w.heap.size w)
 have H:(if 0≤(l0.length:Int) then (if ((l0.length:Int):Int).toNat≤11728124029610 then (laws_toDueS.l0 k l0 (List.replicate ((l0.length:Int):Int).toNat z56) 0) else (none)) else (none))=some r:=h
 clear h
 by_cases c2:0≤(l0.length:Int)
 ·rw [if_pos c2] at H
  have c2b0:=eq_true c2
  have c2b1:decide (0≤(l0.length:Int))=true:=decide_eq_true c2
  clear c2
  by_cases c3:((l0.length:Int):Int).toNat≤11728124029610
  case neg =>
   rw [if_neg c3] at H
   exact absurd H (by simp)
  rw [if_pos c3] at H
  have c3b0:=eq_true c3
  have c3b1:decide (((l0.length:Int):Int).toNat≤11728124029610)=true:=decide_eq_true c3
  clear c3
  obtain ⟨y106,hy106⟩:∃ y_:List (S56),y_=(List.replicate ((l0.length:Int):Int).toNat z56):=⟨_,rfl⟩
  replace H:(laws_toDueS.l0 k l0 y106 0)=some r:=by first|(rw [hy106];with_reducible exact H)|(have H2_:=(Option.bind_some _ _).symm.trans H;rw [hy106];with_reducible exact H2_)|(have H2_:=(Option.bind_some _ _).symm.trans H;with_reducible exact H2_)|with_reducible exact H|(rw [hy106];exact H)|exact H
  have Ny106:=Aside0.mk hy106
  clear hy106
  have H':=Aside0.mk H
  clear H
  go_enter Try.func43,Try.ntmps43
  go_wp2_with (first|((with_reducible refine gate_dst (N:=7) rfl ?_);refine Kd.R_make k56 _ 56 rfl (N:=7) rfl 26 _ _ rfl (l0.length:Int) rfl rfl Try.underlying26 (.agg #[(.int .i64 0),(.int .i64 0),(.int .i64 0)]) 24 info56 rfl (by decide) (by omega) z56 (ok:=fun _=>True) (okp:=fun _=>True) (k56_mkM _ _ _ z56 ) (fun _ hk=>hk) trivial od (Nat.le_trans (Nat.mul_le_mul_right _ (od:(l0.length:Int).toNat≤11728124029610)) (by omega)) (Below.refl _ _) (Nat.le_refl _) ?_;intro v107 w4 ho5 hb hg_ hnew_;clear hg_ hnew_;(first|rw [← Ny106.out] at ho5|(simp only [Int.reduceToNat] at ho5;rw [← Ny106.out] at ho5));have HO108:=Aside0.mk (Kd.R_lower ho5 (below_size bl));replace HB:=Aside0.mk (below_step bl hb);clear hb ho5))
  go_loopg [4] k (fun kq v4 w'=>∃ (x3_1:List (S56)) (x4_1:Int),v4 = .int .i64 x4_1∧Aside0 (laws_toDueS.l0 kq l0 x3_1 x4_1=some r)∧Aside0 (kq≤k)∧Aside0 (Kd.R k56 56 w' w.heap.size (fun _=>True) v107 x3_1)∧Aside0 (Below w.heap.size w w'))
  case atStart=>exact ⟨(y106),(0),(by first|rfl|(simp;done)|(simp [*];done)),H',⟨Nat.le_refl _⟩,⟨kr HO108⟩,⟨bl⟩⟩
  case round =>
   clear H'
   try clear c2
   try clear c2b0
   try clear c2b1
   try clear p2
   try clear c3
   try clear c3b0
   try clear c3b1
   try clear c4
   obtain ⟨x3_1,x4_1,rfl,HA,HK1,HO_3,HB⟩:=hrel
   cases gk with
   | zero=>exact absurd HA.out (by simp [laws_toDueS.l0])
   | succ k1 =>
    have H:=HA.out
    clear HA
    simp only [laws_toDueS.l0] at H
    by_cases c6:x4_1 < (l0.length:Int)
    ·rw [if_pos c6] at H
     have c6b0:decide (x4_1 < (l0.length:Int))=true:=decide_eq_true c6
     clear c6
     by_cases c7:0≤x4_1
     case neg =>
      rw [if_neg c7] at H
      exact absurd H (by simp)
     rw [if_pos c7] at H
     have c7b0:decide (0≤x4_1)=true:=decide_eq_true c7
     clear c7
     replace H:=Option.bind_eq_some_iff.mp H
     obtain ⟨⟨t110,t111,t112⟩,A80,H⟩:=H
     replace H:(if x4_1 < (x3_1.length:Int) then (laws_toDueS.l0 k1 l0 (x3_1.set (x4_1:Int).toNat (⟨t110,t111,t112⟩:S56)) (wrap64 (x4_1 + 1))) else (none))=some r:=H
     have A8:=Aside0.mk A80
     clear A80
     by_cases c9:x4_1 < (x3_1.length:Int)
     case neg =>
      rw [if_neg c9] at H
      exact absurd H (by simp)
     rw [if_pos c9] at H
     have c9b0:decide (x4_1 < (x3_1.length:Int))=true:=decide_eq_true c9
     clear c9
     obtain ⟨y113,hy113⟩:∃ y_:List (S56),y_=(x3_1.set (x4_1:Int).toNat (⟨t110,t111,t112⟩:S56)):=⟨_,rfl⟩
     replace H:(laws_toDueS.l0 k1 l0 y113 (wrap64 (x4_1 + 1)))=some r:=by first|(rw [hy113];with_reducible exact H)|(have H2_:=(Option.bind_some _ _).symm.trans H;rw [hy113];with_reducible exact H2_)|(have H2_:=(Option.bind_some _ _).symm.trans H;with_reducible exact H2_)|with_reducible exact H|(rw [hy113];exact H)|exact H
     have Ny113:=Aside0.mk hy113
     clear hy113
     have H':=Aside0.mk H
     clear H
     have p109:0≤(x4_1:Int):=od
     have q109:x4_1 < (l0.length:Int):=od
     obtain ⟨ad109,e109,hx109_0,hx109_1,hx109_2⟩:=at_T84 HR0.out x4_1 p109 q109
     cases e109
     replace hx109_0:=cl HB hx109_0
     replace hx109_1:=cl HB hx109_1
     replace hx109_2:=cl HB hx109_2
     replace p109:=eq_true p109
     replace q109:=eq_true q109
     go_wp2_with (first|((with_reducible refine gate_callee (f:=69) rfl ?_);refine gl (some 20) Try.func69 #[.agg #[.int .i64 ((rd_T84 l0 x4_1).f0),.int .i64 ((rd_T84 l0 x4_1).f1),.int .i64 ((rd_T84 l0 x4_1).f2)]] ?_;(with_reducible refine (laws_toDue.calls ((rd_T84 l0 x4_1).f0) ((rd_T84 l0 x4_1).f1) ((rd_T84 l0 x4_1).f2) t110 t111 t112 _ A8.out).mono ?_);rintro e w11 ⟨rfl,hb⟩;refine ⟨_,rfl,?_⟩;replace HO_3:=Aside0.mk (Kd.R_below (kr HO_3) hb);replace HB:=Aside0.mk (below_step bl hb);(try clear hb);(try clear hb2);(try clear hk);(try clear hi);have p10:0≤(x4_1:Int):=od;have q10:(x4_1:Int) < ((x3_1.length:Int):Int):=od;obtain ⟨go10,co10,eo10,gb10,gl10,cl10,HG10⟩:=Kd.R_form HO_3.out (by omega);(first|cases eo10|(injection eo10 with ea_ en_ ec_;(first|subst ea_|(injection ea_ with ea_;subst ea_));subst ec_;clear en_));have GB10:=Aside0.mk gb10;have GG10:=Aside0.mk HG10;clear gb10 gl10 HG10;obtain ⟨ce10,hcl10,hM10,hcc10,hfr10⟩:=Kd.R_elem HO_3.out z56 (x4_1:Int) p10 q10;obtain rfl:=k56_openM hM10;have hx10_0:w11.cell? ⟨go10,(x4_1:Int).toNat * 3,none⟩=some (.int .i64 ((rd_T56 x3_1 x4_1).f0)):=hcc10 0 _ rfl;have hx10_1:w11.cell? ⟨go10,(x4_1:Int).toNat * 3 + 1,none⟩=some (.int .i64 ((rd_T56 x3_1 x4_1).f1)):=hcc10 1 _ rfl;have hx10_2:w11.cell? ⟨go10,(x4_1:Int).toNat * 3 + 2,none⟩=some (.int .i64 ((rd_T56 x3_1 x4_1).f2)):=hcc10 2 _ rfl;have hf10_0:w11.frozen? ⟨go10,(x4_1:Int).toNat * 3,none⟩=false:=hfr10 0;have hf10_1:w11.frozen? ⟨go10,(x4_1:Int).toNat * 3 + 1,none⟩=false:=hfr10 1;have hf10_2:w11.frozen? ⟨go10,(x4_1:Int).toNat * 3 + 2,none⟩=false:=hfr10 2;clear hcl10 hcc10 hfr10 hM10;replace p10:=eq_true p10;replace q10:=eq_true q10;have HX12:=Aside0.mk (show Kd.R k56 56 w11 w.heap.size (fun _=>True) (.slice (some ⟨go10,0,none⟩) x3_1.length co10) x3_1 from (kr HO_3));obtain ⟨ce12,hcl12,hM12,hcc12,hfr12⟩:=Kd.R_elem HX12.out z56 (x4_1:Int) od (by have h_:(x4_1:Int) < ((x3_1.length:Int):Int):=od;first|exact h_|(have e_:=(Kd.R_reads' HO_3.out).1;omega)|simpa using h_);obtain rfl:=k56_openM hM12;have HP12:=Kd.R_seg HX12.out (x4_1:Int) od (by have h_:(x4_1:Int) < ((x3_1.length:Int):Int):=od;first|exact h_|(have e_:=(Kd.R_reads' HO_3.out).1;omega)|simpa using h_) (seg:=[.int .i64 t110,.int .i64 t111,.int .i64 t112]) (j:=0) hcl12 hcc12 (show 3≤3 from by decide) (x':=(⟨t110,t111,t112⟩:S56)) (k56_mkM _ _ _ (⟨t110,t111,t112⟩:S56) ) (fun _ hk=>hk);have hx12_0:=hcc12 0 _ rfl;(try simp only [show (k56).sz=3 from rfl,Nat.mul_one,Nat.add_zero] at hx12_0);have hf12_0:=hfr12 0;(try simp only [show (k56).sz=3 from rfl,Nat.mul_one,Nat.add_zero] at hf12_0);have hx12_1:=hcc12 1 _ rfl;(try simp only [show (k56).sz=3 from rfl,Nat.mul_one,Nat.add_zero] at hx12_1);have hf12_1:=hfr12 1;(try simp only [show (k56).sz=3 from rfl,Nat.mul_one,Nat.add_zero] at hf12_1);have hx12_2:=hcc12 2 _ rfl;(try simp only [show (k56).sz=3 from rfl,Nat.mul_one,Nat.add_zero] at hx12_2);have hf12_2:=hfr12 2;(try simp only [show (k56).sz=3 from rfl,Nat.mul_one,Nat.add_zero] at hf12_2);clear hcl12 hcc12 hfr12 hM12)|((with_reducible refine gate_store (t:=56) (p:=21) rfl ?_);refine sx 56 21 (((w11.setCell ⟨go10,(x4_1:Int).toNat * 3,none⟩ (.int .i64 t110)).setCell ⟨go10,(x4_1:Int).toNat * 3 + 1,none⟩ (.int .i64 t111)).setCell ⟨go10,(x4_1:Int).toNat * 3 + 2,none⟩ (.int .i64 t112)) ?_;intro w13 hw;have hg:w11.grownBy w13 (some go10):=(by rw [hw];exact HP12.2);have hp_:Kd.R k56 56 w13 w.heap.size (fun _=>True) (.slice (some ⟨go10,0,none⟩) x3_1.length co10) y113:=(by rw [hw,Ny113.out];exact HP12.1);clear HP12;replace HO_3:=Aside0.mk (hp_);replace HB:=Aside0.mk ((by rw [hw];exact below_set (below_set (below_set (HB.out) GB10.out) GB10.out) GB10.out:Below w.heap.size w w13));clear hg hw hp_))
     go_roundg k1
     case measure=>have:=HK1.out;omega
     case rel=>exact ⟨(y113),(wrap64 (x4_1 + 1)),(by first|rfl|(simp;done)|(simp [*];done)),H',⟨by have:=HK1.out;omega⟩,⟨kr HO_3⟩,⟨bl⟩⟩
    ·rw [if_neg c6] at H
     have c6b0:decide (x4_1 < (l0.length:Int))=false:=decide_eq_false c6
     clear c6
     obtain rfl:=Option.some.inj H
     go_wp2
     go_ret
     exact ⟨_,er,kr HO_3,bl⟩
 ·rw [if_neg c2] at H
  exact absurd H (by simp)

/-! ### laws_toHeap: function 11 -/
def laws_toHeap.f (k:Nat) (l0_0:List (S84)) (a0_1:Int):Option ((List (S56)) × Int):=(laws_toDueS.f k l0_0).bind fun t117=>(some (t117,a0_1))
theorem laws_toHeap.mono:∀ a0 a1 k,LeO (laws_toHeap.f k a0 a1) (laws_toHeap.f (k + 1) a0 a1):=by
 intro a0 a1 k
 unfold laws_toHeap.f
 repeat' first
   | (with_reducible exact laws_toDueS.mono _ _)
   | (with_reducible exact LeO.refl _)
   | (with_reducible exact LeO.none _)
   | (with_reducible refine LeO.ite ?_ ?_)
   | (with_reducible refine LeO.bind ?_ (fun _=>?_))
   | exact laws_toDueS.mono _ _
   | exact LeO.none _
   | refine LeO.ite ?_ ?_
   | refine LeO.bind ?_ (fun _=>?_)
set_option maxHeartbeats 8000000 in
set_option maxRecDepth 100000 in
theorem laws_toHeap.calls (k:Nat) (A0_0:Option Addr) (c0_0:Nat) (l0_0:List (S84)) (a0_1:Int) (r1:List (S56)) (r2:Int) (w:World) (hr0_0:Kd.C k84 w A0_0 l0_0.length l0_0) (hc0_0:l0_0.length≤c0_0) (h:laws_toHeap.f k l0_0 a0_1=some (r1,r2)) :
  Calls Try.prog 11 #[.agg #[.slice A0_0 l0_0.length c0_0,.int .i64 a0_1]] w fun e w'=>∃ v0_:Value,e = .returned (.agg #[v0_,.int .i64 r2])∧Kd.R k56 56 w' w.heap.size (fun _=>True) v0_ r1∧Below w.heap.size w w':=by
 have hu24:=Try.underlying24
 have hu28:=Try.underlying28
 have HR0_0:=Aside0.mk hr0_0
 have HC0_0:=Aside0.mk hc0_0
 clear hr0_0 hc0_0
 have HB:=Aside0.mk (Below.refl w.heap.size w)
 have H:((laws_toDueS.f k l0_0).bind fun t117=>(some (t117,a0_1)))=some (r1,r2):=h
 clear h
 replace H:=Option.bind_eq_some_iff.mp H
 obtain ⟨t117,A20,H⟩:=H
 have A2:=Aside0.mk A20
 clear A20
 simp only [Option.some.injEq,Prod.mk.injEq] at H
 obtain ⟨rfl,rfl⟩:=H
 go_enter Try.func11,Try.ntmps11
 go_wp2_with (first|((with_reducible refine gate_dst (N:=1) rfl ?_);refine bx 1 #[.slice A0_0 l0_0.length c0_0,.int .i64 a0_1] 24 ?_;intro gb114 hg w3 hbox hb;have BK114:=Aside0.mk (hbox);have GW114:=Aside0.mk (bz hg:w.heap.size≤gb114);have GE114:=GW114;replace HB:=Aside0.mk (below_step bl hb);clear hb hbox hg)|((with_reducible refine gate_dst (N:=2) rfl ?_);refine bx 2 #[.slice none 0 0,.int .i64 0] 28 ?_;intro gb115 hg w4 hbox hb;have BK115:=Aside0.mk (hbox);have GW115:=Aside0.mk (bz hg:w.heap.size≤gb115);have GE115:=GW115;replace HB:=Aside0.mk (below_step bl hb);have NB114_115:=Aside0.mk (nl hg BK114:gb114≠gb115);have NB115_114:=Aside0.mk (nr hg BK114:gb115≠gb114);replace BK114:=Aside0.mk (blk_below (bk BK114) hb);clear hb hbox hg)|((with_reducible refine gate_dst (N:=3) rfl ?_);refine bx 3 #[.slice none 0 0,.int .i64 0] 28 ?_;intro gb116 hg w5 hbox hb;have BK116:=Aside0.mk (hbox);have GW116:=Aside0.mk (bz hg:w.heap.size≤gb116);have GE116:=GW116;replace HB:=Aside0.mk (below_step bl hb);have NB114_116:=Aside0.mk (nl hg BK114:gb114≠gb116);have NB116_114:=Aside0.mk (nr hg BK114:gb116≠gb114);replace BK114:=Aside0.mk (blk_below (bk BK114) hb);have NB115_116:=Aside0.mk (nl hg BK115:gb115≠gb116);have NB116_115:=Aside0.mk (nr hg BK115:gb116≠gb115);replace BK115:=Aside0.mk (blk_below (bk BK115) hb);clear hb hbox hg;have hnb6:=NB114_115.out;have hnc6:=NB115_114.out;have hnb7:=NB114_116.out;have hnc7:=NB116_114.out;obtain ⟨hcz8_0,hcz8_1,hfz8_0,hfz8_1⟩:=ck2 BK114.out)|((with_reducible refine gate_callee (f:=43) rfl ?_);refine gl (some 6) Try.func43 #[.slice A0_0 l0_0.length c0_0] ?_;(with_reducible refine (laws_toDueS.calls k _ _ l0_0 t117 _ ?side1 ?side2 A2.out).mono ?_);(case side1=>exact kc HR0_0);(case side2=>exact HC0_0.out);rintro e w9 ⟨v118,rfl,ho0,hb⟩;refine ⟨_,rfl,?_⟩;have HO119:=Aside0.mk (Kd.R_lower ho0 (below_size bl));replace BK114:=Aside0.mk (blk_below (bk BK114) hb);replace BK115:=Aside0.mk (blk_below (bk BK115) hb);replace BK116:=Aside0.mk (blk_below (bk BK116) hb);replace HB:=Aside0.mk (below_step bl hb);(try clear hb);(try clear hb2);(try clear hk);(try clear hi);(try clear ho0);obtain ⟨Ao10,co10,eo10⟩:=Kd.R_slice HO119.out;subst eo10;have hnb11:=NB116_115.out;have hnc11:=NB115_116.out;obtain ⟨hcz12_0,hcz12_1,hfz12_0,hfz12_1⟩:=ck2 BK116.out;obtain ⟨hcz13_0,hcz13_1,hfz13_0,hfz13_1⟩:=ck2 BK114.out;obtain ⟨hcz14_0,hcz14_1,hfz14_0,hfz14_1⟩:=ck2 BK115.out))
 refine bodyPost_ret (results_cell_row rfl _ _ gb115 28 #[.slice Ao10 t117.length co10,.int .i64 a0_1] (0,0) _ rfl (by (with_reducible repeat (first|refine blk_drewN ?_ _|refine blk_drew ?_|refine blk_alloc ?_ _));refine blk_put (cs:=#[.slice Ao10 t117.length co10,.int .i64 0]) ?_ 1 _ rfl;(with_reducible repeat (first|refine blk_drewN ?_ _|refine blk_drew ?_|refine blk_alloc ?_ _));refine blk_put (cs:=#[.slice none 0 0,.int .i64 0]) ?_ 0 _ rfl;(with_reducible repeat (first|refine blk_drewN ?_ _|refine blk_drew ?_|refine blk_alloc ?_ _));refine blk_far ?_ NB115_116.out _;(with_reducible repeat (first|refine blk_drewN ?_ _|refine blk_drew ?_|refine blk_alloc ?_ _));refine blk_far ?_ NB115_116.out _;(with_reducible repeat (first|refine blk_drewN ?_ _|refine blk_drew ?_|refine blk_alloc ?_ _));exact BK115.out) Try.underlying28 rfl (by kernel_rfl)) rfl ?_
 exact ⟨_,er,by (with_reducible repeat (first|apply Kd.R_alloc|apply Kd.R_drewN|apply Kd.R_drew));exact Kd.R_mono (Kd.R_far (p:=⟨gb115,1,none⟩) (Kd.R_far (p:=⟨gb115,0,none⟩) (Kd.R_far (p:=⟨gb116,1,none⟩) (Kd.R_far (p:=⟨gb116,0,none⟩) (Kd.R_types (Kd.R_types HO119.out BK116.out (by decide)) BK115.out (by decide)) (fun _ hk=>hk.1.2) (.slice Ao10 t117.length co10)) (fun _ hk=>hk.1.2) (.int .i64 a0_1)) (fun _ hk=>hk.2) (.slice Ao10 t117.length co10)) (fun _ hk=>hk.2) (.int .i64 a0_1)) (fun _ hk=>trivial),bl⟩

/-! ### laws_eqDue: function 75 -/
def laws_eqDue.f (a0_0:Int) (a0_1:Int) (a0_2:Int) (a1_0:Int) (a1_1:Int) (a1_2:Int):Option (Bool):=if a0_0=a1_0 then (if a0_1=a1_1 then (if a0_2=a1_2 then (some true) else (none)) else (none)) else (none)
set_option maxHeartbeats 8000000 in
set_option maxRecDepth 100000 in
theorem laws_eqDue.calls (a0_0:Int) (a0_1:Int) (a0_2:Int) (a1_0:Int) (a1_1:Int) (a1_2:Int) (r:Bool) (w:World) (h:laws_eqDue.f a0_0 a0_1 a0_2 a1_0 a1_1 a1_2=some r) :
  Calls Try.prog 75 #[.agg #[.int .i64 a0_0,.int .i64 a0_1,.int .i64 a0_2],.agg #[.int .i64 a1_0,.int .i64 a1_1,.int .i64 a1_2]] w fun e w'=>e = .returned (.bool r)∧Below w.heap.size w w':=by
 have hu56:=Try.underlying56
 have HB:=Aside0.mk (Below.refl w.heap.size w)
 have H:(if a0_0=a1_0 then (if a0_1=a1_1 then (if a0_2=a1_2 then (some true) else (none)) else (none)) else (none))=some r:=h
 clear h
 by_cases c3:a0_0=a1_0
 ·rw [if_pos c3] at H
  have c3b0:(a0_0 == a1_0)=true:=beq_iff_eq.mpr c3
  have c3b1:(a0_0 != a1_0)=false:=bne_eq_false_iff_eq.mpr c3
  clear c3
  by_cases c4:a0_1=a1_1
  case neg =>
   rw [if_neg c4] at H
   exact absurd H (by simp)
  rw [if_pos c4] at H
  have c4b0:(a0_1 == a1_1)=true:=beq_iff_eq.mpr c4
  have c4b1:(a0_1 != a1_1)=false:=bne_eq_false_iff_eq.mpr c4
  clear c4
  by_cases c5:a0_2=a1_2
  case neg =>
   rw [if_neg c5] at H
   exact absurd H (by simp)
  rw [if_pos c5] at H
  have c5b0:(a0_2 == a1_2)=true:=beq_iff_eq.mpr c5
  have c5b1:(a0_2 != a1_2)=false:=bne_eq_false_iff_eq.mpr c5
  clear c5
  obtain rfl:=Option.some.inj H
  go_enter Try.func75,Try.ntmps75
  go_wp2_with (first|((with_reducible refine gate_dst (N:=2) rfl ?_);refine bx 2 #[.int .i64 a0_0,.int .i64 a0_1,.int .i64 a0_2] 56 ?_;intro gb120 hg w6 hbox hb;have BK120:=Aside0.mk (hbox);have GW120:=Aside0.mk (bz hg:w.heap.size≤gb120);have GE120:=GW120;replace HB:=Aside0.mk (below_step bl hb);clear hb hbox hg)|((with_reducible refine gate_dst (N:=3) rfl ?_);refine bx 3 #[.int .i64 a1_0,.int .i64 a1_1,.int .i64 a1_2] 56 ?_;intro gb121 hg w7 hbox hb;have BK121:=Aside0.mk (hbox);have GW121:=Aside0.mk (bz hg:w.heap.size≤gb121);have GE121:=GW121;replace HB:=Aside0.mk (below_step bl hb);have NB120_121:=Aside0.mk (nl hg BK120:gb120≠gb121);have NB121_120:=Aside0.mk (nr hg BK120:gb121≠gb120);replace BK120:=Aside0.mk (blk_below (bk BK120) hb);clear hb hbox hg;have hnb8:=NB120_121.out;have hnc8:=NB121_120.out;obtain ⟨hcz9_0,hcz9_1,hcz9_2,hfz9_0,hfz9_1,hfz9_2⟩:=ck3 BK120.out;obtain ⟨hcz10_0,hcz10_1,hcz10_2,hfz10_0,hfz10_1,hfz10_2⟩:=ck3 BK121.out))
  go_ret
  exact ⟨er,bl⟩
 ·rw [if_neg c3] at H
  exact absurd H (by simp)

/-! ### laws_eqDueS: function 48 -/
def laws_eqDueS.l0:Nat→List (S56)→List (S56)→Int→Option (Bool)
 | 0,_,_,_=>none
 | k + 1,x0,x1,x5=>if x5 < (x0.length:Int) then (if 0≤x5 then (if x5 < (x1.length:Int) then ((laws_eqDue.f ((rd_T56 x0 x5).f0) ((rd_T56 x0 x5).f1) ((rd_T56 x0 x5).f2) ((rd_T56 x1 x5).f0) ((rd_T56 x1 x5).f1) ((rd_T56 x1 x5).f2)).bind fun t124=>(if t124=true then (laws_eqDueS.l0 k x0 x1 (wrap64 (x5 + 1))) else (none))) else (none)) else (none)) else (some true)
def laws_eqDueS.f (k:Nat) (l0:List (S56)) (l1:List (S56)):Option (Bool):=if (l0.length:Int)=(l1.length:Int) then (laws_eqDueS.l0 k l0 l1 0) else (none)
theorem laws_eqDueS.mono_l:∀ k,(∀ y0 y1 y2,LeO (laws_eqDueS.l0 k y0 y1 y2) (laws_eqDueS.l0 (k + 1) y0 y1 y2))
 | 0=>fun _ _ _ r h=>by simp [laws_eqDueS.l0] at h
 | k + 1=>by
  have ih0:=laws_eqDueS.mono_l k
  ·intro y0 y1 y2
   unfold laws_eqDueS.l0
   repeat' first
   | (with_reducible exact ih0 _ _ _)
   | (with_reducible exact LeO.refl _)
   | (with_reducible exact LeO.none _)
   | (with_reducible refine LeO.ite ?_ ?_)
   | (with_reducible refine LeO.bind ?_ (fun _=>?_))
   | exact ih0 _ _ _
   | exact LeO.none _
   | refine LeO.ite ?_ ?_
   | refine LeO.bind ?_ (fun _=>?_)
theorem laws_eqDueS.mono:∀ a0 a1 k,LeO (laws_eqDueS.f k a0 a1) (laws_eqDueS.f (k + 1) a0 a1):=by
 intro a0 a1 k
 have ih0:=laws_eqDueS.mono_l k
 unfold laws_eqDueS.f
 repeat' first
   | (with_reducible exact ih0 _ _ _)
   | (with_reducible exact LeO.refl _)
   | (with_reducible exact LeO.none _)
   | (with_reducible refine LeO.ite ?_ ?_)
   | (with_reducible refine LeO.bind ?_ (fun _=>?_))
   | exact ih0 _ _ _
   | exact LeO.none _
   | refine LeO.ite ?_ ?_
   | refine LeO.bind ?_ (fun _=>?_)
def laws_eqDueS.T6:Bool × List (List Nat × List Nat):=(true,[([],[]),([],[]),([0,1],[0,1]),([2],[2]),([],[]),([],[]),([4,5],[4,5]),([6],[6]),([3,7],[3,7]),([8],[8])])
def laws_eqDueS.B6:List Nat:=[0,0,3,7,0,0,48,112,255,511]
theorem laws_eqDueS.tab6:rtab .any (opsOf Try.f48 6)=laws_eqDueS.T6:=by kernel_rfl
theorem laws_eqDueS.bits6:waitsOk laws_eqDueS.T6.2 laws_eqDueS.B6=true:=by kernel_rfl
set_option maxHeartbeats 8000000 in
set_option maxRecDepth 100000 in
theorem laws_eqDueS.calls (k:Nat) (A0:Option Addr) (c0:Nat) (l0:List (S56)) (A1:Option Addr) (c1:Nat) (l1:List (S56)) (r:Bool) (w:World) (hr0:Kd.C k56 w A0 l0.length l0) (hc0:l0.length≤c0) (hr1:Kd.C k56 w A1 l1.length l1) (hc1:l1.length≤c1) (h:laws_eqDueS.f k l0 l1=some r) :
  Calls Try.prog 48 #[.slice A0 l0.length c0,.slice A1 l1.length c1] w fun e w'=>e = .returned (.bool r)∧Below w.heap.size w w':=by
 have hu56:=Try.underlying56
 have HR0:=Aside0.mk hr0
 have HC0:=Aside0.mk hc0
 clear hr0 hc0
 have HR1:=Aside0.mk hr1
 have HC1:=Aside0.mk hc1
 clear hr1 hc1
 have HB:=Aside0.mk (Below.refl w.heap.size w)
 have H:(if (l0.length:Int)=(l1.length:Int) then (laws_eqDueS.l0 k l0 l1 0) else (none))=some r:=h
 clear h
 by_cases c3:(l0.length:Int)=(l1.length:Int)
 ·rw [if_pos c3] at H
  have c3b0:((l0.length:Int) == (l1.length:Int))=true:=beq_iff_eq.mpr c3
  have c3b1:((l0.length:Int) != (l1.length:Int))=false:=bne_eq_false_iff_eq.mpr c3
  have c3b2:(l0.length == l1.length)=true:=by first|simpa using c3|(simp at c3 ⊢;omega)
  clear c3
  have H':=Aside0.mk H
  clear H
  go_enter Try.func48,Try.ntmps48
  go_wp2
  go_loopg [5] k (fun kq v5 w'=>∃ (x5_1:Int),v5 = .int .i64 x5_1∧Aside0 (laws_eqDueS.l0 kq l0 l1 x5_1=some r)∧Aside0 (kq≤k)∧Aside0 (Below w.heap.size w w'))
  case atStart=>exact ⟨(0),(by first|rfl|(simp;done)|(simp [*];done)),H',⟨Nat.le_refl _⟩,⟨bl⟩⟩
  case round =>
   clear H'
   try clear c1
   try clear p2
   try clear c3
   try clear c3b0
   try clear c3b1
   try clear c3b2
   obtain ⟨x5_1,rfl,HA,HK1,HB⟩:=hrel
   cases gk with
   | zero=>exact absurd HA.out (by simp [laws_eqDueS.l0])
   | succ k1 =>
    have H:=HA.out
    clear HA
    simp only [laws_eqDueS.l0] at H
    by_cases c4:x5_1 < (l0.length:Int)
    ·rw [if_pos c4] at H
     have c4b0:decide (x5_1 < (l0.length:Int))=true:=decide_eq_true c4
     clear c4
     by_cases c5:0≤x5_1
     case neg =>
      rw [if_neg c5] at H
      exact absurd H (by simp)
     rw [if_pos c5] at H
     have c5b0:decide (0≤x5_1)=true:=decide_eq_true c5
     clear c5
     by_cases c6:x5_1 < (l1.length:Int)
     case neg =>
      rw [if_neg c6] at H
      exact absurd H (by simp)
     rw [if_pos c6] at H
     have c6b0:decide (x5_1 < (l1.length:Int))=true:=decide_eq_true c6
     clear c6
     replace H:=Option.bind_eq_some_iff.mp H
     obtain ⟨t124,A70,H⟩:=H
     have A7:=Aside0.mk A70
     clear A70
     by_cases c8:t124=true
     ·subst c8
      rw [if_pos rfl] at H
      have H':=Aside0.mk H
      clear H
      try go_wp2
      replace HB:=Aside0.mk (below_drew1 HB.out)
      have p122:0≤(x5_1:Int):=od
      have q122:x5_1 < (l0.length:Int):=od
      obtain ⟨ad122,e122,hx122_0,hx122_1,hx122_2⟩:=at_T56 HR0.out x5_1 p122 q122
      have hw122_2:=hx122_2
      have hw122_1:=hx122_1
      have hw122_0:=hx122_0
      cases e122
      replace hx122_0:=cl HB hx122_0
      replace hx122_1:=cl HB hx122_1
      replace hx122_2:=cl HB hx122_2
      replace p122:=eq_true p122
      replace q122:=eq_true q122
      have p123:0≤(x5_1:Int):=od
      have q123:x5_1 < (l1.length:Int):=od
      obtain ⟨ad123,e123,hx123_0,hx123_1,hx123_2⟩:=at_T56 HR1.out x5_1 p123 q123
      have hw123_2:=hx123_2
      have hw123_1:=hx123_1
      have hw123_0:=hx123_0
      cases e123
      replace hx123_0:=cl HB hx123_0
      replace hx123_1:=cl HB hx123_1
      replace hx123_2:=cl HB hx123_2
      replace p123:=eq_true p123
      replace q123:=eq_true q123
      refine start_ (n:=10) (S:=fun w'=>w'.cell? (ad122.add ((x5_1).toNat * 3))=some (.int .i64 ((rd_T56 l0 x5_1).f0))∧w'.cell? ⟨(ad122.add ((x5_1).toNat * 3)).block,(ad122.add ((x5_1).toNat * 3)).off + 1,none⟩=some (.int .i64 ((rd_T56 l0 x5_1).f1))∧w'.cell? ⟨(ad122.add ((x5_1).toNat * 3)).block,(ad122.add ((x5_1).toNat * 3)).off + 2,none⟩=some (.int .i64 ((rd_T56 l0 x5_1).f2))∧w'.cell? (ad123.add ((x5_1).toNat * 3))=some (.int .i64 ((rd_T56 l1 x5_1).f0))∧w'.cell? ⟨(ad123.add ((x5_1).toNat * 3)).block,(ad123.add ((x5_1).toNat * 3)).off + 1,none⟩=some (.int .i64 ((rd_T56 l1 x5_1).f1))∧w'.cell? ⟨(ad123.add ((x5_1).toNat * 3)).block,(ad123.add ((x5_1).toNat * 3)).off + 2,none⟩=some (.int .i64 ((rd_T56 l1 x5_1).f2))) (ds:=[]) (bs 10 0) (by kernel_rfl) rfl rfl ⟨(cl HB hw122_0),(cl HB hw122_1),(cl HB hw122_2),(cl HB hw123_0),(cl HB hw123_1),(cl HB hw123_2)⟩ (fun hHeld=>?_);refine with_tabW laws_eqDueS.tab6 laws_eqDueS.bits6 (fun HT_ HW_=>?_)
      generalize wr.drew=w9 at HB hx122_0 hx122_1 hx122_2 hx123_0 hx123_1 hx123_2 hHeld ⊢
      refine pq 0 17 (bs 10 1) HT_ ?_
      refine pq 1 18 (bs 10 3) HT_ ?_
      refine pq 2 19 (bs 10 7) HT_ ?_
      refine pq 4 21 (bs 10 23) HT_ ?_
      refine pq 5 22 (bs 10 55) HT_ ?_
      refine pq 6 23 (bs 10 119) HT_ ?_
      refine tq 3 20 (bs 10 127) HT_ HW_ hHeld ?_
      refine tq 7 24 (bs 10 255) HT_ HW_ hHeld ?_
      refine one_ (i:=8) (N:=some 25) (bs 10 511) rfl rfl (one_of HT_.out (by kernel_rfl)) (by decide) (fun K hK=>?_)
      refine goes_ Try.func75 (by kernel_rfl) rfl #[.agg #[.int .i64 ((rd_T56 l0 x5_1).f0),.int .i64 ((rd_T56 l0 x5_1).f1),.int .i64 ((rd_T56 l0 x5_1).f2)],.agg #[.int .i64 ((rd_T56 l1 x5_1).f0),.int .i64 ((rd_T56 l1 x5_1).f1),.int .i64 ((rd_T56 l1 x5_1).f2)]] (by rfl) rfl rfl (by (try simp only [List.map_toArray,List.map_cons,List.map_nil]);first|done|rfl|(simp only [List.length_drop,List.length_take];rfl)) ?_
      with_reducible refine (laws_eqDue.calls ((rd_T56 l0 x5_1).f0) ((rd_T56 l0 x5_1).f1) ((rd_T56 l0 x5_1).f2) ((rd_T56 l1 x5_1).f0) ((rd_T56 l1 x5_1).f1) ((rd_T56 l1 x5_1).f2) true _ A7.out).mono ?_
      rintro e w10 ⟨rfl,hb⟩
      refine ⟨_,rfl,?_⟩
      replace HB:=Aside0.mk (below_step bl hb)
      (try clear hb)
      (try clear hb2)
      (try clear hk)
      (try clear hi)
      refine hK.out _ _ ⟨(cl HB hw122_0),(cl HB hw122_1),(cl HB hw122_2),(cl HB hw123_0),(cl HB hw123_1),(cl HB hw123_2)⟩ (fun hHeld=>?_)
      clear hK K
      refine nrm ?_
      refine pq 9 26 (bs 10 1023) HT_ ?_
      refine done_ (done_of HT_.out (by kernel_rfl)) ?_
      try go_wp2
      go_roundg k1
      case measure=>have:=HK1.out;omega
      case rel=>exact ⟨(wrap64 (x5_1 + 1)),(by first|rfl|(simp;done)|(simp [*];done)),H',⟨by have:=HK1.out;omega⟩,⟨bl⟩⟩
     ·replace c8:=Bool.eq_false_iff.mpr c8
      subst c8
      rw [if_neg nft] at H
      exact absurd H (by simp)
    ·rw [if_neg c4] at H
     have c4b0:decide (x5_1 < (l0.length:Int))=false:=decide_eq_false c4
     clear c4
     obtain rfl:=Option.some.inj H
     go_wp2
     go_ret
     exact ⟨er,bl⟩
 ·rw [if_neg c3] at H
  exact absurd H (by simp)

/-! ### laws_eqHeap: function 13 -/
def laws_eqHeap.f (k:Nat) (l0_0:List (S56)) (a0_1:Int) (l1_0:List (S56)) (a1_1:Int):Option (Bool):=(laws_eqDueS.f k l0_0 l1_0).bind fun t127=>(if t127=true then (if a0_1=a1_1 then (some true) else (none)) else (none))
theorem laws_eqHeap.mono:∀ a0 a1 a2 a3 k,LeO (laws_eqHeap.f k a0 a1 a2 a3) (laws_eqHeap.f (k + 1) a0 a1 a2 a3):=by
 intro a0 a1 a2 a3 k
 unfold laws_eqHeap.f
 repeat' first
   | (with_reducible exact laws_eqDueS.mono _ _ _)
   | (with_reducible exact LeO.refl _)
   | (with_reducible exact LeO.none _)
   | (with_reducible refine LeO.ite ?_ ?_)
   | (with_reducible refine LeO.bind ?_ (fun _=>?_))
   | exact laws_eqDueS.mono _ _ _
   | exact LeO.none _
   | refine LeO.ite ?_ ?_
   | refine LeO.bind ?_ (fun _=>?_)
set_option maxHeartbeats 8000000 in
set_option maxRecDepth 100000 in
theorem laws_eqHeap.calls (k:Nat) (A0_0:Option Addr) (c0_0:Nat) (l0_0:List (S56)) (a0_1:Int) (A1_0:Option Addr) (c1_0:Nat) (l1_0:List (S56)) (a1_1:Int) (r:Bool) (w:World) (hr0_0:Kd.C k56 w A0_0 l0_0.length l0_0) (hc0_0:l0_0.length≤c0_0) (hr1_0:Kd.C k56 w A1_0 l1_0.length l1_0) (hc1_0:l1_0.length≤c1_0) (h:laws_eqHeap.f k l0_0 a0_1 l1_0 a1_1=some r) :
  Calls Try.prog 13 #[.agg #[.slice A0_0 l0_0.length c0_0,.int .i64 a0_1],.agg #[.slice A1_0 l1_0.length c1_0,.int .i64 a1_1]] w fun e w'=>e = .returned (.bool r)∧Below w.heap.size w w':=by
 have hu28:=Try.underlying28
 have HR0_0:=Aside0.mk hr0_0
 have HC0_0:=Aside0.mk hc0_0
 clear hr0_0 hc0_0
 have HR1_0:=Aside0.mk hr1_0
 have HC1_0:=Aside0.mk hc1_0
 clear hr1_0 hc1_0
 have HB:=Aside0.mk (Below.refl w.heap.size w)
 have H:((laws_eqDueS.f k l0_0 l1_0).bind fun t127=>(if t127=true then (if a0_1=a1_1 then (some true) else (none)) else (none)))=some r:=h
 clear h
 replace H:=Option.bind_eq_some_iff.mp H
 obtain ⟨t127,A30,H⟩:=H
 have A3:=Aside0.mk A30
 clear A30
 by_cases c4:t127=true
 ·subst c4
  rw [if_pos rfl] at H
  by_cases c5:a0_1=a1_1
  case neg =>
   rw [if_neg c5] at H
   exact absurd H (by simp)
  rw [if_pos c5] at H
  have c5b0:(a0_1 == a1_1)=true:=beq_iff_eq.mpr c5
  have c5b1:(a0_1 != a1_1)=false:=bne_eq_false_iff_eq.mpr c5
  clear c5
  obtain rfl:=Option.some.inj H
  go_enter Try.func13,Try.ntmps13
  go_wp2_with (first|((with_reducible refine gate_dst (N:=2) rfl ?_);refine bx 2 #[.slice A0_0 l0_0.length c0_0,.int .i64 a0_1] 28 ?_;intro gb125 hg w6 hbox hb;have BK125:=Aside0.mk (hbox);have GW125:=Aside0.mk (bz hg:w.heap.size≤gb125);have GE125:=GW125;replace HB:=Aside0.mk (below_step bl hb);clear hb hbox hg)|((with_reducible refine gate_dst (N:=3) rfl ?_);refine bx 3 #[.slice A1_0 l1_0.length c1_0,.int .i64 a1_1] 28 ?_;intro gb126 hg w7 hbox hb;have BK126:=Aside0.mk (hbox);have GW126:=Aside0.mk (bz hg:w.heap.size≤gb126);have GE126:=GW126;replace HB:=Aside0.mk (below_step bl hb);have NB125_126:=Aside0.mk (nl hg BK125:gb125≠gb126);have NB126_125:=Aside0.mk (nr hg BK125:gb126≠gb125);replace BK125:=Aside0.mk (blk_below (bk BK125) hb);clear hb hbox hg;have hnb8:=NB125_126.out;have hnc8:=NB126_125.out;obtain ⟨hcz9_0,hcz9_1,hfz9_0,hfz9_1⟩:=ck2 BK125.out;obtain ⟨hcz10_0,hcz10_1,hfz10_0,hfz10_1⟩:=ck2 BK126.out)|((with_reducible refine gate_callee (f:=48) rfl ?_);refine gl (some 9) Try.func48 #[.slice A0_0 l0_0.length c0_0,.slice A1_0 l1_0.length c1_0] ?_;(with_reducible refine (laws_eqDueS.calls k _ _ l0_0 _ _ l1_0 true _ ?side1 ?side2 ?side3 ?side4 A3.out).mono ?_);(case side1=>exact kc HR0_0);(case side2=>exact HC0_0.out);(case side3=>exact kc HR1_0);(case side4=>exact HC1_0.out);rintro e w11 ⟨rfl,hb⟩;refine ⟨_,rfl,?_⟩;replace BK125:=Aside0.mk (blk_below (bk BK125) hb);replace BK126:=Aside0.mk (blk_below (bk BK126) hb);replace HB:=Aside0.mk (below_step bl hb);(try clear hb);(try clear hb2);(try clear hk);(try clear hi);obtain ⟨hcz12_0,hcz12_1,hfz12_0,hfz12_1⟩:=ck2 BK125.out;obtain ⟨hcz13_0,hcz13_1,hfz13_0,hfz13_1⟩:=ck2 BK126.out))
  go_ret
  exact ⟨er,bl⟩
 ·replace c4:=Bool.eq_false_iff.mpr c4
  subst c4
  rw [if_neg nft] at H
  exact absurd H (by simp)

/-! ### laws_markDueS: function 49 -/
def laws_markDueS.l0:Nat→List (S56)→Int→Int→Option (Int × (List (S56)))
 | 0,_,_,_=>none
 | k + 1,x0,x1,x5=>if x5 < (x0.length:Int) then (if 0≤x5 then ((some (x0.set (x5:Int).toNat (⟨x1,(rd_T56 x0 x5).f1,(rd_T56 x0 x5).f2⟩:S56):List (S56))).bind fun y128=>((some (y128.set (x5:Int).toNat (⟨(rd_T56 y128 x5).f0,wrap64 (x1 + 1),(rd_T56 y128 x5).f2⟩:S56):List (S56))).bind fun y129=>(laws_markDueS.l0 k (y129.set (x5:Int).toNat (⟨(rd_T56 y129 x5).f0,(rd_T56 y129 x5).f1,wrap64 ((wrap64 (x1 + 1)) + 1)⟩:S56)) (wrap64 ((wrap64 ((wrap64 (x1 + 1)) + 1)) + 1)) (wrap64 (x5 + 1))))) else (none)) else (some (x1,x0))
def laws_markDueS.f (k:Nat) (l0:List (S56)) (a1:Int):Option (Int × (List (S56))):=laws_markDueS.l0 k l0 a1 0
theorem laws_markDueS.mono_l:∀ k,(∀ y0 y1 y2,LeO (laws_markDueS.l0 k y0 y1 y2) (laws_markDueS.l0 (k + 1) y0 y1 y2))
 | 0=>fun _ _ _ r h=>by simp [laws_markDueS.l0] at h
 | k + 1=>by
  have ih0:=laws_markDueS.mono_l k
  ·intro y0 y1 y2
   unfold laws_markDueS.l0
   repeat' first
   | (with_reducible exact ih0 _ _ _)
   | (with_reducible exact LeO.refl _)
   | (with_reducible exact LeO.none _)
   | (with_reducible refine LeO.ite ?_ ?_)
   | (with_reducible refine LeO.bind ?_ (fun _=>?_))
   | exact ih0 _ _ _
   | exact LeO.none _
   | refine LeO.ite ?_ ?_
   | refine LeO.bind ?_ (fun _=>?_)
theorem laws_markDueS.mono:∀ a0 a1 k,LeO (laws_markDueS.f k a0 a1) (laws_markDueS.f (k + 1) a0 a1):=by
 intro a0 a1 k
 have ih0:=laws_markDueS.mono_l k
 unfold laws_markDueS.f
 repeat' first
   | (with_reducible exact ih0 _ _ _)
   | (with_reducible exact LeO.refl _)
   | (with_reducible exact LeO.none _)
   | (with_reducible refine LeO.ite ?_ ?_)
   | (with_reducible refine LeO.bind ?_ (fun _=>?_))
   | exact ih0 _ _ _
   | exact LeO.none _
   | refine LeO.ite ?_ ?_
   | refine LeO.bind ?_ (fun _=>?_)
set_option maxHeartbeats 8000000 in
set_option maxRecDepth 100000 in
theorem laws_markDueS.calls (k:Nat) (P0_:Nat→Prop) (u9000_:Value) (l0:List (S56)) (a1:Int) (r1:Int) (r2:List (S56)) (w0 w:World) (hB:Below w0.heap.size w0 w) (ho0:Kd.R k56 56 w w0.heap.size P0_ u9000_ l0) (h:laws_markDueS.f k l0 a1=some (r1,r2)) :
  Calls Try.prog 49 #[u9000_,.int .i64 a1] w fun e w'=>e = .returned (.int .i64 r1)∧Kd.R k56 56 w' w0.heap.size (fun k_=>(P0_ k_∨w.heap.size≤k_)) u9000_ r2∧Below w0.heap.size w0 w'∧Kept w w' (fun k_=>P0_ k_):=by
 have HO0:=Aside0.mk (show Kd.R k56 56 w w0.heap.size (fun k_=>(P0_ k_∨w.heap.size≤k_)) u9000_ l0 from Kd.R_mono ho0 (fun k_ hk=>(.inl hk)))
 have HK:=Aside0.mk (Kept.refl w (fun k_=>P0_ k_))
 have HW0:=Aside0.mk hB.size
 have HB:=Aside0.mk hB
 clear hB
 have H:(laws_markDueS.l0 k l0 a1 0)=some (r1,r2):=h
 clear h
 have H':=Aside0.mk H
 clear H
 go_enter Try.func49,Try.ntmps49
 go_wp2
 go_loopg [1,5] k (fun kq v1 v5 w'=>∃ (x0_1:List (S56)) (x1_1:Int) (x5_1:Int),v1 = .int .i64 x1_1∧v5 = .int .i64 x5_1∧Aside0 (laws_markDueS.l0 kq x0_1 x1_1 x5_1=some (r1,r2))∧Aside0 (kq≤k)∧Aside0 (Kd.R k56 56 w' w0.heap.size (fun k_=>(P0_ k_∨w.heap.size≤k_)) u9000_ x0_1)∧Aside0 (Kept w w' (fun k_=>P0_ k_))∧Aside0 (Below w0.heap.size w0 w'))
 case atStart=>exact ⟨(l0),(a1),(0),(by first|rfl|(simp;done)|(simp [*];done)),(by first|rfl|(simp;done)|(simp [*];done)),H',⟨Nat.le_refl _⟩,⟨kr HO0⟩,⟨by repeat (first|(with_reducible first|exact HK.out|apply Kept.alloc|apply Kept.drewN|apply Kept.drew)|exact HK.out)⟩,⟨bl⟩⟩
 case round =>
  clear H'
  try clear p2
  obtain ⟨x0_1,x1_1,x5_1,rfl,rfl,HA,HK1,HO_0,HK,HB⟩:=hrel
  cases gk with
  | zero=>exact absurd HA.out (by simp [laws_markDueS.l0])
  | succ k1 =>
   have H:=HA.out
   clear HA
   simp only [laws_markDueS.l0] at H
   by_cases c3:x5_1 < (x0_1.length:Int)
   ·rw [if_pos c3] at H
    have c3b0:decide (x5_1 < (x0_1.length:Int))=true:=decide_eq_true c3
    clear c3
    by_cases c4:0≤x5_1
    case neg =>
     rw [if_neg c4] at H
     exact absurd H (by simp)
    rw [if_pos c4] at H
    have c4b0:decide (0≤x5_1)=true:=decide_eq_true c4
    clear c4
    obtain ⟨y128,hy128⟩:∃ y_:List (S56),y_=(x0_1.set (x5_1:Int).toNat (⟨x1_1,(rd_T56 x0_1 x5_1).f1,(rd_T56 x0_1 x5_1).f2⟩:S56)):=⟨_,rfl⟩
    replace H:((some (y128.set (x5_1:Int).toNat (⟨(rd_T56 y128 x5_1).f0,wrap64 (x1_1 + 1),(rd_T56 y128 x5_1).f2⟩:S56):List (S56))).bind fun y129=>(laws_markDueS.l0 k1 (y129.set (x5_1:Int).toNat (⟨(rd_T56 y129 x5_1).f0,(rd_T56 y129 x5_1).f1,wrap64 ((wrap64 (x1_1 + 1)) + 1)⟩:S56)) (wrap64 ((wrap64 ((wrap64 (x1_1 + 1)) + 1)) + 1)) (wrap64 (x5_1 + 1))))=some (r1,r2):=by first|(rw [hy128];with_reducible exact H)|(have H2_:=(Option.bind_some _ _).symm.trans H;rw [hy128];with_reducible exact H2_)|(have H2_:=(Option.bind_some _ _).symm.trans H;with_reducible exact H2_)|with_reducible exact H|(rw [hy128];exact H)|exact H
    have Ny128:=Aside0.mk hy128
    clear hy128
    obtain ⟨y129,hy129⟩:∃ y_:List (S56),y_=(y128.set (x5_1:Int).toNat (⟨(rd_T56 y128 x5_1).f0,wrap64 (x1_1 + 1),(rd_T56 y128 x5_1).f2⟩:S56)):=⟨_,rfl⟩
    replace H:(laws_markDueS.l0 k1 (y129.set (x5_1:Int).toNat (⟨(rd_T56 y129 x5_1).f0,(rd_T56 y129 x5_1).f1,wrap64 ((wrap64 (x1_1 + 1)) + 1)⟩:S56)) (wrap64 ((wrap64 ((wrap64 (x1_1 + 1)) + 1)) + 1)) (wrap64 (x5_1 + 1)))=some (r1,r2):=by first|(rw [hy129];with_reducible exact H)|(have H2_:=(Option.bind_some _ _).symm.trans H;rw [hy129];with_reducible exact H2_)|(have H2_:=(Option.bind_some _ _).symm.trans H;with_reducible exact H2_)|with_reducible exact H|(rw [hy129];exact H)|exact H
    have Ny129:=Aside0.mk hy129
    clear hy129
    obtain ⟨y130,hy130⟩:∃ y_:List (S56),y_=(y129.set (x5_1:Int).toNat (⟨(rd_T56 y129 x5_1).f0,(rd_T56 y129 x5_1).f1,wrap64 ((wrap64 (x1_1 + 1)) + 1)⟩:S56)):=⟨_,rfl⟩
    replace H:(laws_markDueS.l0 k1 y130 (wrap64 ((wrap64 ((wrap64 (x1_1 + 1)) + 1)) + 1)) (wrap64 (x5_1 + 1)))=some (r1,r2):=by first|(rw [hy130];with_reducible exact H)|(have H2_:=(Option.bind_some _ _).symm.trans H;rw [hy130];with_reducible exact H2_)|(have H2_:=(Option.bind_some _ _).symm.trans H;with_reducible exact H2_)|with_reducible exact H|(rw [hy130];exact H)|exact H
    have Ny130:=Aside0.mk hy130
    clear hy130
    have H':=Aside0.mk H
    clear H
    obtain ⟨Ao8,co8,eo8⟩:=Kd.R_slice HO_0.out
    subst eo8
    have p5:0≤(x5_1:Int):=od
    have q5:(x5_1:Int) < ((x0_1.length:Int):Int):=od
    obtain ⟨go5,co5,eo5,gb5,gl5,cl5,HG5⟩:=Kd.R_form HO_0.out (by omega)
    (first|cases eo5|(injection eo5 with ea_ en_ ec_;(first|subst ea_|(injection ea_ with ea_;subst ea_));subst ec_;clear en_))
    have GB5:=Aside0.mk gb5
    have GG5:=Aside0.mk HG5
    clear gb5 gl5 HG5
    have HMgo5:=Aside0.mk (show (P0_ go5∨w.heap.size≤go5) from (HO_0.out.1 _ rfl))
    obtain ⟨ce5,hcl5,hM5,hcc5,hfr5⟩:=Kd.R_elem HO_0.out z56 (x5_1:Int) p5 q5
    obtain rfl:=k56_openM hM5
    have hx5_0:wr.cell? ⟨go5,(x5_1:Int).toNat * 3,none⟩=some (.int .i64 ((rd_T56 x0_1 x5_1).f0)):=hcc5 0 _ rfl
    have hx5_1:wr.cell? ⟨go5,(x5_1:Int).toNat * 3 + 1,none⟩=some (.int .i64 ((rd_T56 x0_1 x5_1).f1)):=hcc5 1 _ rfl
    have hx5_2:wr.cell? ⟨go5,(x5_1:Int).toNat * 3 + 2,none⟩=some (.int .i64 ((rd_T56 x0_1 x5_1).f2)):=hcc5 2 _ rfl
    have hf5_0:wr.frozen? ⟨go5,(x5_1:Int).toNat * 3,none⟩=false:=hfr5 0
    have hf5_1:wr.frozen? ⟨go5,(x5_1:Int).toNat * 3 + 1,none⟩=false:=hfr5 1
    have hf5_2:wr.frozen? ⟨go5,(x5_1:Int).toNat * 3 + 2,none⟩=false:=hfr5 2
    clear hcl5 hcc5 hfr5 hM5
    replace p5:=eq_true p5
    replace q5:=eq_true q5
    have HX9:=Aside0.mk (show Kd.R k56 56 wr w0.heap.size (fun k_=>(P0_ k_∨w.heap.size≤k_)) (.slice (some ⟨go5,0,none⟩) x0_1.length co8) x0_1 from (kr HO_0))
    obtain ⟨ce9,hcl9,hM9,hcc9,hfr9⟩:=Kd.R_elem HX9.out z56 (x5_1:Int) od (by have h_:(x5_1:Int) < ((x0_1.length:Int):Int):=od;first|exact h_|(have e_:=(Kd.R_reads' HO_0.out).1;omega)|simpa using h_)
    obtain rfl:=k56_openM hM9
    have HP9:=Kd.R_seg HX9.out (x5_1:Int) od (by have h_:(x5_1:Int) < ((x0_1.length:Int):Int):=od;first|exact h_|(have e_:=(Kd.R_reads' HO_0.out).1;omega)|simpa using h_) (seg:=[.int .i64 x1_1]) (j:=0) hcl9 hcc9 (show 1≤3 from by decide) (x':=(⟨x1_1,(rd_T56 x0_1 x5_1).f1,(rd_T56 x0_1 x5_1).f2⟩:S56)) (k56_mkM _ _ _ (⟨x1_1,(rd_T56 x0_1 x5_1).f1,(rd_T56 x0_1 x5_1).f2⟩:S56) ) (fun _ hk=>hk)
    have hx9_0:=hcc9 0 _ rfl
    (try simp only [show (k56).sz=3 from rfl,Nat.mul_one,Nat.add_zero] at hx9_0)
    have hf9_0:=hfr9 0
    (try simp only [show (k56).sz=3 from rfl,Nat.mul_one,Nat.add_zero] at hf9_0)
    clear hcl9 hcc9 hfr9 hM9
    go_wp2_with (first|((with_reducible refine gate_store (t:=3) (p:=16) rfl ?_);refine sx 3 16 (wr.setCell ⟨go5,(x5_1:Int).toNat * 3,none⟩ (.int .i64 x1_1)) ?_;intro w10 hw;have hg:wr.grownBy w10 (some go5):=(by rw [hw];exact HP9.2);have hp_:Kd.R k56 56 w10 w0.heap.size (fun k_=>(P0_ k_∨w.heap.size≤k_)) (.slice (some ⟨go5,0,none⟩) x0_1.length co8) y128:=(by rw [hw,Ny128.out];exact HP9.1);clear HP9;replace HB:=Aside0.mk ((by rw [hw];exact below_set (HB.out) GB5.out:Below w0.heap.size w0 w10));replace HK:=Aside0.mk (Kept.of_grown (S:=(fun k_=>P0_ k_)) hg (by repeat (first|(with_reducible first|exact HK.out|apply Kept.alloc|apply Kept.drewN|apply Kept.drew)|exact HK.out)) (fun k_ e_=>(HO_0.out.1 k_ e_)));replace HO_0:=Aside0.mk (hp_);clear hg hw hp_;have p6:0≤(x5_1:Int):=od;have q6:(x5_1:Int) < ((x0_1.length:Int):Int):=od;obtain ⟨ce6,hcl6,hM6,hcc6,hfr6⟩:=Kd.R_elem HO_0.out z56 (x5_1:Int) p6 q6;obtain rfl:=k56_openM hM6;have hx6_0:w10.cell? ⟨go5,(x5_1:Int).toNat * 3,none⟩=some (.int .i64 ((rd_T56 y128 x5_1).f0)):=hcc6 0 _ rfl;have hx6_1:w10.cell? ⟨go5,(x5_1:Int).toNat * 3 + 1,none⟩=some (.int .i64 ((rd_T56 y128 x5_1).f1)):=hcc6 1 _ rfl;have hx6_2:w10.cell? ⟨go5,(x5_1:Int).toNat * 3 + 2,none⟩=some (.int .i64 ((rd_T56 y128 x5_1).f2)):=hcc6 2 _ rfl;have hf6_0:w10.frozen? ⟨go5,(x5_1:Int).toNat * 3,none⟩=false:=hfr6 0;have hf6_1:w10.frozen? ⟨go5,(x5_1:Int).toNat * 3 + 1,none⟩=false:=hfr6 1;have hf6_2:w10.frozen? ⟨go5,(x5_1:Int).toNat * 3 + 2,none⟩=false:=hfr6 2;clear hcl6 hcc6 hfr6 hM6;replace p6:=eq_true p6;replace q6:=eq_true q6;have HX11:=Aside0.mk (show Kd.R k56 56 w10 w0.heap.size (fun k_=>(P0_ k_∨w.heap.size≤k_)) (.slice (some ⟨go5,0,none⟩) x0_1.length co8) y128 from (kr HO_0));obtain ⟨ce11,hcl11,hM11,hcc11,hfr11⟩:=Kd.R_elem HX11.out z56 (x5_1:Int) od (by have h_:(x5_1:Int) < ((x0_1.length:Int):Int):=od;first|exact h_|(have e_:=(Kd.R_reads' HO_0.out).1;omega)|simpa using h_);obtain rfl:=k56_openM hM11;have HP11:=Kd.R_seg HX11.out (x5_1:Int) od (by have h_:(x5_1:Int) < ((x0_1.length:Int):Int):=od;first|exact h_|(have e_:=(Kd.R_reads' HO_0.out).1;omega)|simpa using h_) (seg:=[.int .i64 (wrap64 (x1_1 + 1))]) (j:=1) hcl11 hcc11 (show 2≤3 from by decide) (x':=(⟨(rd_T56 y128 x5_1).f0,wrap64 (x1_1 + 1),(rd_T56 y128 x5_1).f2⟩:S56)) (k56_mkM _ _ _ (⟨(rd_T56 y128 x5_1).f0,wrap64 (x1_1 + 1),(rd_T56 y128 x5_1).f2⟩:S56) ) (fun _ hk=>hk);have hx11_1:=hcc11 1 _ rfl;(try simp only [show (k56).sz=3 from rfl,Nat.mul_one,Nat.add_zero] at hx11_1);have hf11_1:=hfr11 1;(try simp only [show (k56).sz=3 from rfl,Nat.mul_one,Nat.add_zero] at hf11_1);clear hcl11 hcc11 hfr11 hM11)|((with_reducible refine gate_store (t:=3) (p:=23) rfl ?_);refine sx 3 23 (w10.setCell ⟨go5,(x5_1:Int).toNat * 3 + 1,none⟩ (.int .i64 (wrap64 (x1_1 + 1)))) ?_;intro w12 hw;have hg:w10.grownBy w12 (some go5):=(by rw [hw];exact HP11.2);have hp_:Kd.R k56 56 w12 w0.heap.size (fun k_=>(P0_ k_∨w.heap.size≤k_)) (.slice (some ⟨go5,0,none⟩) x0_1.length co8) y129:=(by rw [hw,Ny129.out];exact HP11.1);clear HP11;replace HB:=Aside0.mk ((by rw [hw];exact below_set (HB.out) GB5.out:Below w0.heap.size w0 w12));replace HK:=Aside0.mk (Kept.of_grown (S:=(fun k_=>P0_ k_)) hg (by repeat (first|(with_reducible first|exact HK.out|apply Kept.alloc|apply Kept.drewN|apply Kept.drew)|exact HK.out)) (fun k_ e_=>(HO_0.out.1 k_ e_)));replace HO_0:=Aside0.mk (hp_);clear hg hw hp_;have p7:0≤(x5_1:Int):=od;have q7:(x5_1:Int) < ((x0_1.length:Int):Int):=od;obtain ⟨ce7,hcl7,hM7,hcc7,hfr7⟩:=Kd.R_elem HO_0.out z56 (x5_1:Int) p7 q7;obtain rfl:=k56_openM hM7;have hx7_0:w12.cell? ⟨go5,(x5_1:Int).toNat * 3,none⟩=some (.int .i64 ((rd_T56 y129 x5_1).f0)):=hcc7 0 _ rfl;have hx7_1:w12.cell? ⟨go5,(x5_1:Int).toNat * 3 + 1,none⟩=some (.int .i64 ((rd_T56 y129 x5_1).f1)):=hcc7 1 _ rfl;have hx7_2:w12.cell? ⟨go5,(x5_1:Int).toNat * 3 + 2,none⟩=some (.int .i64 ((rd_T56 y129 x5_1).f2)):=hcc7 2 _ rfl;have hf7_0:w12.frozen? ⟨go5,(x5_1:Int).toNat * 3,none⟩=false:=hfr7 0;have hf7_1:w12.frozen? ⟨go5,(x5_1:Int).toNat * 3 + 1,none⟩=false:=hfr7 1;have hf7_2:w12.frozen? ⟨go5,(x5_1:Int).toNat * 3 + 2,none⟩=false:=hfr7 2;clear hcl7 hcc7 hfr7 hM7;replace p7:=eq_true p7;replace q7:=eq_true q7;have HX13:=Aside0.mk (show Kd.R k56 56 w12 w0.heap.size (fun k_=>(P0_ k_∨w.heap.size≤k_)) (.slice (some ⟨go5,0,none⟩) x0_1.length co8) y129 from (kr HO_0));obtain ⟨ce13,hcl13,hM13,hcc13,hfr13⟩:=Kd.R_elem HX13.out z56 (x5_1:Int) od (by have h_:(x5_1:Int) < ((x0_1.length:Int):Int):=od;first|exact h_|(have e_:=(Kd.R_reads' HO_0.out).1;omega)|simpa using h_);obtain rfl:=k56_openM hM13;have HP13:=Kd.R_seg HX13.out (x5_1:Int) od (by have h_:(x5_1:Int) < ((x0_1.length:Int):Int):=od;first|exact h_|(have e_:=(Kd.R_reads' HO_0.out).1;omega)|simpa using h_) (seg:=[.int .i64 (wrap64 ((wrap64 (x1_1 + 1)) + 1))]) (j:=2) hcl13 hcc13 (show 3≤3 from by decide) (x':=(⟨(rd_T56 y129 x5_1).f0,(rd_T56 y129 x5_1).f1,wrap64 ((wrap64 (x1_1 + 1)) + 1)⟩:S56)) (k56_mkM _ _ _ (⟨(rd_T56 y129 x5_1).f0,(rd_T56 y129 x5_1).f1,wrap64 ((wrap64 (x1_1 + 1)) + 1)⟩:S56) ) (fun _ hk=>hk);have hx13_2:=hcc13 2 _ rfl;(try simp only [show (k56).sz=3 from rfl,Nat.mul_one,Nat.add_zero] at hx13_2);have hf13_2:=hfr13 2;(try simp only [show (k56).sz=3 from rfl,Nat.mul_one,Nat.add_zero] at hf13_2);clear hcl13 hcc13 hfr13 hM13)|((with_reducible refine gate_store (t:=3) (p:=30) rfl ?_);refine sx 3 30 (w12.setCell ⟨go5,(x5_1:Int).toNat * 3 + 2,none⟩ (.int .i64 (wrap64 ((wrap64 (x1_1 + 1)) + 1)))) ?_;intro w14 hw;have hg:w12.grownBy w14 (some go5):=(by rw [hw];exact HP13.2);have hp_:Kd.R k56 56 w14 w0.heap.size (fun k_=>(P0_ k_∨w.heap.size≤k_)) (.slice (some ⟨go5,0,none⟩) x0_1.length co8) y130:=(by rw [hw,Ny130.out];exact HP13.1);clear HP13;replace HB:=Aside0.mk ((by rw [hw];exact below_set (HB.out) GB5.out:Below w0.heap.size w0 w14));replace HK:=Aside0.mk (Kept.of_grown (S:=(fun k_=>P0_ k_)) hg (by repeat (first|(with_reducible first|exact HK.out|apply Kept.alloc|apply Kept.drewN|apply Kept.drew)|exact HK.out)) (fun k_ e_=>(HO_0.out.1 k_ e_)));replace HO_0:=Aside0.mk (hp_);clear hg hw hp_))
    go_roundg k1
    case measure=>have:=HK1.out;omega
    case rel=>exact ⟨(y130),(wrap64 ((wrap64 ((wrap64 (x1_1 + 1)) + 1)) + 1)),(wrap64 (x5_1 + 1)),(by first|rfl|(simp;done)|(simp [*];done)),(by first|rfl|(simp;done)|(simp [*];done)),H',⟨by have:=HK1.out;omega⟩,⟨kr HO_0⟩,⟨by repeat (first|(with_reducible first|exact HK.out|apply Kept.alloc|apply Kept.drewN|apply Kept.drew)|exact HK.out)⟩,⟨bl⟩⟩
   ·rw [if_neg c3] at H
    have c3b0:decide (x5_1 < (x0_1.length:Int))=false:=decide_eq_false c3
    clear c3
    simp only [Option.some.injEq,Prod.mk.injEq] at H
    obtain ⟨rfl,rfl⟩:=H
    obtain ⟨Ao15,co15,eo15⟩:=Kd.R_slice HO_0.out
    subst eo15
    go_wp2
    go_ret
    exact ⟨er,kr HO_0,bl,by repeat (first|(with_reducible first|exact HK.out|apply Kept.alloc|apply Kept.drewN|apply Kept.drew)|exact HK.out)⟩

/-! ### laws_markHeap: function 14 -/
def laws_markHeap.f (k:Nat) (l0_0:List (S56)) (a0_1:Int) (a1:Int):Option (Int × (List (S56))):=(laws_markDueS.f k l0_0 a1).bind fun bt132=>(some (bt132.1,bt132.2))
theorem laws_markHeap.mono:∀ a0 a1 a2 k,LeO (laws_markHeap.f k a0 a1 a2) (laws_markHeap.f (k + 1) a0 a1 a2):=by
 intro a0 a1 a2 k
 unfold laws_markHeap.f
 repeat' first
   | (with_reducible exact laws_markDueS.mono _ _ _)
   | (with_reducible exact LeO.refl _)
   | (with_reducible exact LeO.none _)
   | (with_reducible refine LeO.ite ?_ ?_)
   | (with_reducible refine LeO.bind ?_ (fun _=>?_))
   | exact laws_markDueS.mono _ _ _
   | exact LeO.none _
   | refine LeO.ite ?_ ?_
   | refine LeO.bind ?_ (fun _=>?_)
set_option maxHeartbeats 8000000 in
set_option maxRecDepth 100000 in
theorem laws_markHeap.calls (k:Nat) (P0_0_:Nat→Prop) (u9000_:Value) (l0_0:List (S56)) (a0_1:Int) (a1:Int) (r1:Int) (r2:List (S56)) (w0 w:World) (hB:Below w0.heap.size w0 w) (ho0_0:Kd.R k56 56 w w0.heap.size P0_0_ u9000_ l0_0) (h:laws_markHeap.f k l0_0 a0_1 a1=some (r1,r2)) :
  Calls Try.prog 14 #[.agg #[u9000_,.int .i64 a0_1],.int .i64 a1] w fun e w'=>e = .returned (.int .i64 r1)∧Kd.R k56 56 w' w0.heap.size (fun k_=>(P0_0_ k_∨w.heap.size≤k_)) u9000_ r2∧Below w0.heap.size w0 w'∧Kept w w' (fun k_=>P0_0_ k_):=by
 have hu28:=Try.underlying28
 have HO0_0:=Aside0.mk (show Kd.R k56 56 w w0.heap.size (fun k_=>(P0_0_ k_∨w.heap.size≤k_)) u9000_ l0_0 from Kd.R_mono ho0_0 (fun k_ hk=>(.inl hk)))
 have HK:=Aside0.mk (Kept.refl w (fun k_=>P0_0_ k_))
 have HW0:=Aside0.mk hB.size
 have HB:=Aside0.mk hB
 clear hB
 have H:((laws_markDueS.f k l0_0 a1).bind fun bt132=>(some (bt132.1,bt132.2)))=some (r1,r2):=h
 clear h
 replace H:=Option.bind_eq_some_iff.mp H
 obtain ⟨⟨t132,t133⟩,A30,H⟩:=H
 replace H:(some (t132,t133))=some (r1,r2):=H
 have A3:=Aside0.mk A30
 clear A30
 simp only [Option.some.injEq,Prod.mk.injEq] at H
 obtain ⟨rfl,rfl⟩:=H
 obtain ⟨Ao4,co4,eo4⟩:=Kd.R_slice HO0_0.out
 subst eo4
 go_enter Try.func14,Try.ntmps14
 go_wp2_with (first|((with_reducible refine gate_dst (N:=2) rfl ?_);refine bx 2 #[.slice Ao4 l0_0.length co4,.int .i64 a0_1] 28 ?_;intro gb131 hg w5 hbox hb;replace HO0_0:=Aside0.mk (Kd.R_below (kr HO0_0) hb);have BK131:=Aside0.mk (hbox);have GW131:=Aside0.mk ((by rw [hg];exact (by first|exact HK.out.1|exact (show Kept w _ (fun k_=>P0_0_ k_) from by repeat (first|(with_reducible first|exact HK.out|apply Kept.alloc|apply Kept.drewN|apply Kept.drew)|exact HK.out)).1):w.heap.size≤gb131));replace HK:=Aside0.mk (Kept.below (S:=(fun k_=>P0_0_ k_)) (by repeat (first|(with_reducible first|exact HK.out|apply Kept.alloc|apply Kept.drewN|apply Kept.drew)|exact HK.out)) hb);have GE131:=Aside0.mk (bz hg:w0.heap.size≤gb131);replace HB:=Aside0.mk (below_step bl hb);clear hb hbox hg;obtain ⟨hcz6_0,hcz6_1,hfz6_0,hfz6_1⟩:=ck2 BK131.out)|((with_reducible refine gate_callee (f:=49) rfl ?_);refine gl (some 8) Try.func49 #[.slice Ao4 l0_0.length co4,.int .i64 a1] ?_;(with_reducible refine (laws_markDueS.calls k (fun k_=>some k_=(.slice Ao4 l0_0.length co4:Value).ownBlock) (.slice Ao4 l0_0.length co4) l0_0 a1 t132 t133 w0 _ ?side1 ?side2 A3.out).mono ?_);(case side1=>repeat (first|(with_reducible first|exact HB.out|apply below_alloc|apply pw_below_drewN|apply below_drew1|refine below_set ?_ GE131.out)|exact HB.out));(case side2=>exact Kd.R_tight rfl HO0_0.out);rintro e w7 ⟨rfl,hy0,hb,hkp⟩;refine ⟨_,rfl,?_⟩;replace BK131:=Aside0.mk (blk_kept (bk BK131) hkp (fun hs_=>(fun e_=>(Kd.R_ne HO0_0.out BK131.out (by decide)) e_) hs_));replace HK:=Aside0.mk (Kept.then_ (S:=(fun k_=>P0_0_ k_)) (by repeat (first|(with_reducible first|exact HK.out|apply Kept.alloc|apply Kept.drewN|apply Kept.drew|refine Kept.setCell ?_ (.inr GW131.out) _)|exact HK.out)) hkp (fun k_ hs_=>(fun e_=>(HO0_0.out.1 k_ e_.symm)) hs_));replace HO0_0:=Aside0.mk (Kd.R_reok rfl hy0 (fun k_ e_=>HO0_0.out.1 k_ e_));replace HB:=Aside0.mk (hb);(try clear hb);(try clear hkp);(try clear hy0)))
 go_ret
 exact ⟨er,kr HO0_0,bl,by repeat (first|(with_reducible first|exact HK.out|apply Kept.alloc|apply Kept.drewN|apply Kept.drew|refine Kept.setCell ?_ (.inr GW131.out) _)|exact HK.out)⟩

/-! ### laws_heldDueS: function 50 -/
def laws_heldDueS.l0:Nat→List (S56)→Int→Int→Option (Int)
 | 0,_,_,_=>none
 | k + 1,x0,x1,x5=>if x5 < (x0.length:Int) then (if 0≤x5 then (if ((rd_T56 x0 x5).f0)=x1 then (if ((rd_T56 x0 x5).f1)=(wrap64 (x1 + 1)) then (if ((rd_T56 x0 x5).f2)=(wrap64 ((wrap64 (x1 + 1)) + 1)) then (laws_heldDueS.l0 k x0 (wrap64 ((wrap64 ((wrap64 (x1 + 1)) + 1)) + 1)) (wrap64 (x5 + 1))) else (none)) else (none)) else (none)) else (none)) else (some x1)
def laws_heldDueS.f (k:Nat) (l0:List (S56)) (a1:Int):Option (Int):=laws_heldDueS.l0 k l0 a1 0
theorem laws_heldDueS.mono_l:∀ k,(∀ y0 y1 y2,LeO (laws_heldDueS.l0 k y0 y1 y2) (laws_heldDueS.l0 (k + 1) y0 y1 y2))
 | 0=>fun _ _ _ r h=>by simp [laws_heldDueS.l0] at h
 | k + 1=>by
  have ih0:=laws_heldDueS.mono_l k
  ·intro y0 y1 y2
   unfold laws_heldDueS.l0
   repeat' first
   | (with_reducible exact ih0 _ _ _)
   | (with_reducible exact LeO.refl _)
   | (with_reducible exact LeO.none _)
   | (with_reducible refine LeO.ite ?_ ?_)
   | (with_reducible refine LeO.bind ?_ (fun _=>?_))
   | exact ih0 _ _ _
   | exact LeO.none _
   | refine LeO.ite ?_ ?_
   | refine LeO.bind ?_ (fun _=>?_)
theorem laws_heldDueS.mono:∀ a0 a1 k,LeO (laws_heldDueS.f k a0 a1) (laws_heldDueS.f (k + 1) a0 a1):=by
 intro a0 a1 k
 have ih0:=laws_heldDueS.mono_l k
 unfold laws_heldDueS.f
 repeat' first
   | (with_reducible exact ih0 _ _ _)
   | (with_reducible exact LeO.refl _)
   | (with_reducible exact LeO.none _)
   | (with_reducible refine LeO.ite ?_ ?_)
   | (with_reducible refine LeO.bind ?_ (fun _=>?_))
   | exact ih0 _ _ _
   | exact LeO.none _
   | refine LeO.ite ?_ ?_
   | refine LeO.bind ?_ (fun _=>?_)
set_option maxHeartbeats 8000000 in
set_option maxRecDepth 100000 in
theorem laws_heldDueS.calls (k:Nat) (A0:Option Addr) (c0:Nat) (l0:List (S56)) (a1:Int) (r:Int) (w:World) (hr0:Kd.C k56 w A0 l0.length l0) (hc0:l0.length≤c0) (h:laws_heldDueS.f k l0 a1=some r) :
  Calls Try.prog 50 #[.slice A0 l0.length c0,.int .i64 a1] w fun e w'=>e = .returned (.int .i64 r)∧Drawn0 w w':=by
 have HR0:=Aside0.mk hr0
 have HC0:=Aside0.mk hc0
 clear hr0 hc0
 have H:(laws_heldDueS.l0 k l0 a1 0)=some r:=h
 clear h
 have H':=Aside0.mk H
 clear H
 go_enter Try.func50,Try.ntmps50
 go_wp2
 go_loopg [1,5] k (fun kq v1 v5 w'=>∃ (x1_1:Int) (x5_1:Int),v1 = .int .i64 x1_1∧v5 = .int .i64 x5_1∧Aside0 (laws_heldDueS.l0 kq l0 x1_1 x5_1=some r)∧Aside0 (kq≤k)∧Drawn0 w w')
 case atStart=>exact ⟨(a1),(0),(by first|rfl|(simp;done)|(simp [*];done)),(by first|rfl|(simp;done)|(simp [*];done)),H',⟨Nat.le_refl _⟩,by repeat (first|exact Drawn0.refl _|apply Drawn0.step)⟩
 case round =>
  clear H'
  try clear p2
  obtain ⟨x1_1,x5_1,rfl,rfl,HA,HK1,⟨m1,rfl⟩⟩:=hrel
  cases gk with
  | zero=>exact absurd HA.out (by simp [laws_heldDueS.l0])
  | succ k1 =>
   have H:=HA.out
   clear HA
   simp only [laws_heldDueS.l0] at H
   by_cases c3:x5_1 < (l0.length:Int)
   ·rw [if_pos c3] at H
    have c3b0:decide (x5_1 < (l0.length:Int))=true:=decide_eq_true c3
    clear c3
    by_cases c4:0≤x5_1
    case neg =>
     rw [if_neg c4] at H
     exact absurd H (by simp)
    rw [if_pos c4] at H
    have c4b0:decide (0≤x5_1)=true:=decide_eq_true c4
    clear c4
    by_cases c5:((rd_T56 l0 x5_1).f0)=x1_1
    case neg =>
     rw [if_neg c5] at H
     exact absurd H (by simp)
    rw [if_pos c5] at H
    have c5b0:(((rd_T56 l0 x5_1).f0) == x1_1)=true:=beq_iff_eq.mpr c5
    have c5b1:(((rd_T56 l0 x5_1).f0) != x1_1)=false:=bne_eq_false_iff_eq.mpr c5
    clear c5
    by_cases c6:((rd_T56 l0 x5_1).f1)=(wrap64 (x1_1 + 1))
    case neg =>
     rw [if_neg c6] at H
     exact absurd H (by simp)
    rw [if_pos c6] at H
    have c6b0:(((rd_T56 l0 x5_1).f1) == (wrap64 (x1_1 + 1)))=true:=beq_iff_eq.mpr c6
    have c6b1:(((rd_T56 l0 x5_1).f1) != (wrap64 (x1_1 + 1)))=false:=bne_eq_false_iff_eq.mpr c6
    clear c6
    by_cases c7:((rd_T56 l0 x5_1).f2)=(wrap64 ((wrap64 (x1_1 + 1)) + 1))
    case neg =>
     rw [if_neg c7] at H
     exact absurd H (by simp)
    rw [if_pos c7] at H
    have c7b0:(((rd_T56 l0 x5_1).f2) == (wrap64 ((wrap64 (x1_1 + 1)) + 1)))=true:=beq_iff_eq.mpr c7
    have c7b1:(((rd_T56 l0 x5_1).f2) != (wrap64 ((wrap64 (x1_1 + 1)) + 1)))=false:=bne_eq_false_iff_eq.mpr c7
    clear c7
    have H':=Aside0.mk H
    clear H
    have p134:0≤(x5_1:Int):=od
    have q134:x5_1 < (l0.length:Int):=od
    obtain ⟨ad134,e134,hx134_0,hx134_1,hx134_2⟩:=at_T56 HR0.out x5_1 p134 q134
    cases e134
    replace p134:=eq_true p134
    replace q134:=eq_true q134
    have p135:0≤(x5_1:Int):=od
    have q135:x5_1 < (l0.length:Int):=od
    obtain ⟨ad135,e135,hx135_0,hx135_1,hx135_2⟩:=at_T56 HR0.out x5_1 p135 q135
    obtain rfl:ad134=ad135:=(by injection e135)
    replace p135:=eq_true p135
    replace q135:=eq_true q135
    have p136:0≤(x5_1:Int):=od
    have q136:x5_1 < (l0.length:Int):=od
    obtain ⟨ad136,e136,hx136_0,hx136_1,hx136_2⟩:=at_T56 HR0.out x5_1 p136 q136
    obtain rfl:ad134=ad136:=(by injection e136)
    replace p136:=eq_true p136
    replace q136:=eq_true q136
    go_wp2
    go_roundg k1
    case measure=>have:=HK1.out;omega
    case rel=>exact ⟨(wrap64 ((wrap64 ((wrap64 (x1_1 + 1)) + 1)) + 1)),(wrap64 (x5_1 + 1)),(by first|rfl|(simp;done)|(simp [*];done)),(by first|rfl|(simp;done)|(simp [*];done)),H',⟨by have:=HK1.out;omega⟩,by repeat (first|exact Drawn0.refl _|apply Drawn0.step)⟩
   ·rw [if_neg c3] at H
    have c3b0:decide (x5_1 < (l0.length:Int))=false:=decide_eq_false c3
    clear c3
    obtain rfl:=Option.some.inj H
    go_wp2
    go_ret
    exact ⟨by first|rfl|(simp;done)|(simp [*];done),by repeat (first|exact Drawn0.refl _|apply Drawn0.step)⟩

end Go.Proofs.Ytdffkcbaijbhoaa.PFnExactSchedule
