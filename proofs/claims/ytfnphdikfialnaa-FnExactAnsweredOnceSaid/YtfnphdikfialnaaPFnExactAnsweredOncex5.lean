/- Contracts of functions of the given program: what each call answers. Written by a program of this session, out of the text of the functions. -/
import Derived.Test.YtfnphdikfialnaaPFnExactAnsweredOncex0
import Derived.Test.YtfnphdikfialnaaPFnExactAnsweredOncex1
import Derived.Test.YtfnphdikfialnaaPFnExactAnsweredOncex3
import Derived.Test.YtfnphdikfialnaaPFnExactAnsweredOncex4
import Derived.Test.YtfnphdikfialnaaPrs
namespace Go.Proofs.Ytfnphdikfialnaa.PFnExactAnsweredOnce
open Go.RowKit Go.Proofs.YtfnphdikfialnaaW.PrintWords Go.Proofs.YtfnphdikfialnaaW.PrintLast Go.Proofs.YtfnphdikfialnaaW.PrintMore Go.Proofs.Ytfnphdikfialnaa.Giv Go.Proofs.Ytfnphdikfialnaa.Prs
attribute [local go_sem] max2_int min2_int max_two min_two max_three min_three max_four min_four   -- for this text's walks alone
set_option linter.unusedVariables false
set_option linter.unusedSimpArgs false

/-! ### laws_eqEvent: function 14 -/
def laws_eqEvent.f (a0_0:Int) (a0_1:Int) (a0_2:Int) (a1_0:Int) (a1_1:Int) (a1_2:Int):Option (Bool):=if a0_0=a1_0 then (if a0_1=a1_1 then (if a0_2=a1_2 then (some true) else (none)) else (none)) else (none)
set_option maxHeartbeats 8000000 in
set_option maxRecDepth 100000 in
theorem laws_eqEvent.calls (a0_0:Int) (a0_1:Int) (a0_2:Int) (a1_0:Int) (a1_1:Int) (a1_2:Int) (r:Bool) (w:World) (h:laws_eqEvent.f a0_0 a0_1 a0_2 a1_0 a1_1 a1_2=some r) :
  Calls Try.prog 14 #[.agg #[.int .i64 a0_0,.int .i64 a0_1,.int .i64 a0_2],.agg #[.int .i64 a1_0,.int .i64 a1_1,.int .i64 a1_2]] w fun e w'=>e = .returned (.bool r)∧Below w.heap.size w w':=by
 have hu31:=Try.underlying31
 have HB:=Aside0.mk (Below.refl w.heap.size w)
 have H:(if a0_0=a1_0 then (if a0_1=a1_1 then (if a0_2=a1_2 then (some true) else (none)) else (none)) else (none))=some r:=h
 clear h
 by_cases c3:a0_0=a1_0
 ·rw [if_pos c3] at H
  have c3b0:(a0_0 == a1_0)=true:=beq_iff_eq.mpr c3
  have c3b1:(a0_0 != a1_0)=false:=bne_eq_false_iff_eq.mpr c3
  clear c3
  by_cases c4:a0_1=a1_1
  case neg =>
   rw [if_neg c4] at H
   exact absurd H (by simp)
  rw [if_pos c4] at H
  have c4b0:(a0_1 == a1_1)=true:=beq_iff_eq.mpr c4
  have c4b1:(a0_1 != a1_1)=false:=bne_eq_false_iff_eq.mpr c4
  clear c4
  by_cases c5:a0_2=a1_2
  case neg =>
   rw [if_neg c5] at H
   exact absurd H (by simp)
  rw [if_pos c5] at H
  have c5b0:(a0_2 == a1_2)=true:=beq_iff_eq.mpr c5
  have c5b1:(a0_2 != a1_2)=false:=bne_eq_false_iff_eq.mpr c5
  clear c5
  obtain rfl:=Option.some.inj H
  go_enter Try.func14,Try.ntmps14
  go_wp2_with (first|((with_reducible refine gate_dst (N:=2) rfl ?_);refine bx 2 #[.int .i64 a0_0,.int .i64 a0_1,.int .i64 a0_2] 31 ?_;intro gb150 hg w6 hbox hb;have BK150:=Aside0.mk (hbox);have GW150:=Aside0.mk (bz hg:w.heap.size≤gb150);have GE150:=GW150;replace HB:=Aside0.mk (below_step bl hb);clear hb hbox hg)|((with_reducible refine gate_dst (N:=3) rfl ?_);refine bx 3 #[.int .i64 a1_0,.int .i64 a1_1,.int .i64 a1_2] 31 ?_;intro gb151 hg w7 hbox hb;have BK151:=Aside0.mk (hbox);have GW151:=Aside0.mk (bz hg:w.heap.size≤gb151);have GE151:=GW151;replace HB:=Aside0.mk (below_step bl hb);have NB150_151:=Aside0.mk (nl hg BK150:gb150≠gb151);have NB151_150:=Aside0.mk (nr hg BK150:gb151≠gb150);replace BK150:=Aside0.mk (blk_below (bk BK150) hb);clear hb hbox hg;have hnb8:=NB150_151.out;have hnc8:=NB151_150.out;obtain ⟨hcz9_0,hcz9_1,hcz9_2,hfz9_0,hfz9_1,hfz9_2⟩:=ck3 BK150.out;obtain ⟨hcz10_0,hcz10_1,hcz10_2,hfz10_0,hfz10_1,hfz10_2⟩:=ck3 BK151.out))
  go_ret
  exact ⟨er,bl⟩
 ·rw [if_neg c3] at H
  exact absurd H (by simp)

/-! ### laws_eqEventS: function 8 -/
def laws_eqEventS.l0:Nat→List (S31)→List (S31)→Int→Option (Bool)
 | 0,_,_,_=>none
 | k + 1,x0,x1,x5=>if x5 < (x0.length:Int) then (if 0≤x5 then (if x5 < (x1.length:Int) then ((laws_eqEvent.f ((rd_T31 x0 x5).f0) ((rd_T31 x0 x5).f1) ((rd_T31 x0 x5).f2) ((rd_T31 x1 x5).f0) ((rd_T31 x1 x5).f1) ((rd_T31 x1 x5).f2)).bind fun t154=>(if t154=true then (laws_eqEventS.l0 k x0 x1 (wrap64 (x5 + 1))) else (none))) else (none)) else (none)) else (some true)
def laws_eqEventS.f (k:Nat) (l0:List (S31)) (l1:List (S31)):Option (Bool):=if (l0.length:Int)=(l1.length:Int) then (laws_eqEventS.l0 k l0 l1 0) else (none)
theorem laws_eqEventS.mono_l:∀ k,(∀ y0 y1 y2,LeO (laws_eqEventS.l0 k y0 y1 y2) (laws_eqEventS.l0 (k + 1) y0 y1 y2))
 | 0=>fun _ _ _ r h=>by simp [laws_eqEventS.l0] at h
 | k + 1=>by
  have ih0:=laws_eqEventS.mono_l k
  ·intro y0 y1 y2
   unfold laws_eqEventS.l0
   repeat' first
   | (with_reducible exact ih0 _ _ _)
   | (with_reducible exact LeO.refl _)
   | (with_reducible exact LeO.none _)
   | (with_reducible refine LeO.ite ?_ ?_)
   | (with_reducible refine LeO.bind ?_ (fun _=>?_))
   | exact ih0 _ _ _
   | exact LeO.none _
   | refine LeO.ite ?_ ?_
   | refine LeO.bind ?_ (fun _=>?_)
theorem laws_eqEventS.mono:∀ a0 a1 k,LeO (laws_eqEventS.f k a0 a1) (laws_eqEventS.f (k + 1) a0 a1):=by
 intro a0 a1 k
 have ih0:=laws_eqEventS.mono_l k
 unfold laws_eqEventS.f
 repeat' first
   | (with_reducible exact ih0 _ _ _)
   | (with_reducible exact LeO.refl _)
   | (with_reducible exact LeO.none _)
   | (with_reducible refine LeO.ite ?_ ?_)
   | (with_reducible refine LeO.bind ?_ (fun _=>?_))
   | exact ih0 _ _ _
   | exact LeO.none _
   | refine LeO.ite ?_ ?_
   | refine LeO.bind ?_ (fun _=>?_)
def laws_eqEventS.T6:Bool × List (List Nat × List Nat):=(true,[([],[]),([],[]),([0,1],[0,1]),([2],[2]),([],[]),([],[]),([4,5],[4,5]),([6],[6]),([3,7],[3,7]),([8],[8])])
def laws_eqEventS.B6:List Nat:=[0,0,3,7,0,0,48,112,255,511]
theorem laws_eqEventS.tab6:rtab .any (opsOf Try.f8 6)=laws_eqEventS.T6:=by kernel_rfl
theorem laws_eqEventS.bits6:waitsOk laws_eqEventS.T6.2 laws_eqEventS.B6=true:=by kernel_rfl
set_option maxHeartbeats 8000000 in
set_option maxRecDepth 100000 in
theorem laws_eqEventS.calls (k:Nat) (A0:Option Addr) (c0:Nat) (l0:List (S31)) (A1:Option Addr) (c1:Nat) (l1:List (S31)) (r:Bool) (w:World) (hr0:Kd.C k31 w A0 l0.length l0) (hc0:l0.length≤c0) (hr1:Kd.C k31 w A1 l1.length l1) (hc1:l1.length≤c1) (h:laws_eqEventS.f k l0 l1=some r) :
  Calls Try.prog 8 #[.slice A0 l0.length c0,.slice A1 l1.length c1] w fun e w'=>e = .returned (.bool r)∧Below w.heap.size w w':=by
 have hu31:=Try.underlying31
 have HR0:=Aside0.mk hr0
 have HC0:=Aside0.mk hc0
 clear hr0 hc0
 have HR1:=Aside0.mk hr1
 have HC1:=Aside0.mk hc1
 clear hr1 hc1
 have HB:=Aside0.mk (Below.refl w.heap.size w)
 have H:(if (l0.length:Int)=(l1.length:Int) then (laws_eqEventS.l0 k l0 l1 0) else (none))=some r:=h
 clear h
 by_cases c3:(l0.length:Int)=(l1.length:Int)
 ·rw [if_pos c3] at H
  have c3b0:((l0.length:Int) == (l1.length:Int))=true:=beq_iff_eq.mpr c3
  have c3b1:((l0.length:Int) != (l1.length:Int))=false:=bne_eq_false_iff_eq.mpr c3
  have c3b2:(l0.length == l1.length)=true:=by first|simpa using c3|(simp at c3 ⊢;omega)
  clear c3
  have H':=Aside0.mk H
  clear H
  go_enter Try.func8,Try.ntmps8
  go_wp2
  go_loopg [5] k (fun kq v5 w'=>∃ (x5_1:Int),v5 = .int .i64 x5_1∧Aside0 (laws_eqEventS.l0 kq l0 l1 x5_1=some r)∧Aside0 (kq≤k)∧Aside0 (Below w.heap.size w w'))
  case atStart=>exact ⟨(0),(by first|rfl|(simp;done)|(simp [*];done)),H',⟨Nat.le_refl _⟩,⟨bl⟩⟩
  case round =>
   clear H'
   try clear c1
   try clear p2
   try clear c3
   try clear c3b0
   try clear c3b1
   try clear c3b2
   obtain ⟨x5_1,rfl,HA,HK1,HB⟩:=hrel
   cases gk with
   | zero=>exact absurd HA.out (by simp [laws_eqEventS.l0])
   | succ k1 =>
    have H:=HA.out
    clear HA
    simp only [laws_eqEventS.l0] at H
    by_cases c4:x5_1 < (l0.length:Int)
    ·rw [if_pos c4] at H
     have c4b0:decide (x5_1 < (l0.length:Int))=true:=decide_eq_true c4
     clear c4
     by_cases c5:0≤x5_1
     case neg =>
      rw [if_neg c5] at H
      exact absurd H (by simp)
     rw [if_pos c5] at H
     have c5b0:decide (0≤x5_1)=true:=decide_eq_true c5
     clear c5
     by_cases c6:x5_1 < (l1.length:Int)
     case neg =>
      rw [if_neg c6] at H
      exact absurd H (by simp)
     rw [if_pos c6] at H
     have c6b0:decide (x5_1 < (l1.length:Int))=true:=decide_eq_true c6
     clear c6
     replace H:=Option.bind_eq_some_iff.mp H
     obtain ⟨t154,A70,H⟩:=H
     have A7:=Aside0.mk A70
     clear A70
     by_cases c8:t154=true
     ·subst c8
      rw [if_pos rfl] at H
      have H':=Aside0.mk H
      clear H
      try go_wp2
      replace HB:=Aside0.mk (below_drew1 HB.out)
      have p152:0≤(x5_1:Int):=od
      have q152:x5_1 < (l0.length:Int):=od
      obtain ⟨ad152,e152,hx152_0,hx152_1,hx152_2⟩:=at_T31 HR0.out x5_1 p152 q152
      have hw152_2:=hx152_2
      have hw152_1:=hx152_1
      have hw152_0:=hx152_0
      cases e152
      replace hx152_0:=cl HB hx152_0
      replace hx152_1:=cl HB hx152_1
      replace hx152_2:=cl HB hx152_2
      replace p152:=eq_true p152
      replace q152:=eq_true q152
      have p153:0≤(x5_1:Int):=od
      have q153:x5_1 < (l1.length:Int):=od
      obtain ⟨ad153,e153,hx153_0,hx153_1,hx153_2⟩:=at_T31 HR1.out x5_1 p153 q153
      have hw153_2:=hx153_2
      have hw153_1:=hx153_1
      have hw153_0:=hx153_0
      cases e153
      replace hx153_0:=cl HB hx153_0
      replace hx153_1:=cl HB hx153_1
      replace hx153_2:=cl HB hx153_2
      replace p153:=eq_true p153
      replace q153:=eq_true q153
      refine start_ (n:=10) (S:=fun w'=>w'.cell? (ad152.add ((x5_1).toNat * 3))=some (.int .i64 ((rd_T31 l0 x5_1).f0))∧w'.cell? ⟨(ad152.add ((x5_1).toNat * 3)).block,(ad152.add ((x5_1).toNat * 3)).off + 1,none⟩=some (.int .i64 ((rd_T31 l0 x5_1).f1))∧w'.cell? ⟨(ad152.add ((x5_1).toNat * 3)).block,(ad152.add ((x5_1).toNat * 3)).off + 2,none⟩=some (.int .i64 ((rd_T31 l0 x5_1).f2))∧w'.cell? (ad153.add ((x5_1).toNat * 3))=some (.int .i64 ((rd_T31 l1 x5_1).f0))∧w'.cell? ⟨(ad153.add ((x5_1).toNat * 3)).block,(ad153.add ((x5_1).toNat * 3)).off + 1,none⟩=some (.int .i64 ((rd_T31 l1 x5_1).f1))∧w'.cell? ⟨(ad153.add ((x5_1).toNat * 3)).block,(ad153.add ((x5_1).toNat * 3)).off + 2,none⟩=some (.int .i64 ((rd_T31 l1 x5_1).f2))) (ds:=[]) (bs 10 0) (by kernel_rfl) rfl rfl ⟨(cl HB hw152_0),(cl HB hw152_1),(cl HB hw152_2),(cl HB hw153_0),(cl HB hw153_1),(cl HB hw153_2)⟩ (fun hHeld=>?_);refine with_tabW laws_eqEventS.tab6 laws_eqEventS.bits6 (fun HT_ HW_=>?_)
      generalize wr.drew=w9 at HB hx152_0 hx152_1 hx152_2 hx153_0 hx153_1 hx153_2 hHeld ⊢
      refine pq 0 17 (bs 10 1) HT_ ?_
      refine pq 1 18 (bs 10 3) HT_ ?_
      refine pq 2 19 (bs 10 7) HT_ ?_
      refine pq 4 21 (bs 10 23) HT_ ?_
      refine pq 5 22 (bs 10 55) HT_ ?_
      refine pq 6 23 (bs 10 119) HT_ ?_
      refine tq 3 20 (bs 10 127) HT_ HW_ hHeld ?_
      refine tq 7 24 (bs 10 255) HT_ HW_ hHeld ?_
      refine one_ (i:=8) (N:=some 25) (bs 10 511) rfl rfl (one_of HT_.out (by kernel_rfl)) (by decide) (fun K hK=>?_)
      refine goes_ Try.func14 (by kernel_rfl) rfl #[.agg #[.int .i64 ((rd_T31 l0 x5_1).f0),.int .i64 ((rd_T31 l0 x5_1).f1),.int .i64 ((rd_T31 l0 x5_1).f2)],.agg #[.int .i64 ((rd_T31 l1 x5_1).f0),.int .i64 ((rd_T31 l1 x5_1).f1),.int .i64 ((rd_T31 l1 x5_1).f2)]] (by rfl) rfl rfl (by (try simp only [List.map_toArray,List.map_cons,List.map_nil]);first|done|rfl|(simp only [List.length_drop,List.length_take];rfl)) ?_
      with_reducible refine (laws_eqEvent.calls ((rd_T31 l0 x5_1).f0) ((rd_T31 l0 x5_1).f1) ((rd_T31 l0 x5_1).f2) ((rd_T31 l1 x5_1).f0) ((rd_T31 l1 x5_1).f1) ((rd_T31 l1 x5_1).f2) true _ A7.out).mono ?_
      rintro e w10 ⟨rfl,hb⟩
      refine ⟨_,rfl,?_⟩
      replace HB:=Aside0.mk (below_step bl hb)
      (try clear hb)
      (try clear hb2)
      (try clear hk)
      (try clear hi)
      refine hK.out _ _ ⟨(cl HB hw152_0),(cl HB hw152_1),(cl HB hw152_2),(cl HB hw153_0),(cl HB hw153_1),(cl HB hw153_2)⟩ (fun hHeld=>?_)
      clear hK K
      refine nrm ?_
      refine pq 9 26 (bs 10 1023) HT_ ?_
      refine done_ (done_of HT_.out (by kernel_rfl)) ?_
      try go_wp2
      go_roundg k1
      case measure=>have:=HK1.out;omega
      case rel=>exact ⟨(wrap64 (x5_1 + 1)),(by first|rfl|(simp;done)|(simp [*];done)),H',⟨by have:=HK1.out;omega⟩,⟨bl⟩⟩
     ·replace c8:=Bool.eq_false_iff.mpr c8
      subst c8
      rw [if_neg nft] at H
      exact absurd H (by simp)
    ·rw [if_neg c4] at H
     have c4b0:decide (x5_1 < (l0.length:Int))=false:=decide_eq_false c4
     clear c4
     obtain rfl:=Option.some.inj H
     go_wp2
     go_ret
     exact ⟨er,bl⟩
 ·rw [if_neg c3] at H
  exact absurd H (by simp)

/-! ### laws_FnExactAnsweredOnce: function 3 -/
def laws_FnExactAnsweredOnce.f (k:Nat) (l0:List (S33)):Option (Bool):=(laws_szEventS.f l0 1048576).bind fun t155=>(if t155 < 0 then (some true) else ((laws_toEventS.f k l0).bind fun t156=>((spec_AnsweredOnce.f k t156).bind fun t159=>((laws_toEventS.f k l0).bind fun t160=>((impl_AnsweredOnce.f k t160).bind fun t163=>(if (t163 != t159)=true then (none) else ((laws_toEventS.f k l0).bind fun t164=>((laws_eqEventS.f k t160 t164).bind fun t167=>(if t167=true then (some true) else (none))))))))))
theorem laws_FnExactAnsweredOnce.mono:∀ a0 k,LeO (laws_FnExactAnsweredOnce.f k a0) (laws_FnExactAnsweredOnce.f (k + 1) a0):=by
 intro a0 k
 unfold laws_FnExactAnsweredOnce.f
 repeat' first
   | (with_reducible exact impl_AnsweredOnce.mono _ _)
   | (with_reducible exact laws_eqEventS.mono _ _ _)
   | (with_reducible exact laws_toEventS.mono _ _)
   | (with_reducible exact spec_AnsweredOnce.mono _ _)
   | (with_reducible exact LeO.refl _)
   | (with_reducible exact LeO.none _)
   | (with_reducible refine LeO.ite ?_ ?_)
   | (with_reducible refine LeO.bind ?_ (fun _=>?_))
   | exact impl_AnsweredOnce.mono _ _
   | exact laws_eqEventS.mono _ _ _
   | exact laws_toEventS.mono _ _
   | exact spec_AnsweredOnce.mono _ _
   | exact LeO.none _
   | refine LeO.ite ?_ ?_
   | refine LeO.bind ?_ (fun _=>?_)
set_option maxHeartbeats 8000000 in
set_option maxRecDepth 100000 in
theorem laws_FnExactAnsweredOnce.calls (k:Nat) (A0:Option Addr) (c0:Nat) (l0:List (S33)) (r:Bool) (w:World) (hr0:Kd.C k33 w A0 l0.length l0) (hc0:l0.length≤c0) (h:laws_FnExactAnsweredOnce.f k l0=some r) :
  Calls Try.prog 3 #[.slice A0 l0.length c0] w fun e w'=>e = .returned (.bool r)∧Below w.heap.size w w':=by
 have HR0:=Aside0.mk hr0
 have HC0:=Aside0.mk hc0
 clear hr0 hc0
 have HB:=Aside0.mk (Below.refl w.heap.size w)
 have H:((laws_szEventS.f l0 1048576).bind fun t155=>(if t155 < 0 then (some true) else ((laws_toEventS.f k l0).bind fun t156=>((spec_AnsweredOnce.f k t156).bind fun t159=>((laws_toEventS.f k l0).bind fun t160=>((impl_AnsweredOnce.f k t160).bind fun t163=>(if (t163 != t159)=true then (none) else ((laws_toEventS.f k l0).bind fun t164=>((laws_eqEventS.f k t160 t164).bind fun t167=>(if t167=true then (some true) else (none)))))))))))=some r:=h
 clear h
 replace H:=Option.bind_eq_some_iff.mp H
 obtain ⟨t155,A20,H⟩:=H
 have A2:=Aside0.mk A20
 clear A20
 by_cases c3:t155 < 0
 ·rw [if_pos c3] at H
  have c3b0:decide (t155 < 0)=true:=decide_eq_true c3
  clear c3
  obtain rfl:=Option.some.inj H
  go_enter Try.func3,Try.ntmps3
  go_wp2_with (first|((with_reducible refine gate_callee (f:=4) rfl ?_);refine gl (some 9) Try.func4 #[.slice A0 l0.length c0,.int .i64 1048576] ?_;(with_reducible refine (laws_szEventS.calls _ _ l0 1048576 t155 _ ?side1 ?side2 A2.out).mono ?_);(case side1=>repeat (first|exact HR0.out|(with_reducible refine Kd.C_alloc ?_ _)|(with_reducible refine Kd.C_drewN ?_ _)|(with_reducible refine Kd.C_drew ?_)));(case side2=>exact HC0.out);rintro e w' ⟨rfl,⟨nd,rfl⟩⟩;refine ⟨_,rfl,?_⟩))
  go_ret
  exact ⟨er,bl⟩
 ·rw [if_neg c3] at H
  have c3b0:decide (t155 < 0)=false:=decide_eq_false c3
  clear c3
  replace H:=Option.bind_eq_some_iff.mp H
  obtain ⟨t156,A40,H⟩:=H
  have A4:=Aside0.mk A40
  clear A40
  replace H:=Option.bind_eq_some_iff.mp H
  obtain ⟨t159,A50,H⟩:=H
  have A5:=Aside0.mk A50
  clear A50
  replace H:=Option.bind_eq_some_iff.mp H
  obtain ⟨t160,A60,H⟩:=H
  have A6:=Aside0.mk A60
  clear A60
  replace H:=Option.bind_eq_some_iff.mp H
  obtain ⟨t163,A70,H⟩:=H
  have A7:=Aside0.mk A70
  clear A70
  by_cases c8:(t163 != t159)=true
  ·rw [if_pos c8] at H
   exact absurd H (by simp)
  ·rw [if_neg c8] at H
   have c8b0:(t163 != t159)=false:=by simpa using c8
   (try (have c8b1:decide (t163=t159)=true:=by simpa using c8))
   (try (have c8b2:(t163 == t159)=true:=by simpa using c8))
   clear c8
   replace H:=Option.bind_eq_some_iff.mp H
   obtain ⟨t164,A90,H⟩:=H
   have A9:=Aside0.mk A90
   clear A90
   replace H:=Option.bind_eq_some_iff.mp H
   obtain ⟨t167,A100,H⟩:=H
   have A10:=Aside0.mk A100
   clear A100
   by_cases c11:t167=true
   ·subst c11
    rw [if_pos rfl] at H
    obtain rfl:=Option.some.inj H
    go_enter Try.func3,Try.ntmps3
    go_wp2_with (first|((with_reducible refine gate_callee (f:=4) rfl ?_);refine gl (some 9) Try.func4 #[.slice A0 l0.length c0,.int .i64 1048576] ?_;(with_reducible refine (laws_szEventS.calls _ _ l0 1048576 t155 _ ?side1 ?side2 A2.out).mono ?_);(case side1=>repeat (first|exact HR0.out|(with_reducible refine Kd.C_alloc ?_ _)|(with_reducible refine Kd.C_drewN ?_ _)|(with_reducible refine Kd.C_drew ?_)));(case side2=>exact HC0.out);rintro e w' ⟨rfl,⟨nd,rfl⟩⟩;refine ⟨_,rfl,?_⟩)|((with_reducible refine gate_callee (f:=6) rfl ?_);refine gl (some 13) Try.func6 #[.slice A0 l0.length c0] ?_;(with_reducible refine (laws_toEventS.calls k _ _ l0 t156 _ ?side1 ?side2 A4.out).mono ?_);(case side1=>repeat (first|exact HR0.out|(with_reducible refine Kd.C_alloc ?_ _)|(with_reducible refine Kd.C_drewN ?_ _)|(with_reducible refine Kd.C_drew ?_)));(case side2=>exact HC0.out);rintro e w12 ⟨v157,rfl,ho0,hb⟩;refine ⟨_,rfl,?_⟩;have HO158:=Aside0.mk (Kd.R_lower ho0 (below_size bl));replace HB:=Aside0.mk (below_step bl hb);(try clear hb);(try clear hb2);(try clear hk);(try clear hi);(try clear ho0);obtain ⟨Ao13,co13,eo13⟩:=Kd.R_slice HO158.out;subst eo13)|((with_reducible refine gate_callee (f:=5) rfl ?_);refine gl (some 14) Try.func5 #[.slice Ao13 t156.length co13] ?_;(with_reducible refine (spec_AnsweredOnce.calls k _ _ t156 t159 _ ?side1 ?side2 A5.out).mono ?_);(case side1=>repeat (first|exact (Kd.R_reads' HO158.out).2.2|(with_reducible refine Kd.C_alloc ?_ _)|(with_reducible refine Kd.C_drewN ?_ _)|(with_reducible refine Kd.C_drew ?_)));(case side2=>exact (Kd.R_reads' HO158.out).2.1);rintro e w14 ⟨rfl,hb⟩;refine ⟨_,rfl,?_⟩;replace HO158:=Aside0.mk (Kd.R_below (kr HO158) hb);replace HB:=Aside0.mk (below_step bl hb);(try clear hb);(try clear hb2);(try clear hk);(try clear hi))|((with_reducible refine gate_callee (f:=6) rfl ?_);refine gl (some 16) Try.func6 #[.slice A0 l0.length c0] ?_;(with_reducible refine (laws_toEventS.calls k _ _ l0 t160 _ ?side1 ?side2 A6.out).mono ?_);(case side1=>exact kc HR0);(case side2=>exact HC0.out);rintro e w15 ⟨v161,rfl,ho0,hb⟩;refine ⟨_,rfl,?_⟩;have HO162:=Aside0.mk (Kd.R_lower (Kd.R_new' ho0 (Kd.R_lt (kr HO158))) (below_size bl));replace HO158:=Aside0.mk (Kd.R_elder' (kr HO158) (Kd.R_base ho0) hb);replace HB:=Aside0.mk (below_step bl hb);(try clear hb);(try clear hb2);(try clear hk);(try clear hi);(try clear ho0);obtain ⟨Ao16,co16,eo16⟩:=Kd.R_slice HO162.out;subst eo16)|((with_reducible refine gate_callee (f:=7) rfl ?_);refine gl (some 18) Try.func7 #[.slice Ao16 t160.length co16] ?_;(with_reducible refine (impl_AnsweredOnce.calls k _ _ t160 t163 _ ?side1 ?side2 A7.out).mono ?_);(case side1=>repeat (first|exact (Kd.R_reads' HO162.out).2.2|(with_reducible refine Kd.C_alloc ?_ _)|(with_reducible refine Kd.C_drewN ?_ _)|(with_reducible refine Kd.C_drew ?_)));(case side2=>exact (Kd.R_reads' HO162.out).2.1);rintro e w17 ⟨rfl,hb⟩;refine ⟨_,rfl,?_⟩;replace HO158:=Aside0.mk (Kd.R_below (kr HO158) hb);replace HO162:=Aside0.mk (Kd.R_below (kr HO162) hb);replace HB:=Aside0.mk (below_step bl hb);(try clear hb);(try clear hb2);(try clear hk);(try clear hi))|((with_reducible refine gate_callee (f:=6) rfl ?_);refine gl (some 24) Try.func6 #[.slice A0 l0.length c0] ?_;(with_reducible refine (laws_toEventS.calls k _ _ l0 t164 _ ?side1 ?side2 A9.out).mono ?_);(case side1=>exact kc HR0);(case side2=>exact HC0.out);rintro e w18 ⟨v165,rfl,ho0,hb⟩;refine ⟨_,rfl,?_⟩;have HO166:=Aside0.mk (Kd.R_lower (Kd.R_new' (Kd.R_new' ho0 (Kd.R_lt (kr HO158))) (Kd.R_lt (kr HO162))) (below_size bl));replace HO158:=Aside0.mk (Kd.R_elder' (kr HO158) (Kd.R_base ho0) hb);replace HO162:=Aside0.mk (Kd.R_elder' (kr HO162) (Kd.R_base ho0) hb);replace HB:=Aside0.mk (below_step bl hb);(try clear hb);(try clear hb2);(try clear hk);(try clear hi);(try clear ho0);obtain ⟨Ao19,co19,eo19⟩:=Kd.R_slice HO166.out;subst eo19)|((with_reducible refine gate_callee (f:=8) rfl ?_);refine gl (some 25) Try.func8 #[.slice Ao16 t160.length co16,.slice Ao19 t164.length co19] ?_;(with_reducible refine (laws_eqEventS.calls k _ _ t160 _ _ t164 true _ ?side1 ?side2 ?side3 ?side4 A10.out).mono ?_);(case side1=>repeat (first|exact (Kd.R_reads' HO162.out).2.2|(with_reducible refine Kd.C_alloc ?_ _)|(with_reducible refine Kd.C_drewN ?_ _)|(with_reducible refine Kd.C_drew ?_)));(case side2=>exact (Kd.R_reads' HO162.out).2.1);(case side3=>repeat (first|exact (Kd.R_reads' HO166.out).2.2|(with_reducible refine Kd.C_alloc ?_ _)|(with_reducible refine Kd.C_drewN ?_ _)|(with_reducible refine Kd.C_drew ?_)));(case side4=>exact (Kd.R_reads' HO166.out).2.1);rintro e w20 ⟨rfl,hb⟩;refine ⟨_,rfl,?_⟩;replace HO158:=Aside0.mk (Kd.R_below (kr HO158) hb);replace HO162:=Aside0.mk (Kd.R_below (kr HO162) hb);replace HO166:=Aside0.mk (Kd.R_below (kr HO166) hb);replace HB:=Aside0.mk (below_step bl hb);(try clear hb);(try clear hb2);(try clear hk);(try clear hi)))
    go_ret
    exact ⟨er,bl⟩
   ·replace c11:=Bool.eq_false_iff.mpr c11
    subst c11
    rw [if_neg nft] at H
    exact absurd H (by simp)

end Go.Proofs.Ytfnphdikfialnaa.PFnExactAnsweredOnce
