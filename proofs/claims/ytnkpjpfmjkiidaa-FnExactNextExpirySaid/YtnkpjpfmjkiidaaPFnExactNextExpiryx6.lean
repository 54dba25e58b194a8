/- Contracts of functions of the given program: what each call answers. Written by a program of this session, out of the text of the functions. -/
import Derived.Test.YtnkpjpfmjkiidaaPFnExactNextExpiryx0
import Derived.Test.YtnkpjpfmjkiidaaPFnExactNextExpiryx3
import Derived.Test.YtnkpjpfmjkiidaaZFnExactNextExpiry
namespace Go.Proofs.Ytnkpjpfmjkiidaa.PFnExactNextExpiry
open Go.RowKit Go.Proofs.YtnkpjpfmjkiidaaW.PrintWords Go.Proofs.YtnkpjpfmjkiidaaW.PrintLast Go.Proofs.YtnkpjpfmjkiidaaW.PrintMore Go.Proofs.Ytnkpjpfmjkiidaa.Giv Go.Proofs.Ytnkpjpfmjkiidaa.Prs
attribute [local go_sem] max2_int min2_int max_two min_two max_three min_three max_four min_four   -- for this text's walks alone
set_option linter.unusedVariables false
set_option linter.unusedSimpArgs false

/-! ### spec_ListQueue: function 62 -/
def spec_ListQueue.l0:Nat→List Int→Int→List (S97)→Int→Int→Int→Int→Option (List Int)
 | 0,_,_,_,_,_,_,_=>none
 | k + 1,x3,x4,x218000,x218001,x218002,x218003,x218004=>if x4=(-1) then (some x3) else (if 0≤x4 then (if x4 < (x218000.length:Int) then (if x3.length < 17592186044416 then (spec_ListQueue.l0 k (x3 ++ [(rd_T97 x218000 x4).f0]) ((rd_T97 x218000 x4).f2) x218000 x218001 x218002 x218003 x218004) else (none)) else (none)) else (none))
def spec_ListQueue.f (k:Nat) (l0_0:List (S97)) (a0_1:Int) (a0_2:Int) (a0_3:Int) (a0_4:Int):Option (List Int):=(spec_QueueOk.f k l0_0 a0_1 a0_2 a0_3 a0_4).bind fun t221=>(if t221=true then (spec_ListQueue.l0 k (([]:List Int)) a0_1 l0_0 a0_1 a0_2 a0_3 a0_4) else (some ([]:List Int)))
theorem spec_ListQueue.mono_l:∀ k,(∀ y0 y1 y2 y3 y4 y5 y6,LeO (spec_ListQueue.l0 k y0 y1 y2 y3 y4 y5 y6) (spec_ListQueue.l0 (k + 1) y0 y1 y2 y3 y4 y5 y6))
 | 0=>fun _ _ _ _ _ _ _ r h=>by simp [spec_ListQueue.l0] at h
 | k + 1=>by
  have ih0:=spec_ListQueue.mono_l k
  ·intro y0 y1 y2 y3 y4 y5 y6
   unfold spec_ListQueue.l0
   repeat' first
   | (with_reducible exact ih0 _ _ _ _ _ _ _)
   | (with_reducible exact spec_QueueOk.mono _ _ _ _ _ _)
   | (with_reducible exact LeO.refl _)
   | (with_reducible exact LeO.none _)
   | (with_reducible refine LeO.ite ?_ ?_)
   | (with_reducible refine LeO.bind ?_ (fun _=>?_))
   | exact ih0 _ _ _ _ _ _ _
   | exact spec_QueueOk.mono _ _ _ _ _ _
   | exact LeO.none _
   | refine LeO.ite ?_ ?_
   | refine LeO.bind ?_ (fun _=>?_)
theorem spec_ListQueue.mono:∀ a0 a1 a2 a3 a4 k,LeO (spec_ListQueue.f k a0 a1 a2 a3 a4) (spec_ListQueue.f (k + 1) a0 a1 a2 a3 a4):=by
 intro a0 a1 a2 a3 a4 k
 have ih0:=spec_ListQueue.mono_l k
 unfold spec_ListQueue.f
 repeat' first
   | (with_reducible exact ih0 _ _ _ _ _ _ _)
   | (with_reducible exact spec_QueueOk.mono _ _ _ _ _ _)
   | (with_reducible exact LeO.refl _)
   | (with_reducible exact LeO.none _)
   | (with_reducible refine LeO.ite ?_ ?_)
   | (with_reducible refine LeO.bind ?_ (fun _=>?_))
   | exact ih0 _ _ _ _ _ _ _
   | exact spec_QueueOk.mono _ _ _ _ _ _
   | exact LeO.none _
   | refine LeO.ite ?_ ?_
   | refine LeO.bind ?_ (fun _=>?_)
set_option maxHeartbeats 8000000 in
set_option maxRecDepth 100000 in
theorem spec_ListQueue.calls (k:Nat) (A0_0:Option Addr) (c0_0:Nat) (l0_0:List (S97)) (a0_1:Int) (a0_2:Int) (a0_3:Int) (a0_4:Int) (r:List Int) (w:World) (hr0_0:Kd.C k97 w A0_0 l0_0.length l0_0) (hc0_0:l0_0.length≤c0_0) (h:spec_ListQueue.f k l0_0 a0_1 a0_2 a0_3 a0_4=some r) :
  Calls Try.prog 62 #[.agg #[.slice A0_0 l0_0.length c0_0,.int .i64 a0_1,.int .i64 a0_2,.int .i64 a0_3,.int .i64 a0_4]] w fun e w'=>∃ v0_:Value,e = .returned (v0_)∧Kd.R (Kd.int .i64) 3 w' w.heap.size (fun _=>True) v0_ r∧Below w.heap.size w w':=by
 have hu28:=Try.underlying28
 have HR0_0:=Aside0.mk hr0_0
 have HC0_0:=Aside0.mk hc0_0
 clear hr0_0 hc0_0
 have HB:=Aside0.mk (Below.refl w.heap.size w)
 have H:((spec_QueueOk.f k l0_0 a0_1 a0_2 a0_3 a0_4).bind fun t221=>(if t221=true then (spec_ListQueue.l0 k (([]:List Int)) a0_1 l0_0 a0_1 a0_2 a0_3 a0_4) else (some ([]:List Int))))=some r:=h
 clear h
 obtain ⟨y218,hy218⟩:∃ y_:List Int,y_=(([]:List Int)):=⟨_,rfl⟩
 replace H:((spec_QueueOk.f k l0_0 a0_1 a0_2 a0_3 a0_4).bind fun t221=>(if t221=true then (spec_ListQueue.l0 k y218 a0_1 l0_0 a0_1 a0_2 a0_3 a0_4) else (some ([]:List Int))))=some r:=by first|(rw [hy218];with_reducible exact H)|(have H2_:=(Option.bind_some _ _).symm.trans H;rw [hy218];with_reducible exact H2_)|(have H2_:=(Option.bind_some _ _).symm.trans H;with_reducible exact H2_)|with_reducible exact H|(rw [hy218];exact H)|exact H
 have Ny218:=Aside0.mk hy218
 clear hy218
 replace H:=Option.bind_eq_some_iff.mp H
 obtain ⟨t221,A20,H⟩:=H
 have A2:=Aside0.mk A20
 clear A20
 by_cases c3:t221=true
 ·subst c3
  rw [if_pos rfl] at H
  have H':=Aside0.mk H
  clear H
  go_enter Try.func62,Try.ntmps62
  go_wp2_with (first|((with_reducible refine gate_dst (N:=1) rfl ?_);refine bx 1 #[.slice A0_0 l0_0.length c0_0,.int .i64 a0_1,.int .i64 a0_2,.int .i64 a0_3,.int .i64 a0_4] 28 ?_;intro gb217 hg w4 hbox hb;have BK217:=Aside0.mk (hbox);have GW217:=Aside0.mk (bz hg:w.heap.size≤gb217);have GE217:=GW217;replace HB:=Aside0.mk (below_step bl hb);clear hb hbox hg)|((with_reducible refine gate_dst (N:=5) rfl ?_);refine Kd.R_lit (Kd.int .i64) _ 3 ?hg (N:=5) ?hd (xs:=([]:List Int)) (inner:=[]) (ok:=fun _=>True) (okp:=fun _=>True) ?hr ?hp (fun _ hk=>hk) trivial (Below.refl _ _) (Nat.le_refl _) (by simp) ?_;(case hd=>rfl);(case hg=>rfl);(case hr=>first|(go_simp;done)|(go_simp;rfl));(case hp=>exact (Reps.none _ _));intro v219 w5 ho6 hb hg_ hnew_;clear hg_ hnew_;(first|rw [← Ny218.out] at ho6|(simp only [Int.reduceToNat] at ho6;rw [← Ny218.out] at ho6));have HO220:=Aside0.mk (Kd.R_lower ho6 (below_size bl));replace BK217:=Aside0.mk (blk_below (bk BK217) hb);replace HB:=Aside0.mk (below_step bl hb);clear hb ho6;obtain ⟨hcz7_0,hcz7_1,hcz7_2,hcz7_3,hcz7_4,hfz7_0,hfz7_1,hfz7_2,hfz7_3,hfz7_4⟩:=ck5 BK217.out)|((with_reducible refine gate_callee (f:=60) rfl ?_);refine gl (some 7) Try.func60 #[.agg #[.slice A0_0 l0_0.length c0_0,.int .i64 a0_1,.int .i64 a0_2,.int .i64 a0_3,.int .i64 a0_4]] ?_;(with_reducible refine (spec_QueueOk.calls k _ _ l0_0 a0_1 a0_2 a0_3 a0_4 true _ ?side1 ?side2 A2.out).mono ?_);(case side1=>exact kc HR0_0);(case side2=>exact HC0_0.out);rintro e w8 ⟨rfl,hb⟩;refine ⟨_,rfl,?_⟩;replace HO220:=Aside0.mk (Kd.R_below (kr HO220) hb);replace BK217:=Aside0.mk (blk_below (bk BK217) hb);replace HB:=Aside0.mk (below_step bl hb);(try clear hb);(try clear hb2);(try clear hk);(try clear hi);obtain ⟨hcz9_0,hcz9_1,hcz9_2,hcz9_3,hcz9_4,hfz9_0,hfz9_1,hfz9_2,hfz9_3,hfz9_4⟩:=ck5 BK217.out))
  go_loopg [3,4] k (fun kq v3 v4 w'=>∃ (x3_1:List Int) (x4_1:Int),v4 = .int .i64 x4_1∧Aside0 (spec_ListQueue.l0 kq x3_1 x4_1 l0_0 a0_1 a0_2 a0_3 a0_4=some r)∧Aside0 (kq≤k)∧Aside0 (Kd.R (Kd.int .i64) 3 w' w.heap.size (fun _=>True) v3 x3_1)∧Aside0 (w'.heap[gb217]? = some (.cells #[(.slice A0_0 l0_0.length c0_0),.int .i64 a0_1,.int .i64 a0_2,.int .i64 a0_3,.int .i64 a0_4] 28 (0,0)))∧Aside0 (Below w.heap.size w w'))
  case atStart=>exact ⟨(y218),(a0_1),(by first|rfl|(simp;done)|(simp [*];done)),H',⟨Nat.le_refl _⟩,⟨kr HO220⟩,⟨bk BK217⟩,⟨bl⟩⟩
  case round =>
   clear H'
   try clear p2
   try clear c3
   try clear c6
   try clear hcz7_0
   try clear hcz7_1
   try clear hcz7_2
   try clear hcz7_3
   try clear hcz7_4
   try clear hcz9_0
   try clear hcz9_1
   try clear hcz9_2
   try clear hcz9_3
   try clear hcz9_4
   try clear hfz7_0
   try clear hfz7_1
   try clear hfz7_2
   try clear hfz7_3
   try clear hfz7_4
   try clear hfz9_0
   try clear hfz9_1
   try clear hfz9_2
   try clear hfz9_3
   try clear hfz9_4
   obtain ⟨x3_1,x4_1,rfl,HA,HK1,HO_3,BK217,HB⟩:=hrel
   cases gk with
   | zero=>exact absurd HA.out (by simp [spec_ListQueue.l0])
   | succ k1 =>
    have H:=HA.out
    clear HA
    simp only [spec_ListQueue.l0] at H
    by_cases c10:x4_1=(-1)
    ·rw [if_pos c10] at H
     have c10b0:(x4_1 == (-1))=true:=beq_iff_eq.mpr c10
     have c10b1:(x4_1 != (-1))=false:=bne_eq_false_iff_eq.mpr c10
     clear c10
     obtain rfl:=Option.some.inj H
     go_wp2
     go_ret
     exact ⟨_,er,kr HO_3,bl⟩
    ·rw [if_neg c10] at H
     have c10b0:(x4_1 == (-1))=false:=beq_eq_false_iff_ne.mpr c10
     have c10b1:(x4_1 != (-1))=true:=bne_iff_ne.mpr c10
     by_cases c11:0≤x4_1
     case neg =>
      rw [if_neg c11] at H
      exact absurd H (by simp)
     rw [if_pos c11] at H
     have c11b0:decide (0≤x4_1)=true:=decide_eq_true c11
     clear c11
     by_cases c12:x4_1 < (l0_0.length:Int)
     case neg =>
      rw [if_neg c12] at H
      exact absurd H (by simp)
     rw [if_pos c12] at H
     have c12b0:decide (x4_1 < (l0_0.length:Int))=true:=decide_eq_true c12
     clear c12
     by_cases c13:x3_1.length < 17592186044416
     case neg =>
      rw [if_neg c13] at H
      exact absurd H (by simp)
     rw [if_pos c13] at H
     have LMc13:=Aside0.mk c13
     clear c13
     obtain ⟨y223,hy223⟩:∃ y_:List Int,y_=(x3_1 ++ [(rd_T97 l0_0 x4_1).f0]):=⟨_,rfl⟩
     replace H:(spec_ListQueue.l0 k1 y223 ((rd_T97 l0_0 x4_1).f2) l0_0 a0_1 a0_2 a0_3 a0_4)=some r:=by first|(rw [hy223];with_reducible exact H)|(have H2_:=(Option.bind_some _ _).symm.trans H;rw [hy223];with_reducible exact H2_)|(have H2_:=(Option.bind_some _ _).symm.trans H;with_reducible exact H2_)|with_reducible exact H|(rw [hy223];exact H)|exact H
     have Ny223:=Aside0.mk hy223
     clear hy223
     have H':=Aside0.mk H
     clear H
     obtain ⟨hcz14_0,hcz14_1,hcz14_2,hcz14_3,hcz14_4,hfz14_0,hfz14_1,hfz14_2,hfz14_3,hfz14_4⟩:=ck5 BK217.out
     have p222:0≤(x4_1:Int):=od
     have q222:x4_1 < (l0_0.length:Int):=od
     obtain ⟨ad222,e222,hx222_0,hx222_1,hx222_2,hx222_3⟩:=at_T97 HR0_0.out x4_1 p222 q222
     cases e222
     replace hx222_0:=cl HB hx222_0
     replace hx222_1:=cl HB hx222_1
     replace hx222_2:=cl HB hx222_2
     replace hx222_3:=cl HB hx222_3
     replace p222:=eq_true p222
     replace q222:=eq_true q222
     go_wp2_with (first|((with_reducible refine gate_builtin (b:=.append) (xs:=#[.tmp 19,.tmp 26]) rfl ?_);at_builtin;refine Kd.R_append (Kd.int .i64) (w0:=w) w.heap.size rfl (.tmp 19) (.tmp 26) 51 3 (.int .i64 0) 8 rfl Try.underlying51 info3 rfl (by decide) (by omega) u3 x3_1 ((rd_T97 l0_0 x4_1).f0) [.int .i64 ((rd_T97 l0_0 x4_1).f0)] (fun _=>True) (fun _=>False) rfl rfl ?aP (fun _ hk=>hk.elim) ?aF ?aO ?aB ?aS ?aL ?_;(case aP=>exact rfl);(case aB=>exact bl);(case aF=>exact (fun _ _=>trivial));(case aO=>exact (kr HO_3));(case aS=>exact (below_size bl));(case aL=>have:=LMc13.out;omega);intro v224 w15 ho hb hg hat;rw [← Ny223.out] at ho;replace BK217:=Aside0.mk (blk_grown (bk BK217) hg (Kd.R_ne HO_3.out BK217.out (by decide)));replace HB:=Aside0.mk (hb);have HO225:=Aside0.mk (ho);clear HO_3;clear ho hb hg hat;obtain ⟨hcz16_0,hcz16_1,hcz16_2,hcz16_3,hcz16_4,hfz16_0,hfz16_1,hfz16_2,hfz16_3,hfz16_4⟩:=ck5 BK217.out;have p226:0≤(x4_1:Int):=od;have q226:x4_1 < (l0_0.length:Int):=od;obtain ⟨ad226,e226,hx226_0,hx226_1,hx226_2,hx226_3⟩:=at_T97 HR0_0.out x4_1 p226 q226;obtain rfl:ad222=ad226:=(by injection e226);replace hx226_0:=cl HB hx226_0;replace hx226_1:=cl HB hx226_1;replace hx226_2:=cl HB hx226_2;replace hx226_3:=cl HB hx226_3;replace p226:=eq_true p226;replace q226:=eq_true q226))
     go_roundg k1
     case measure=>have:=HK1.out;omega
     case rel=>exact ⟨(y223),((rd_T97 l0_0 x4_1).f2),(by first|rfl|(simp;done)|(simp [*];done)),H',⟨by have:=HK1.out;omega⟩,⟨kr HO225⟩,⟨bk BK217⟩,⟨bl⟩⟩
 ·replace c3:=Bool.eq_false_iff.mpr c3
  subst c3
  rw [if_neg nft] at H
  obtain rfl:=Option.some.inj H
  go_enter Try.func62,Try.ntmps62
  go_wp2_with (first|((with_reducible refine gate_dst (N:=1) rfl ?_);refine bx 1 #[.slice A0_0 l0_0.length c0_0,.int .i64 a0_1,.int .i64 a0_2,.int .i64 a0_3,.int .i64 a0_4] 28 ?_;intro gb217 hg w17 hbox hb;have BK217:=Aside0.mk (hbox);have GW217:=Aside0.mk (bz hg:w.heap.size≤gb217);have GE217:=GW217;replace HB:=Aside0.mk (below_step bl hb);clear hb hbox hg)|((with_reducible refine gate_dst (N:=5) rfl ?_);refine Kd.R_lit (Kd.int .i64) _ 3 ?hg (N:=5) ?hd (xs:=([]:List Int)) (inner:=[]) (ok:=fun _=>True) (okp:=fun _=>True) ?hr ?hp (fun _ hk=>hk) trivial (Below.refl _ _) (Nat.le_refl _) (by simp) ?_;(case hd=>rfl);(case hg=>rfl);(case hr=>first|(go_simp;done)|(go_simp;rfl));(case hp=>exact (Reps.none _ _));intro v219 w18 ho19 hb hg_ hnew_;clear hg_ hnew_;(first|rw [← Ny218.out] at ho19|(simp only [Int.reduceToNat] at ho19;rw [← Ny218.out] at ho19));have HO220:=Aside0.mk (Kd.R_lower ho19 (below_size bl));replace BK217:=Aside0.mk (blk_below (bk BK217) hb);replace HB:=Aside0.mk (below_step bl hb);clear hb ho19;obtain ⟨hcz20_0,hcz20_1,hcz20_2,hcz20_3,hcz20_4,hfz20_0,hfz20_1,hfz20_2,hfz20_3,hfz20_4⟩:=ck5 BK217.out)|((with_reducible refine gate_callee (f:=60) rfl ?_);refine gl (some 7) Try.func60 #[.agg #[.slice A0_0 l0_0.length c0_0,.int .i64 a0_1,.int .i64 a0_2,.int .i64 a0_3,.int .i64 a0_4]] ?_;(with_reducible refine (spec_QueueOk.calls k _ _ l0_0 a0_1 a0_2 a0_3 a0_4 false _ ?side1 ?side2 A2.out).mono ?_);(case side1=>exact kc HR0_0);(case side2=>exact HC0_0.out);rintro e w21 ⟨rfl,hb⟩;refine ⟨_,rfl,?_⟩;replace HO220:=Aside0.mk (Kd.R_below (kr HO220) hb);replace BK217:=Aside0.mk (blk_below (bk BK217) hb);replace HB:=Aside0.mk (below_step bl hb);(try clear hb);(try clear hb2);(try clear hk);(try clear hi)))
  go_ret
  exact ⟨_,er,by first|exact Kd.R_nil _ _ _ _ _|exact Kd.N_nil _ _ _ _ _|exact Kd.V_nil _ _ _ _ _|exact Kd.Q_nil _ _ _ _ _|exact Kd.S_nil _ _ _ _ _,bl⟩

/-! ### spec_l03Find: function 63 -/
def spec_l03Find.l0:Nat→Int→Int→List (S86)→Int→Option (Int)
 | 0,_,_,_,_=>none
 | k + 1,x1,x5,x228000,x228001=>if x5 < (x228000.length:Int) then (if 0≤x5 then (if ((rd_T86 x228000 x5).f2)=x1 then (some x5) else (spec_l03Find.l0 k x1 (wrap64 (x5 + 1)) x228000 x228001)) else (none)) else (some (-1))
def spec_l03Find.f (k:Nat) (l0_0:List (S86)) (a0_1:Int) (a1:Int):Option (Int):=spec_l03Find.l0 k a1 0 l0_0 a0_1
theorem spec_l03Find.mono_l:∀ k,(∀ y0 y1 y2 y3,LeO (spec_l03Find.l0 k y0 y1 y2 y3) (spec_l03Find.l0 (k + 1) y0 y1 y2 y3))
 | 0=>fun _ _ _ _ r h=>by simp [spec_l03Find.l0] at h
 | k + 1=>by
  have ih0:=spec_l03Find.mono_l k
  ·intro y0 y1 y2 y3
   unfold spec_l03Find.l0
   repeat' first
   | (with_reducible exact ih0 _ _ _ _)
   | (with_reducible exact LeO.refl _)
   | (with_reducible exact LeO.none _)
   | (with_reducible refine LeO.ite ?_ ?_)
   | (with_reducible refine LeO.bind ?_ (fun _=>?_))
   | exact ih0 _ _ _ _
   | exact LeO.none _
   | refine LeO.ite ?_ ?_
   | refine LeO.bind ?_ (fun _=>?_)
theorem spec_l03Find.mono:∀ a0 a1 a2 k,LeO (spec_l03Find.f k a0 a1 a2) (spec_l03Find.f (k + 1) a0 a1 a2):=by
 intro a0 a1 a2 k
 have ih0:=spec_l03Find.mono_l k
 unfold spec_l03Find.f
 repeat' first
   | (with_reducible exact ih0 _ _ _ _)
   | (with_reducible exact LeO.refl _)
   | (with_reducible exact LeO.none _)
   | (with_reducible refine LeO.ite ?_ ?_)
   | (with_reducible refine LeO.bind ?_ (fun _=>?_))
   | exact ih0 _ _ _ _
   | exact LeO.none _
   | refine LeO.ite ?_ ?_
   | refine LeO.bind ?_ (fun _=>?_)
set_option maxHeartbeats 8000000 in
set_option maxRecDepth 100000 in
theorem spec_l03Find.calls (k:Nat) (A0_0:Option Addr) (c0_0:Nat) (l0_0:List (S86)) (a0_1:Int) (a1:Int) (r:Int) (w:World) (hr0_0:Kd.C k86 w A0_0 l0_0.length l0_0) (hc0_0:l0_0.length≤c0_0) (h:spec_l03Find.f k l0_0 a0_1 a1=some r) :
  Calls Try.prog 63 #[.agg #[.slice A0_0 l0_0.length c0_0,.int .i64 a0_1],.int .i64 a1] w fun e w'=>e = .returned (.int .i64 r)∧Below w.heap.size w w':=by
 have hu44:=Try.underlying44
 have HR0_0:=Aside0.mk hr0_0
 have HC0_0:=Aside0.mk hc0_0
 clear hr0_0 hc0_0
 have HB:=Aside0.mk (Below.refl w.heap.size w)
 have H:(spec_l03Find.l0 k a1 0 l0_0 a0_1)=some r:=h
 clear h
 have H':=Aside0.mk H
 clear H
 go_enter Try.func63,Try.ntmps63
 go_wp2_with (first|((with_reducible refine gate_dst (N:=2) rfl ?_);refine bx 2 #[.slice A0_0 l0_0.length c0_0,.int .i64 a0_1] 44 ?_;intro gb227 hg w3 hbox hb;have BK227:=Aside0.mk (hbox);have GW227:=Aside0.mk (bz hg:w.heap.size≤gb227);have GE227:=GW227;replace HB:=Aside0.mk (below_step bl hb);clear hb hbox hg))
 go_loopg [5] k (fun kq v5 w'=>∃ (x5_1:Int),v5 = .int .i64 x5_1∧Aside0 (spec_l03Find.l0 kq a1 x5_1 l0_0 a0_1=some r)∧Aside0 (kq≤k)∧Aside0 (w'.heap[gb227]? = some (.cells #[(.slice A0_0 l0_0.length c0_0),.int .i64 a0_1] 44 (0,0)))∧Aside0 (Below w.heap.size w w'))
 case atStart=>exact ⟨(0),(by first|rfl|(simp;done)|(simp [*];done)),H',⟨Nat.le_refl _⟩,⟨bk BK227⟩,⟨bl⟩⟩
 case round =>
  clear H'
  try clear p2
  obtain ⟨x5_1,rfl,HA,HK1,BK227,HB⟩:=hrel
  cases gk with
  | zero=>exact absurd HA.out (by simp [spec_l03Find.l0])
  | succ k1 =>
   have H:=HA.out
   clear HA
   simp only [spec_l03Find.l0] at H
   by_cases c4:x5_1 < (l0_0.length:Int)
   ·rw [if_pos c4] at H
    have c4b0:decide (x5_1 < (l0_0.length:Int))=true:=decide_eq_true c4
    clear c4
    by_cases c5:0≤x5_1
    case neg =>
     rw [if_neg c5] at H
     exact absurd H (by simp)
    rw [if_pos c5] at H
    have c5b0:decide (0≤x5_1)=true:=decide_eq_true c5
    clear c5
    by_cases c6:((rd_T86 l0_0 x5_1).f2)=a1
    ·rw [if_pos c6] at H
     have c6b0:(((rd_T86 l0_0 x5_1).f2) == a1)=true:=beq_iff_eq.mpr c6
     have c6b1:(((rd_T86 l0_0 x5_1).f2) != a1)=false:=bne_eq_false_iff_eq.mpr c6
     clear c6
     obtain rfl:=Option.some.inj H
     obtain ⟨hcz7_0,hcz7_1,hfz7_0,hfz7_1⟩:=ck2 BK227.out
     have p228:0≤(x5_1:Int):=od
     have q228:x5_1 < (l0_0.length:Int):=od
     obtain ⟨ad228,e228,hx228_0,hx228_1,hx228_2⟩:=at_T86 HR0_0.out x5_1 p228 q228
     cases e228
     replace hx228_0:=cl HB hx228_0
     replace hx228_1:=cl HB hx228_1
     replace hx228_2:=cl HB hx228_2
     replace p228:=eq_true p228
     replace q228:=eq_true q228
     go_wp2
     go_ret
     exact ⟨er,bl⟩
    ·rw [if_neg c6] at H
     have c6b0:(((rd_T86 l0_0 x5_1).f2) == a1)=false:=beq_eq_false_iff_ne.mpr c6
     have c6b1:(((rd_T86 l0_0 x5_1).f2) != a1)=true:=bne_iff_ne.mpr c6
     have H':=Aside0.mk H
     clear H
     obtain ⟨hcz8_0,hcz8_1,hfz8_0,hfz8_1⟩:=ck2 BK227.out
     have p228:0≤(x5_1:Int):=od
     have q228:x5_1 < (l0_0.length:Int):=od
     obtain ⟨ad228,e228,hx228_0,hx228_1,hx228_2⟩:=at_T86 HR0_0.out x5_1 p228 q228
     cases e228
     replace hx228_0:=cl HB hx228_0
     replace hx228_1:=cl HB hx228_1
     replace hx228_2:=cl HB hx228_2
     replace p228:=eq_true p228
     replace q228:=eq_true q228
     go_wp2
     go_roundg k1
     case measure=>have:=HK1.out;omega
     case rel=>exact ⟨(wrap64 (x5_1 + 1)),(by first|rfl|(simp;done)|(simp [*];done)),H',⟨by have:=HK1.out;omega⟩,⟨bk BK227⟩,⟨bl⟩⟩
   ·rw [if_neg c4] at H
    have c4b0:decide (x5_1 < (l0_0.length:Int))=false:=decide_eq_false c4
    clear c4
    obtain rfl:=Option.some.inj H
    obtain ⟨hcz9_0,hcz9_1,hfz9_0,hfz9_1⟩:=ck2 BK227.out
    go_wp2
    go_ret
    exact ⟨er,bl⟩

end Go.Proofs.Ytnkpjpfmjkiidaa.PFnExactNextExpiry
