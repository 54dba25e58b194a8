/- Contracts of functions of the given program: what each call answers. Written by a program of this session, out of the text of the functions. -/
import Derived.Test.YtnkpjpfmjkiidaaPFnExactNextExpiryx0
import Derived.Test.YtnkpjpfmjkiidaaPFnExactNextExpiryx7
import Derived.Test.YtnkpjpfmjkiidaaZFnExactNextExpiry
namespace Go.Proofs.Ytnkpjpfmjkiidaa.PFnExactNextExpiry
open Go.RowKit Go.Proofs.YtnkpjpfmjkiidaaW.PrintWords Go.Proofs.YtnkpjpfmjkiidaaW.PrintLast Go.Proofs.YtnkpjpfmjkiidaaW.PrintMore Go.Proofs.Ytnkpjpfmjkiidaa.Giv Go.Proofs.Ytnkpjpfmjkiidaa.Prs
attribute [local go_sem] max2_int min2_int max_two min_two max_three min_three max_four min_four   -- for this text's walks alone
set_option linter.unusedVariables false
set_option linter.unusedSimpArgs false

/-! ### impl_isId: function 89 -/
def impl_isId.f (a0:Int):Option (Bool):=(impl_in.f a0 1 1000000000).bind fun t248=>(some t248)
set_option maxHeartbeats 8000000 in
set_option maxRecDepth 100000 in
theorem impl_isId.calls (a0:Int) (r:Bool) (w:World) (h:impl_isId.f a0=some r) :
  Calls Try.prog 89 #[.int .i64 a0] w fun e w'=>e = .returned (.bool r)∧Drawn0 w w':=by
 have H:((impl_in.f a0 1 1000000000).bind fun t248=>(some t248))=some r:=h
 clear h
 replace H:=Option.bind_eq_some_iff.mp H
 obtain ⟨t248,A20,H⟩:=H
 have A2:=Aside0.mk A20
 clear A20
 obtain rfl:=Option.some.inj H
 go_enter Try.func89,Try.ntmps89
 go_wp2_with (first|((with_reducible refine gate_callee (f:=88) rfl ?_);refine gl (some 4) Try.func88 #[.int .i64 a0,.int .i64 1,.int .i64 1000000000] ?_;(with_reducible refine (impl_in.calls a0 1 1000000000 t248 _ A2.out).mono ?_);rintro e w' ⟨rfl,⟨nd,rfl⟩⟩;refine ⟨_,rfl,?_⟩))
 go_ret
 exact ⟨by first|rfl|(simp;done)|(simp [*];done),by repeat (first|exact Drawn0.refl _|apply Drawn0.step)⟩

/-! ### impl_Queue_walk: function 96 -/
def impl_Queue_walk.l0:Nat→List Int→Int→List (S97)→Int→Int→Int→Int→Option (List Int × Bool)
 | 0,_,_,_,_,_,_,_=>none
 | k + 1,x6,x7,x250000,x250001,x250002,x250003,x250004=>if x7=(-1) then (some (x6,true)) else (if x7 < 0 then (some (([]:List Int),false)) else (if x7 ≥ (x250000.length:Int) then (some (([]:List Int),false)) else (if (x6.length:Int)=(x250000.length:Int) then (some (([]:List Int),false)) else (if x6.length < 17592186044416 then (if 0≤x7 then (if x7 < (x250000.length:Int) then (impl_Queue_walk.l0 k (x6 ++ [x7]) ((rd_T97 x250000 x7).f2) x250000 x250001 x250002 x250003 x250004) else (none)) else (none)) else (none)))))
def impl_Queue_walk.f (k:Nat) (l0_0:List (S97)) (a0_1:Int) (a0_2:Int) (a0_3:Int) (a0_4:Int) (a1:Int):Option (List Int × Bool):=impl_Queue_walk.l0 k ([]:List Int) a1 l0_0 a0_1 a0_2 a0_3 a0_4
theorem impl_Queue_walk.mono_l:∀ k,(∀ y0 y1 y2 y3 y4 y5 y6,LeO (impl_Queue_walk.l0 k y0 y1 y2 y3 y4 y5 y6) (impl_Queue_walk.l0 (k + 1) y0 y1 y2 y3 y4 y5 y6))
 | 0=>fun _ _ _ _ _ _ _ r h=>by simp [impl_Queue_walk.l0] at h
 | k + 1=>by
  have ih0:=impl_Queue_walk.mono_l k
  ·intro y0 y1 y2 y3 y4 y5 y6
   unfold impl_Queue_walk.l0
   repeat' first
   | (with_reducible exact ih0 _ _ _ _ _ _ _)
   | (with_reducible exact LeO.refl _)
   | (with_reducible exact LeO.none _)
   | (with_reducible refine LeO.ite ?_ ?_)
   | (with_reducible refine LeO.bind ?_ (fun _=>?_))
   | exact ih0 _ _ _ _ _ _ _
   | exact LeO.none _
   | refine LeO.ite ?_ ?_
   | refine LeO.bind ?_ (fun _=>?_)
theorem impl_Queue_walk.mono:∀ a0 a1 a2 a3 a4 a5 k,LeO (impl_Queue_walk.f k a0 a1 a2 a3 a4 a5) (impl_Queue_walk.f (k + 1) a0 a1 a2 a3 a4 a5):=by
 intro a0 a1 a2 a3 a4 a5 k
 have ih0:=impl_Queue_walk.mono_l k
 unfold impl_Queue_walk.f
 repeat' first
   | (with_reducible exact ih0 _ _ _ _ _ _ _)
   | (with_reducible exact LeO.refl _)
   | (with_reducible exact LeO.none _)
   | (with_reducible refine LeO.ite ?_ ?_)
   | (with_reducible refine LeO.bind ?_ (fun _=>?_))
   | exact ih0 _ _ _ _ _ _ _
   | exact LeO.none _
   | refine LeO.ite ?_ ?_
   | refine LeO.bind ?_ (fun _=>?_)
set_option maxHeartbeats 8000000 in
set_option maxRecDepth 100000 in
theorem impl_Queue_walk.calls (k:Nat) (A0_0:Option Addr) (c0_0:Nat) (l0_0:List (S97)) (a0_1:Int) (a0_2:Int) (a0_3:Int) (a0_4:Int) (a1:Int) (r1:List Int) (r2:Bool) (w:World) (hr0_0:Kd.C k97 w A0_0 l0_0.length l0_0) (hc0_0:l0_0.length≤c0_0) (h:impl_Queue_walk.f k l0_0 a0_1 a0_2 a0_3 a0_4 a1=some (r1,r2)) :
  Calls Try.prog 96 #[.agg #[.slice A0_0 l0_0.length c0_0,.int .i64 a0_1,.int .i64 a0_2,.int .i64 a0_3,.int .i64 a0_4],.int .i64 a1] w fun e w'=>∃ v0_:Value,e = .returned (.tuple #[v0_,.bool r2])∧Kd.R (Kd.int .i64) 3 w' w.heap.size (fun _=>True) v0_ r1∧Below w.heap.size w w':=by
 have hu28:=Try.underlying28
 have HR0_0:=Aside0.mk hr0_0
 have HC0_0:=Aside0.mk hc0_0
 clear hr0_0 hc0_0
 have HB:=Aside0.mk (Below.refl w.heap.size w)
 have H:(impl_Queue_walk.l0 k ([]:List Int) a1 l0_0 a0_1 a0_2 a0_3 a0_4)=some (r1,r2):=h
 clear h
 have H':=Aside0.mk H
 clear H
 go_enter Try.func96,Try.ntmps96
 go_wp2_with (first|((with_reducible refine gate_dst (N:=2) rfl ?_);(try (refine gate_guard (by rfl) ?_;dsimp only));refine bx 2 #[.slice A0_0 l0_0.length c0_0,.int .i64 a0_1,.int .i64 a0_2,.int .i64 a0_3,.int .i64 a0_4] 28 ?_;intro gb249 hg w3 hbox hb;have BK249:=Aside0.mk (hbox);have GW249:=Aside0.mk (bz hg:w.heap.size≤gb249);have GE249:=GW249;replace HB:=Aside0.mk (below_step bl hb);clear hb hbox hg))
 go_loopg [6,7] k (fun kq v6 v7 w'=>∃ (x6_1:List Int) (x7_1:Int),v7 = .int .i64 x7_1∧Aside0 (impl_Queue_walk.l0 kq x6_1 x7_1 l0_0 a0_1 a0_2 a0_3 a0_4=some (r1,r2))∧Aside0 (kq≤k)∧Aside0 (Kd.R (Kd.int .i64) 3 w' w.heap.size (fun _=>True) v6 x6_1)∧Aside0 (w'.heap[gb249]? = some (.cells #[(.slice A0_0 l0_0.length c0_0),.int .i64 a0_1,.int .i64 a0_2,.int .i64 a0_3,.int .i64 a0_4] 28 (0,0)))∧Aside0 (Below w.heap.size w w'))
 case atStart=>exact ⟨(([]:List Int)),(a1),(by first|rfl|(simp;done)|(simp [*];done)),H',⟨Nat.le_refl _⟩,⟨by first|exact Kd.R_nil _ _ _ _ _|exact Kd.N_nil _ _ _ _ _|exact Kd.V_nil _ _ _ _ _|exact Kd.Q_nil _ _ _ _ _|exact Kd.S_nil _ _ _ _ _⟩,⟨bk BK249⟩,⟨bl⟩⟩
 case round =>
  clear H'
  try clear p2
  obtain ⟨x6_1,x7_1,rfl,HA,HK1,HO_6,BK249,HB⟩:=hrel
  cases gk with
  | zero=>exact absurd HA.out (by simp [impl_Queue_walk.l0])
  | succ k1 =>
   have H:=HA.out
   clear HA
   simp only [impl_Queue_walk.l0] at H
   by_cases c4:x7_1=(-1)
   ·rw [if_pos c4] at H
    have c4b0:(x7_1 == (-1))=true:=beq_iff_eq.mpr c4
    have c4b1:(x7_1 != (-1))=false:=bne_eq_false_iff_eq.mpr c4
    clear c4
    simp only [Option.some.injEq,Prod.mk.injEq] at H
    obtain ⟨rfl,rfl⟩:=H
    go_wp2
    go_ret2
    exact ⟨_,er,kr HO_6,bl⟩
   ·rw [if_neg c4] at H
    have c4b0:(x7_1 == (-1))=false:=beq_eq_false_iff_ne.mpr c4
    have c4b1:(x7_1 != (-1))=true:=bne_iff_ne.mpr c4
    by_cases c5:x7_1 < 0
    ·rw [if_pos c5] at H
     have c5b0:decide (x7_1 < 0)=true:=decide_eq_true c5
     clear c5
     simp only [Option.some.injEq,Prod.mk.injEq] at H
     obtain ⟨rfl,rfl⟩:=H
     go_wp2
     go_ret2
     exact ⟨_,er,by first|exact Kd.R_nil _ _ _ _ _|exact Kd.N_nil _ _ _ _ _|exact Kd.V_nil _ _ _ _ _|exact Kd.Q_nil _ _ _ _ _|exact Kd.S_nil _ _ _ _ _,bl⟩
    ·rw [if_neg c5] at H
     have c5b0:decide (x7_1 < 0)=false:=decide_eq_false c5
     clear c5
     by_cases c6:x7_1 ≥ (l0_0.length:Int)
     ·rw [if_pos c6] at H
      have c6b0:decide ((l0_0.length:Int)≤x7_1)=true:=decide_eq_true c6
      clear c6
      simp only [Option.some.injEq,Prod.mk.injEq] at H
      obtain ⟨rfl,rfl⟩:=H
      obtain ⟨hcz7_0,hcz7_1,hcz7_2,hcz7_3,hcz7_4,hfz7_0,hfz7_1,hfz7_2,hfz7_3,hfz7_4⟩:=ck5 BK249.out
      go_wp2
      go_ret2
      exact ⟨_,er,by first|exact Kd.R_nil _ _ _ _ _|exact Kd.N_nil _ _ _ _ _|exact Kd.V_nil _ _ _ _ _|exact Kd.Q_nil _ _ _ _ _|exact Kd.S_nil _ _ _ _ _,bl⟩
     ·rw [if_neg c6] at H
      have c6b0:decide ((l0_0.length:Int)≤x7_1)=false:=decide_eq_false c6
      clear c6
      by_cases c8:(x6_1.length:Int)=(l0_0.length:Int)
      ·rw [if_pos c8] at H
       have c8b0:((x6_1.length:Int) == (l0_0.length:Int))=true:=beq_iff_eq.mpr c8
       have c8b1:((x6_1.length:Int) != (l0_0.length:Int))=false:=bne_eq_false_iff_eq.mpr c8
       have c8b2:(x6_1.length == l0_0.length)=true:=by first|simpa using c8|(simp at c8 ⊢;omega)
       clear c8
       simp only [Option.some.injEq,Prod.mk.injEq] at H
       obtain ⟨rfl,rfl⟩:=H
       obtain ⟨hcz9_0,hcz9_1,hcz9_2,hcz9_3,hcz9_4,hfz9_0,hfz9_1,hfz9_2,hfz9_3,hfz9_4⟩:=ck5 BK249.out
       obtain ⟨Ao10,co10,eo10⟩:=Kd.R_slice HO_6.out
       subst eo10
       go_wp2
       go_ret2
       exact ⟨_,er,by first|exact Kd.R_nil _ _ _ _ _|exact Kd.N_nil _ _ _ _ _|exact Kd.V_nil _ _ _ _ _|exact Kd.Q_nil _ _ _ _ _|exact Kd.S_nil _ _ _ _ _,bl⟩
      ·rw [if_neg c8] at H
       have c8b0:((x6_1.length:Int) == (l0_0.length:Int))=false:=beq_eq_false_iff_ne.mpr c8
       have c8b1:((x6_1.length:Int) != (l0_0.length:Int))=true:=bne_iff_ne.mpr c8
       have c8b2:(x6_1.length == l0_0.length)=false:=by first|simpa using c8|(simp at c8 ⊢;omega)
       by_cases c11:x6_1.length < 17592186044416
       ·rw [if_pos c11] at H
        have LMc11:=Aside0.mk c11
        clear c11
        obtain ⟨y250,hy250⟩:∃ y_:List Int,y_=(x6_1 ++ [x7_1]):=⟨_,rfl⟩
        replace H:(if 0≤x7_1 then (if x7_1 < (l0_0.length:Int) then (impl_Queue_walk.l0 k1 y250 ((rd_T97 l0_0 x7_1).f2) l0_0 a0_1 a0_2 a0_3 a0_4) else (none)) else (none))=some (r1,r2):=by first|(rw [hy250];with_reducible exact H)|(have H2_:=(Option.bind_some _ _).symm.trans H;rw [hy250];with_reducible exact H2_)|(have H2_:=(Option.bind_some _ _).symm.trans H;with_reducible exact H2_)|with_reducible exact H|(rw [hy250];exact H)|exact H
        have Ny250:=Aside0.mk hy250
        clear hy250
        by_cases c12:0≤x7_1
        case neg =>
         rw [if_neg c12] at H
         exact absurd H (by simp)
        rw [if_pos c12] at H
        have c12b0:decide (0≤x7_1)=true:=decide_eq_true c12
        clear c12
        by_cases c13:x7_1 < (l0_0.length:Int)
        case neg =>
         rw [if_neg c13] at H
         exact absurd H (by simp)
        rw [if_pos c13] at H
        have c13b0:decide (x7_1 < (l0_0.length:Int))=true:=decide_eq_true c13
        clear c13
        have H':=Aside0.mk H
        clear H
        obtain ⟨hcz14_0,hcz14_1,hcz14_2,hcz14_3,hcz14_4,hfz14_0,hfz14_1,hfz14_2,hfz14_3,hfz14_4⟩:=ck5 BK249.out
        obtain ⟨Ao15,co15,eo15⟩:=Kd.R_slice HO_6.out
        subst eo15
        go_wp2_with (first|((with_reducible refine gate_builtin (b:=.append) (xs:=#[.tmp 34,.tmp 36]) rfl ?_);(try (refine gate_guard (by rfl) ?_;dsimp only));at_builtin;refine Kd.R_append (Kd.int .i64) (w0:=w) w.heap.size rfl (.tmp 34) (.tmp 36) 51 3 (.int .i64 0) 8 rfl Try.underlying51 info3 rfl (by decide) (by omega) (.slice Ao15 x6_1.length co15) x6_1 x7_1 [.int .i64 x7_1] (fun _=>True) (fun _=>False) rfl rfl ?aP (fun _ hk=>hk.elim) ?aF ?aO ?aB ?aS ?aL ?_;(case aP=>exact rfl);(case aB=>exact bl);(case aF=>exact (fun _ _=>trivial));(case aO=>exact (kr HO_6));(case aS=>exact (below_size bl));(case aL=>have:=LMc11.out;omega);intro v251 w16 ho hb hg hat;rw [← Ny250.out] at ho;replace BK249:=Aside0.mk (blk_grown (bk BK249) hg (Kd.R_ne HO_6.out BK249.out (by decide)));replace HB:=Aside0.mk (hb);have HO252:=Aside0.mk (ho);clear HO_6;clear ho hb hg hat;obtain ⟨hcz17_0,hcz17_1,hcz17_2,hcz17_3,hcz17_4,hfz17_0,hfz17_1,hfz17_2,hfz17_3,hfz17_4⟩:=ck5 BK249.out;have p253:0≤(x7_1:Int):=od;have q253:x7_1 < (l0_0.length:Int):=od;obtain ⟨ad253,e253,hx253_0,hx253_1,hx253_2,hx253_3⟩:=at_T97 HR0_0.out x7_1 p253 q253;cases e253;replace hx253_0:=cl HB hx253_0;replace hx253_1:=cl HB hx253_1;replace hx253_2:=cl HB hx253_2;replace hx253_3:=cl HB hx253_3;replace p253:=eq_true p253;replace q253:=eq_true q253))
        go_roundg k1
        case measure=>have:=HK1.out;omega
        case rel=>exact ⟨(y250),((rd_T97 l0_0 x7_1).f2),(by first|rfl|(simp;done)|(simp [*];done)),H',⟨by have:=HK1.out;omega⟩,⟨kr HO252⟩,⟨bk BK249⟩,⟨bl⟩⟩
       ·rw [if_neg c11] at H
        exact absurd H (by simp)

/-! ### slices_Index_int_int: function 112 -/
def slices_Index_int_int.l0:Nat→List Int→Int→Int→Int→Option (Int)
 | 0,_,_,_,_=>none
 | k + 1,x0,x1,x7,x8=>if x8 < x7 then (if 0≤x8 then (if x8 < (x0.length:Int) then (if x1=(rd x0 x8) then (some x8) else (slices_Index_int_int.l0 k x0 x1 x7 (wrap64 (x8 + 1)))) else (none)) else (none)) else (some (-1))
def slices_Index_int_int.f (k:Nat) (l0:List Int) (a1:Int):Option (Int):=slices_Index_int_int.l0 k l0 a1 (l0.length:Int) 0
theorem slices_Index_int_int.mono_l:∀ k,(∀ y0 y1 y2 y3,LeO (slices_Index_int_int.l0 k y0 y1 y2 y3) (slices_Index_int_int.l0 (k + 1) y0 y1 y2 y3))
 | 0=>fun _ _ _ _ r h=>by simp [slices_Index_int_int.l0] at h
 | k + 1=>by
  have ih0:=slices_Index_int_int.mono_l k
  ·intro y0 y1 y2 y3
   unfold slices_Index_int_int.l0
   repeat' first
   | (with_reducible exact ih0 _ _ _ _)
   | (with_reducible exact LeO.refl _)
   | (with_reducible exact LeO.none _)
   | (with_reducible refine LeO.ite ?_ ?_)
   | (with_reducible refine LeO.bind ?_ (fun _=>?_))
   | exact ih0 _ _ _ _
   | exact LeO.none _
   | refine LeO.ite ?_ ?_
   | refine LeO.bind ?_ (fun _=>?_)
theorem slices_Index_int_int.mono:∀ a0 a1 k,LeO (slices_Index_int_int.f k a0 a1) (slices_Index_int_int.f (k + 1) a0 a1):=by
 intro a0 a1 k
 have ih0:=slices_Index_int_int.mono_l k
 unfold slices_Index_int_int.f
 repeat' first
   | (with_reducible exact ih0 _ _ _ _)
   | (with_reducible exact LeO.refl _)
   | (with_reducible exact LeO.none _)
   | (with_reducible refine LeO.ite ?_ ?_)
   | (with_reducible refine LeO.bind ?_ (fun _=>?_))
   | exact ih0 _ _ _ _
   | exact LeO.none _
   | refine LeO.ite ?_ ?_
   | refine LeO.bind ?_ (fun _=>?_)
set_option maxHeartbeats 8000000 in
set_option maxRecDepth 100000 in
theorem slices_Index_int_int.calls (k:Nat) (A0:Option Addr) (c0:Nat) (l0:List Int) (a1:Int) (r:Int) (w:World) (hr0:Kd.C (Kd.int .i64) w A0 l0.length l0) (hc0:l0.length≤c0) (h:slices_Index_int_int.f k l0 a1=some r) :
  Calls Try.prog 112 #[.slice A0 l0.length c0,.int .i64 a1] w fun e w'=>e = .returned (.int .i64 r)∧Drawn0 w w':=by
 have HR0:=Aside0.mk hr0
 have HC0:=Aside0.mk hc0
 clear hr0 hc0
 have H:(slices_Index_int_int.l0 k l0 a1 (l0.length:Int) 0)=some r:=h
 clear h
 have H':=Aside0.mk H
 clear H
 go_enter Try.func112,Try.ntmps112
 go_wp2
 go_loopg [8] k (fun kq v8 w'=>∃ (x8_1:Int),v8 = .int .i64 x8_1∧Aside0 (slices_Index_int_int.l0 kq l0 a1 (l0.length:Int) x8_1=some r)∧Aside0 (kq≤k)∧Drawn0 w w')
 case atStart=>exact ⟨(0),(by first|rfl|(simp;done)|(simp [*];done)),H',⟨Nat.le_refl _⟩,by repeat (first|exact Drawn0.refl _|apply Drawn0.step)⟩
 case round =>
  clear H'
  try clear c1
  try clear p2
  obtain ⟨x8_1,rfl,HA,HK1,⟨m1,rfl⟩⟩:=hrel
  cases gk with
  | zero=>exact absurd HA.out (by simp [slices_Index_int_int.l0])
  | succ k1 =>
   have H:=HA.out
   clear HA
   simp only [slices_Index_int_int.l0] at H
   by_cases c3:x8_1 < (l0.length:Int)
   ·rw [if_pos c3] at H
    have c3b0:decide (x8_1 < (l0.length:Int))=true:=decide_eq_true c3
    clear c3
    by_cases c4:0≤x8_1
    case neg =>
     rw [if_neg c4] at H
     exact absurd H (by simp)
    rw [if_pos c4] at H
    have c4b0:decide (0≤x8_1)=true:=decide_eq_true c4
    clear c4
    by_cases c5:x8_1 < (l0.length:Int)
    case neg =>
     rw [if_neg c5] at H
     exact absurd H (by simp)
    rw [if_pos c5] at H
    have c5b0:decide (x8_1 < (l0.length:Int))=true:=decide_eq_true c5
    clear c5
    by_cases c6:a1=(rd l0 x8_1)
    ·rw [if_pos c6] at H
     have c6b0:(a1 == (rd l0 x8_1))=true:=beq_iff_eq.mpr c6
     have c6b1:(a1 != (rd l0 x8_1))=false:=bne_eq_false_iff_eq.mpr c6
     clear c6
     obtain rfl:=Option.some.inj H
     have p254:0≤(x8_1:Int):=od
     have q254:x8_1 < (l0.length:Int):=od
     obtain ⟨ad254,e254,hx254_0⟩:=Kd.at_int HR0.out x8_1 p254 q254
     cases e254
     replace p254:=eq_true p254
     replace q254:=eq_true q254
     go_wp2
     go_ret
     exact ⟨by first|rfl|(simp;done)|(simp [*];done),by repeat (first|exact Drawn0.refl _|apply Drawn0.step)⟩
    ·rw [if_neg c6] at H
     have c6b0:(a1 == (rd l0 x8_1))=false:=beq_eq_false_iff_ne.mpr c6
     have c6b1:(a1 != (rd l0 x8_1))=true:=bne_iff_ne.mpr c6
     have H':=Aside0.mk H
     clear H
     have p254:0≤(x8_1:Int):=od
     have q254:x8_1 < (l0.length:Int):=od
     obtain ⟨ad254,e254,hx254_0⟩:=Kd.at_int HR0.out x8_1 p254 q254
     cases e254
     replace p254:=eq_true p254
     replace q254:=eq_true q254
     go_wp2
     go_roundg k1
     case measure=>have:=HK1.out;omega
     case rel=>exact ⟨(wrap64 (x8_1 + 1)),(by first|rfl|(simp;done)|(simp [*];done)),H',⟨by have:=HK1.out;omega⟩,by repeat (first|exact Drawn0.refl _|apply Drawn0.step)⟩
   ·rw [if_neg c3] at H
    have c3b0:decide (x8_1 < (l0.length:Int))=false:=decide_eq_false c3
    clear c3
    obtain rfl:=Option.some.inj H
    go_wp2
    go_ret
    exact ⟨by first|rfl|(simp;done)|(simp [*];done),by repeat (first|exact Drawn0.refl _|apply Drawn0.step)⟩

/-! ### slices_Contains_int_int: function 97 -/
def slices_Contains_int_int.f (k:Nat) (l0:List Int) (a1:Int):Option (Bool):=(slices_Index_int_int.f k l0 a1).bind fun t255=>(some (decide (t255 ≥ 0)))
theorem slices_Contains_int_int.mono:∀ a0 a1 k,LeO (slices_Contains_int_int.f k a0 a1) (slices_Contains_int_int.f (k + 1) a0 a1):=by
 intro a0 a1 k
 unfold slices_Contains_int_int.f
 repeat' first
   | (with_reducible exact slices_Index_int_int.mono _ _ _)
   | (with_reducible exact LeO.refl _)
   | (with_reducible exact LeO.none _)
   | (with_reducible refine LeO.ite ?_ ?_)
   | (with_reducible refine LeO.bind ?_ (fun _=>?_))
   | exact slices_Index_int_int.mono _ _ _
   | exact LeO.none _
   | refine LeO.ite ?_ ?_
   | refine LeO.bind ?_ (fun _=>?_)
set_option maxHeartbeats 8000000 in
set_option maxRecDepth 100000 in
theorem slices_Contains_int_int.calls (k:Nat) (A0:Option Addr) (c0:Nat) (l0:List Int) (a1:Int) (r:Bool) (w:World) (hr0:Kd.C (Kd.int .i64) w A0 l0.length l0) (hc0:l0.length≤c0) (h:slices_Contains_int_int.f k l0 a1=some r) :
  Calls Try.prog 97 #[.slice A0 l0.length c0,.int .i64 a1] w fun e w'=>e = .returned (.bool r)∧Drawn0 w w':=by
 have HR0:=Aside0.mk hr0
 have HC0:=Aside0.mk hc0
 clear hr0 hc0
 have H:((slices_Index_int_int.f k l0 a1).bind fun t255=>(some (decide (t255 ≥ 0))))=some r:=h
 clear h
 replace H:=Option.bind_eq_some_iff.mp H
 obtain ⟨t255,A30,H⟩:=H
 have A3:=Aside0.mk A30
 clear A30
 obtain rfl:=Option.some.inj H
 go_enter Try.func97,Try.ntmps97
 go_wp2_with (first|((with_reducible refine gate_callee (f:=112) rfl ?_);refine gl (some 7) Try.func112 #[.slice A0 l0.length c0,.int .i64 a1] ?_;(with_reducible refine (slices_Index_int_int.calls k _ _ l0 a1 t255 _ ?side1 ?side2 A3.out).mono ?_);(case side1=>repeat (first|exact HR0.out|(with_reducible refine Kd.C_alloc ?_ _)|(with_reducible refine Kd.C_drewN ?_ _)|(with_reducible refine Kd.C_drew ?_)));(case side2=>exact HC0.out);rintro e w' ⟨rfl,⟨nd,rfl⟩⟩;refine ⟨_,rfl,?_⟩))
 go_ret
 exact ⟨by first|rfl|(simp;done)|(simp [*];done),by repeat (first|exact Drawn0.refl _|apply Drawn0.step)⟩

end Go.Proofs.Ytnkpjpfmjkiidaa.PFnExactNextExpiry
