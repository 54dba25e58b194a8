/- Contracts of functions of the given program: what each call answers. Written by a program of this session, out of the text of the functions. -/
import Derived.Test.YtnkpjpfmjkiidaaPFnExactMoveBackx0
import Derived.Test.YtnkpjpfmjkiidaaPFnExactMoveBackx7
import Derived.Test.YtnkpjpfmjkiidaaZFnExactMoveBack
namespace Go.Proofs.Ytnkpjpfmjkiidaa.PFnExactMoveBack
open Go.RowKit Go.Proofs.YtnkpjpfmjkiidaaW.PrintWords Go.Proofs.YtnkpjpfmjkiidaaW.PrintLast Go.Proofs.YtnkpjpfmjkiidaaW.PrintMore Go.Proofs.Ytnkpjpfmjkiidaa.Giv Go.Proofs.Ytnkpjpfmjkiidaa.Prs
attribute [local go_sem] max2_int min2_int max_two min_two max_three min_three max_four min_four   -- for this text's walks alone
set_option linter.unusedVariables false
set_option linter.unusedSimpArgs false

/-! ### impl_Slot_85: function 85: the first place that a test takes -/
set_option maxHeartbeats 8000000 in
set_option maxRecDepth 100000 in
theorem impl_Slot_85.any (p:S97→Bool) (fn:Nat) (lb:Array Value) (A0:Option Addr) (c0:Nat) (l0:List S97) (w:World) (hr0:Kd.C k97 w A0 l0.length l0) (hc0:l0.length≤c0)
  (eg:∀ args w,(callFunc fn args).run Try.prog w = .ok (.enter fn args) w)
  (hp:∀ (W:World) (x:S97),Below w.heap.size w W→Calls Try.prog fn (#[.agg #[.int .i64 x.f0,.int .i64 x.f1,.int .i64 x.f2,.bool x.f3]] ++ lb) W fun e w'=>e = .returned (.bool (p x))∧Below W.heap.size W w') :
  Calls Try.prog 85 #[.slice A0 l0.length c0,.func (.func fn) #[] lb] w fun e w'=>e = .returned (.int .i64 (findI p l0 0))∧Below w.heap.size w w':=by
 have HR0:=Aside0.mk hr0
 have HC0:=Aside0.mk hc0
 have hlen:l0.length≤9223372036854775807:=hr0.2.1
 clear hr0 hc0
 obtain ⟨R,hR⟩:∃ R,R=findI p l0 0:=⟨_,rfl⟩
 rw [← hR]
 have HR':=Aside0.mk hR
 clear hR
 go_enter Try.func85,Try.ntmps85
 go_wp2
 go_loopg [5,8] l0.length (fun gg _ v8 w'=>∃ x8_1:Int,v8 = .int .i64 x8_1∧Aside0 (0≤x8_1∧x8_1≤l0.length∧l0.length - x8_1.toNat≤gg)∧Aside0 (R=findI p (l0.drop x8_1.toNat) x8_1)∧Aside0 (Below w.heap.size w w'))
 case atStart=>exact ⟨0,rfl,⟨by omega,by omega,by omega⟩,⟨HR'.out⟩,⟨Below.refl _ _⟩⟩
 case round =>
  clear HR'
  obtain ⟨x8_1,rfl,HG,HA,HB⟩:=hrel
  have HL:=Aside0.mk hlen
  clear hlen
  by_cases c3:x8_1 < (l0.length:Int)
  ·have c3b0:decide (x8_1 < (l0.length:Int))=true:=decide_eq_true c3
   have p124:0≤x8_1:=HG.out.1
   have HRr:=Aside0.mk (Kd.C_below HR0.out HB.out)
   have H:=HA.out
   have hlt:x8_1.toNat < l0.length:=by omega
   have hcons:l0.drop x8_1.toNat=l0[x8_1.toNat] :: l0.drop (x8_1.toNat + 1):=List.drop_eq_getElem_cons hlt
   rw [hcons] at H
   obtain ⟨ad,e,hx0,hx1,hx2,hx3⟩:=at_T97 HRr.out x8_1 p124 c3
   cases e
   have hrd:rd_T97 l0 x8_1=l0[x8_1.toNat]:=by unfold rd_T97;rw [List.getD_eq_getElem?_getD,List.getElem?_eq_getElem hlt];rfl
   rw [hrd] at hx0 hx1 hx2 hx3
   have hcall:=hp wr l0[x8_1.toNat] HB.out
   clear hcons hrd
   generalize l0[x8_1.toNat]=x at H hx0 hx1 hx2 hx3 hcall
   have H':=Aside0.mk H
   have hw:wrap64 (x8_1 + 1)=x8_1 + 1:=by have:=HL.out;unfold wrap64;omega
   have HW:=Aside0.mk hw
   have HX:=Aside0.mk hlt
   clear H hp HRr hw hlt HA
   replace p124:=eq_true p124
   replace c3:=eq_true c3
   cases hq:p x with
   | true =>
    rw [hq] at hcall
    have HQ:=Aside0.mk hq
    clear hq
    go_wp2_with fail
    refine hcall.mono ?_
    rintro e w' ⟨rfl,hb'⟩
    go_wp2
    go_ret
    exact ⟨by rw [H'.out,findI,if_pos HQ.out];rfl,below_step HB.out hb'⟩
   | false =>
    rw [hq] at hcall
    have HQ:=Aside0.mk hq
    clear hq
    go_wp2_with fail
    refine hcall.mono ?_
    rintro e w' ⟨rfl,hb'⟩
    go_wp2
    go_roundg (l0.length - (x8_1.toNat + 1))
    case measure=>have:=HG.out;have:=HX.out;omega
    case rel=>exact ⟨wrap64 (x8_1 + 1),rfl,⟨by have:=HG.out;have:=HX.out;rw [HW.out];omega⟩,⟨by rw [H'.out,findI,if_neg (by rw [HQ.out];decide),HW.out,show (x8_1 + 1).toNat=x8_1.toNat + 1 by have:=HG.out;omega]⟩,⟨below_step HB.out hb'⟩⟩
  ·have hd:decide (x8_1 < (l0.length:Int))=false:=decide_eq_false c3
   have H:=HA.out
   rw [List.drop_eq_nil_of_le (by omega)] at H
   have H':=Aside0.mk H
   clear H hp c3
   go_wp2
   go_ret
   exact ⟨by rw [H'.out];rfl,HB.out⟩

/-! ### impl_PlaceOf: function 52 -/
theorem impl_PlaceOf.test (b0:Int) (b1:Int) (b2:Int) (b3:Bool) (x:Int) (g:Nat) (w:World) (hc:w.cell? ⟨g,0,none⟩=some (.int .i64 x)) (hg:g < w.heap.size) :
  Calls Try.prog 86 #[.agg #[.int .i64 b0,.int .i64 b1,.int .i64 b2,.bool b3],.pointer (some ⟨g,0,none⟩)] w fun e w'=>e = .returned (.bool (b3 && b0 == x))∧Below w.heap.size w w':=by
 have hu:=Try.underlying97
 cases b3
 all_goals
  go_enter Try.func86,Try.ntmps86
  go_wp2
  go_ret
  exact ⟨by first|rfl|simp,(Below.refl _ _).alloc (Nat.le_refl _) _⟩
def impl_PlaceOf.f (k:Nat) (l0_0:List (S97)) (a0_1:Int) (a0_2:Int) (a0_3:Int) (a0_4:Int) (a1:Int):Option (Int):=(impl_QueueOk.f k l0_0 a0_1 a0_2 a0_3 a0_4).bind fun t=>(if t=true then (some (findI (fun s:S97=>s.f3 && s.f0 == a1) l0_0 0)) else (some (-1)))
theorem impl_PlaceOf.mono:∀ a0 a1 a2 a3 a4 a5 k,LeO (impl_PlaceOf.f k a0 a1 a2 a3 a4 a5) (impl_PlaceOf.f (k + 1) a0 a1 a2 a3 a4 a5):=by
 intro a0 a1 a2 a3 a4 a5 k
 unfold impl_PlaceOf.f
 exact LeO.bind (impl_QueueOk.mono _ _ _ _ _ _) (fun _=>LeO.refl _)
set_option maxHeartbeats 8000000 in
set_option maxRecDepth 100000 in
theorem impl_PlaceOf.calls (k:Nat) (A0_0:Option Addr) (c0_0:Nat) (l0_0:List (S97)) (a0_1:Int) (a0_2:Int) (a0_3:Int) (a0_4:Int) (a1:Int) (r:Int) (w:World) (hr0_0:Kd.C k97 w A0_0 l0_0.length l0_0) (hc0_0:l0_0.length≤c0_0) (h:impl_PlaceOf.f k l0_0 a0_1 a0_2 a0_3 a0_4 a1=some r) :
  Calls Try.prog 52 #[.agg #[.slice A0_0 l0_0.length c0_0,.int .i64 a0_1,.int .i64 a0_2,.int .i64 a0_3,.int .i64 a0_4],.int .i64 a1] w fun e w'=>e = .returned (.int .i64 r)∧Below w.heap.size w w':=by
 obtain ⟨t,hq,H⟩:=Option.bind_eq_some_iff.mp h
 have hu28:=Try.underlying28
 have HR0:=Aside0.mk hr0_0
 have HC0:=Aside0.mk hc0_0
 have HQ:=Aside0.mk hq
 have HH:=Aside0.mk H
 clear hr0_0 hc0_0 h hq H
 go_enter Try.func52,Try.ntmps52
 go_wp2_with fail
 refine (impl_QueueOk.calls k A0_0 c0_0 l0_0 a0_1 a0_2 a0_3 a0_4 t _ (by repeat (first|exact HR0.out|(with_reducible refine Kd.C_alloc ?_ _))) HC0.out HQ.out).mono ?_
 rintro e w1 ⟨rfl,hb1⟩
 have hsz:w.heap.size + 2≤w1.heap.size:=by have:=hb1.size;simp at this;omega
 have hc0:w1.cell? ⟨w.heap.size,0,none⟩=some (.slice A0_0 l0_0.length c0_0):=(hb1.cell (p:=⟨w.heap.size,0,none⟩) (by simp <;> omega)).trans (by simp)
 have hc1:w1.cell? ⟨w.heap.size + 1,0,none⟩=some (.int .i64 a1):=(hb1.cell (p:=⟨w.heap.size + 1,0,none⟩) (by simp)).trans (by simp)
 have HB1:=Aside0.mk ((((Below.refl w.heap.size w).alloc (Nat.le_refl _) _).alloc (by simp) _).trans (hb1.mono (by simp;omega)))
 have HS:=Aside0.mk hsz
 clear hb1 hsz
 cases t with
 | false =>
  have H2:=HH.out
  obtain rfl:=Option.some.inj H2
  clear HH
  go_wp2
  go_ret
  exact ⟨rfl,HB1.out⟩
 | true =>
  have H2:=HH.out
  obtain rfl:=Option.some.inj H2
  clear HH
  have HC1:=Aside0.mk hc1
  clear hc1
  go_wp2_with fail
  refine (impl_Slot_85.any (fun s:S97=>s.f3 && s.f0 == a1) 86 #[.pointer (some ⟨w.heap.size + 1,0,none⟩)] A0_0 c0_0 l0_0 w1 (Kd.C_below HR0.out HB1.out) HC0.out (enters_of' Try.func86 (by kernel_rfl) rfl) (fun W x hb=>(impl_PlaceOf.test x.f0 x.f1 x.f2 x.f3 a1 (w.heap.size + 1) W ?cell ?lt))).mono ?_
  case cell=>exact (hb.cell (p:=⟨w.heap.size + 1,0,none⟩) (show w.heap.size + 1 < w1.heap.size by have:=HS.out;omega)).trans HC1.out
  case lt=>have:=hb.size;have:=HS.out;omega
  rintro e w' ⟨rfl,hb⟩
  go_wp2
  go_ret
  exact ⟨rfl,HB1.out.trans (hb.mono (by have:=HS.out;omega))⟩

/-! ### impl_Slot_87: function 87 -/
def impl_Slot_87.f (l0:List (S97)):Option ((List (S97))):=(some (([]:List (S97)):List (S97))).bind fun y252=>(if y252.length + l0.length < 4398046511104 then (some (y252 ++ l0)) else (none))
set_option maxHeartbeats 8000000 in
set_option maxRecDepth 100000 in
theorem impl_Slot_87.calls (A0:Option Addr) (c0:Nat) (l0:List (S97)) (r:List (S97)) (w:World) (hr0:Kd.C k97 w A0 l0.length l0) (hc0:l0.length≤c0) (h:impl_Slot_87.f l0=some r) :
  Calls Try.prog 87 #[.slice A0 l0.length c0] w fun e w'=>∃ v0_:Value,e = .returned (v0_)∧Kd.R k97 97 w' w.heap.size (fun _=>True) v0_ r∧Below w.heap.size w w':=by
 have HR0:=Aside0.mk hr0
 have HC0:=Aside0.mk hc0
 clear hr0 hc0
 have HB:=Aside0.mk (Below.refl w.heap.size w)
 have H:((some (([]:List (S97)):List (S97))).bind fun y252=>(if y252.length + l0.length < 4398046511104 then (some (y252 ++ l0)) else (none)))=some r:=h
 clear h
 obtain ⟨y252,hy252⟩:∃ y_:List (S97),y_=(([]:List (S97))):=⟨_,rfl⟩
 replace H:(if y252.length + l0.length < 4398046511104 then (some (y252 ++ l0)) else (none))=some r:=by first|(rw [hy252];with_reducible exact H)|(have H2_:=(Option.bind_some _ _).symm.trans H;rw [hy252];with_reducible exact H2_)|(have H2_:=(Option.bind_some _ _).symm.trans H;with_reducible exact H2_)|with_reducible exact H|(rw [hy252];exact H)|exact H
 have Ny252:=Aside0.mk hy252
 clear hy252
 by_cases c2:y252.length + l0.length < 4398046511104
 ·rw [if_pos c2] at H
  have LMc2:=Aside0.mk c2
  clear c2
  obtain ⟨y255,hy255⟩:∃ y_:List (S97),y_=(y252 ++ l0):=⟨_,rfl⟩
  replace H:(some y255)=some r:=by first|(rw [hy255];with_reducible exact H)|(have H2_:=(Option.bind_some _ _).symm.trans H;rw [hy255];with_reducible exact H2_)|(have H2_:=(Option.bind_some _ _).symm.trans H;with_reducible exact H2_)|with_reducible exact H|(rw [hy255];exact H)|exact H
  have Ny255:=Aside0.mk hy255
  clear hy255
  obtain rfl:=Option.some.inj H
  cases A0 with
  | none =>
   have hnil:∀ w:World,(Go.binOp .eql 26 (.slice none l0.length c0) (.slice none 0 0)).run Try.prog w = .ok (.bool true) w:=fun w=>Go.Lib.run_eql_slice_nil w 26 97 none _ _ 0 0 Try.underlying26
   have hl0:l0 = []:=by
    rcases Nat.eq_zero_or_pos l0.length with h0|h0
    ·exact List.eq_nil_of_length_eq_zero h0
    ·obtain ⟨ad,h1,_⟩:=HR0.out.2.2 h0
     cases h1
   have hy:y255 = []:=by rw [Ny255.out,Ny252.out,hl0];rfl
   clear hl0
   have HY:=Aside0.mk hy
   clear hy
   go_enter Try.func87,Try.ntmps87
   go_wp2
   go_ret
   exact ⟨_,rfl,by rw [HY.out];exact Kd.R_nil _ _ _ _ _,HB.out⟩
  | some ad =>
   have hnil:∀ w:World,(Go.binOp .eql 26 (.slice (some ad) l0.length c0) (.slice none 0 0)).run Try.prog w = .ok (.bool false) w:=fun w=>Go.Lib.run_eql_slice_nil w 26 97 (some ad) _ _ 0 0 Try.underlying26
   go_enter Try.func87,Try.ntmps87
   go_wp2_with (first|((with_reducible refine gate_dst (N:=5) rfl ?_);refine Kd.R_lit k97 _ 97 ?hg (N:=5) ?hd (xs:=([]:List (S97))) (inner:=[]) (ok:=fun _=>True) (okp:=fun _=>True) ?hr ?hp (fun _ hk=>hk) trivial (Below.refl _ _) (Nat.le_refl _) (by simp) ?_;(case hd=>rfl);(case hg=>rfl);(case hr=>first|(go_simp;done)|(go_simp;rfl));(case hp=>exact (Reps.none _ _));intro v253 w3 ho4 hb hg_ hnew_;clear hg_ hnew_;(first|rw [← Ny252.out] at ho4|(simp only [Int.reduceToNat] at ho4;rw [← Ny252.out] at ho4));have HO254:=Aside0.mk (Kd.R_lower ho4 (below_size bl));replace HB:=Aside0.mk (below_step bl hb);clear hb ho4)|((with_reducible refine gate_builtin (b:=.append) (xs:=#[.tmp 5,.tmp 6]) rfl ?_);at_builtin;refine Kd.R_append_rows k97 (w0:=w) w.heap.size rfl (.tmp 5) (.tmp 6) 26 97 (.agg #[(.int .i64 0),(.int .i64 0),(.int .i64 0),(.bool false)]) 32 rfl Try.underlying26 info97 rfl (by decide) (by omega) v253 y252 l0 _ _ _ (fun _=>True) (fun _=>False) rfl rfl ?aO ?aR (fun _ _ h=>h) (fun _ h=>h.elim) ?aF ?aB ?aS ?aL ?_;(case aR=>exact kc HR0);(case aB=>exact bl);(case aF=>exact (fun _ _=>trivial));(case aO=>exact (kr HO254));(case aS=>exact (below_size bl));(case aL=>have:=LMc2.out;omega);intro v256 w5 ho hb hg hat;rw [← Ny255.out] at ho;replace HB:=Aside0.mk (hb);have HO257:=Aside0.mk (ho);clear HO254;clear ho hb hg hat))
   go_ret
   exact ⟨_,by first|rfl|(simp [errW_none,errW_some] <;> rfl)|(simp [*,errW_none,errW_some] <;> rfl),kr HO257,bl⟩
 ·rw [if_neg c2] at H
  exact absurd H (by simp)

/-! ### impl_ownQueue: function 53 -/
def impl_ownQueue.f (l0_0:List (S97)) (a0_1:Int) (a0_2:Int) (a0_3:Int) (a0_4:Int):Option ((List (S97)) × Int × Int × Int × Int):=(impl_Slot_87.f l0_0).bind fun t260=>(some (t260,a0_1,a0_2,a0_3,a0_4))
set_option maxHeartbeats 8000000 in
set_option maxRecDepth 100000 in
theorem impl_ownQueue.calls (A0_0:Option Addr) (c0_0:Nat) (l0_0:List (S97)) (a0_1:Int) (a0_2:Int) (a0_3:Int) (a0_4:Int) (r1:List (S97)) (r2:Int) (r3:Int) (r4:Int) (r5:Int) (w:World) (hr0_0:Kd.C k97 w A0_0 l0_0.length l0_0) (hc0_0:l0_0.length≤c0_0) (h:impl_ownQueue.f l0_0 a0_1 a0_2 a0_3 a0_4=some (r1,r2,r3,r4,r5)) :
  Calls Try.prog 53 #[.agg #[.slice A0_0 l0_0.length c0_0,.int .i64 a0_1,.int .i64 a0_2,.int .i64 a0_3,.int .i64 a0_4]] w fun e w'=>∃ v0_:Value,e = .returned (.agg #[v0_,.int .i64 r2,.int .i64 r3,.int .i64 r4,.int .i64 r5])∧Kd.R k97 97 w' w.heap.size (fun _=>True) v0_ r1∧Below w.heap.size w w':=by
 have hu28:=Try.underlying28
 have HR0_0:=Aside0.mk hr0_0
 have HC0_0:=Aside0.mk hc0_0
 clear hr0_0 hc0_0
 have HB:=Aside0.mk (Below.refl w.heap.size w)
 have H:((impl_Slot_87.f l0_0).bind fun t260=>(some (t260,a0_1,a0_2,a0_3,a0_4)))=some (r1,r2,r3,r4,r5):=h
 clear h
 replace H:=Option.bind_eq_some_iff.mp H
 obtain ⟨t260,A20,H⟩:=H
 have A2:=Aside0.mk A20
 clear A20
 simp only [Option.some.injEq,Prod.mk.injEq] at H
 obtain ⟨rfl,rfl,rfl,rfl,rfl⟩:=H
 go_enter Try.func53,Try.ntmps53
 go_wp2_with (first|((with_reducible refine gate_dst (N:=1) rfl ?_);refine bx 1 #[.slice A0_0 l0_0.length c0_0,.int .i64 a0_1,.int .i64 a0_2,.int .i64 a0_3,.int .i64 a0_4] 28 ?_;intro gb258 hg w3 hbox hb;have BK258:=Aside0.mk (hbox);have GW258:=Aside0.mk (bz hg:w.heap.size≤gb258);have GE258:=GW258;replace HB:=Aside0.mk (below_step bl hb);clear hb hbox hg)|((with_reducible refine gate_dst (N:=2) rfl ?_);refine bx 2 #[.slice none 0 0,.int .i64 0,.int .i64 0,.int .i64 0,.int .i64 0] 28 ?_;intro gb259 hg w4 hbox hb;have BK259:=Aside0.mk (hbox);have GW259:=Aside0.mk (bz hg:w.heap.size≤gb259);have GE259:=GW259;replace HB:=Aside0.mk (below_step bl hb);have NB258_259:=Aside0.mk (nl hg BK258:gb258≠gb259);have NB259_258:=Aside0.mk (nr hg BK258:gb259≠gb258);replace BK258:=Aside0.mk (blk_below (bk BK258) hb);clear hb hbox hg;have hnb5:=NB258_259.out;have hnc5:=NB259_258.out;obtain ⟨hcz6_0,hcz6_1,hcz6_2,hcz6_3,hcz6_4,hfz6_0,hfz6_1,hfz6_2,hfz6_3,hfz6_4⟩:=ck5 BK258.out)|((with_reducible refine gate_callee (f:=87) rfl ?_);refine gl Try.func87 #[.slice A0_0 l0_0.length c0_0] ?_;(with_reducible refine (impl_Slot_87.calls _ _ l0_0 t260 _ ?side1 ?side2 A2.out).mono ?_);(case side1=>exact kc HR0_0);(case side2=>exact HC0_0.out);rintro e w7 ⟨v261,rfl,ho0,hb⟩;refine ⟨_,rfl,?_⟩;have HO262:=Aside0.mk (Kd.R_lower ho0 (below_size bl));replace BK258:=Aside0.mk (blk_below (bk BK258) hb);replace BK259:=Aside0.mk (blk_below (bk BK259) hb);replace HB:=Aside0.mk (below_step bl hb);(try clear hb);(try clear hb2);(try clear hk);(try clear hi);(try clear ho0);obtain ⟨Ao8,co8,eo8⟩:=Kd.R_slice HO262.out;subst eo8;obtain ⟨hcz9_0,hcz9_1,hcz9_2,hcz9_3,hcz9_4,hfz9_0,hfz9_1,hfz9_2,hfz9_3,hfz9_4⟩:=ck5 BK258.out;obtain ⟨hcz10_0,hcz10_1,hcz10_2,hcz10_3,hcz10_4,hfz10_0,hfz10_1,hfz10_2,hfz10_3,hfz10_4⟩:=ck5 BK259.out))
 refine bodyPost_ret (results_cell_row rfl _ _ gb259 28 #[.slice Ao8 t260.length co8,.int .i64 a0_1,.int .i64 a0_2,.int .i64 a0_3,.int .i64 a0_4] (0,0) _ rfl (by (with_reducible repeat (first|refine blk_drewN ?_ _|refine blk_drew ?_|refine blk_alloc ?_ _));refine blk_put (cs:=#[.slice Ao8 t260.length co8,.int .i64 a0_1,.int .i64 a0_2,.int .i64 a0_3,.int .i64 0]) ?_ 4 _ rfl;(with_reducible repeat (first|refine blk_drewN ?_ _|refine blk_drew ?_|refine blk_alloc ?_ _));refine blk_put (cs:=#[.slice Ao8 t260.length co8,.int .i64 a0_1,.int .i64 a0_2,.int .i64 0,.int .i64 0]) ?_ 3 _ rfl;(with_reducible repeat (first|refine blk_drewN ?_ _|refine blk_drew ?_|refine blk_alloc ?_ _));refine blk_put (cs:=#[.slice Ao8 t260.length co8,.int .i64 a0_1,.int .i64 0,.int .i64 0,.int .i64 0]) ?_ 2 _ rfl;(with_reducible repeat (first|refine blk_drewN ?_ _|refine blk_drew ?_|refine blk_alloc ?_ _));refine blk_put (cs:=#[.slice Ao8 t260.length co8,.int .i64 0,.int .i64 0,.int .i64 0,.int .i64 0]) ?_ 1 _ rfl;(with_reducible repeat (first|refine blk_drewN ?_ _|refine blk_drew ?_|refine blk_alloc ?_ _));refine blk_put (cs:=#[.slice none 0 0,.int .i64 0,.int .i64 0,.int .i64 0,.int .i64 0]) ?_ 0 _ rfl;(with_reducible repeat (first|refine blk_drewN ?_ _|refine blk_drew ?_|refine blk_alloc ?_ _));refine blk_far ?_ NB259_258.out _;(with_reducible repeat (first|refine blk_drewN ?_ _|refine blk_drew ?_|refine blk_alloc ?_ _));exact BK259.out) Try.underlying28 rfl (by kernel_rfl)) rfl ?_
 exact ⟨_,by first|rfl|(simp [errW_none,errW_some] <;> rfl)|(simp [*,errW_none,errW_some] <;> rfl),by (with_reducible repeat (first|apply Kd.R_alloc|apply Kd.R_drewN|apply Kd.R_drew));exact Kd.R_mono (Kd.R_far (p:=⟨gb259,4,none⟩) (Kd.R_far (p:=⟨gb259,3,none⟩) (Kd.R_far (p:=⟨gb259,2,none⟩) (Kd.R_far (p:=⟨gb259,1,none⟩) (Kd.R_far (p:=⟨gb259,0,none⟩) (Kd.R_far (p:=⟨gb258,0,none⟩) (Kd.R_types (Kd.R_types HO262.out BK258.out (by decide)) BK259.out (by decide)) (fun _ hk=>hk.1.2) (.slice Ao8 t260.length co8)) (fun _ hk=>hk.2) (.slice Ao8 t260.length co8)) (fun _ hk=>hk.2) (.int .i64 a0_1)) (fun _ hk=>hk.2) (.int .i64 a0_2)) (fun _ hk=>hk.2) (.int .i64 a0_3)) (fun _ hk=>hk.2) (.int .i64 a0_4)) (fun _ hk=>trivial),bl⟩

end Go.Proofs.Ytnkpjpfmjkiidaa.PFnExactMoveBack
