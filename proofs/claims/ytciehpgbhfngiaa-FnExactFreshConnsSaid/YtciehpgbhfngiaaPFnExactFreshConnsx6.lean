/- Contracts of functions of the given program: what each call answers. Written by a program of this session, out of the text of the functions. -/
import Derived.Test.YtciehpgbhfngiaaPFnExactFreshConnsx0
import Derived.Test.YtciehpgbhfngiaaPFnExactFreshConnsx1
import Derived.Test.YtciehpgbhfngiaaPFnExactFreshConnsx3
import Derived.Test.YtciehpgbhfngiaaPFnExactFreshConnsx4
import Derived.Test.YtciehpgbhfngiaaPFnExactFreshConnsx5
import Derived.Test.YtciehpgbhfngiaaPrs
namespace Go.Proofs.Ytciehpgbhfngiaa.PFnExactFreshConns
open Go.RowKit Go.Proofs.YtciehpgbhfngiaaW.PrintWords Go.Proofs.YtciehpgbhfngiaaW.PrintLast Go.Proofs.YtciehpgbhfngiaaW.PrintMore Go.Proofs.Ytciehpgbhfngiaa.Giv Go.Proofs.Ytciehpgbhfngiaa.Prs
attribute [local go_sem] max2_int min2_int max_two min_two max_three min_three max_four min_four   -- for this text's walks alone
set_option linter.unusedVariables false
set_option linter.unusedSimpArgs false

/-! ### impl_FreshConns: function 11 -/
/-- What a kind's events have: a connection. -/
def impl_FreshConns.hc (x:Int):Bool:=decide (0≤x∧x≤6) || x == 10
def impl_FreshConns.run:List S30→Int→List (Int × Int)→Bool
 | [],_,_=>true
 | e :: l,la,m=>if impl_FreshConns.hc e.f0=true then (if e.f0=0 then (if e.f2≤la then false else impl_FreshConns.run l e.f2 ((e.f2,1) :: m)) else (if lookT m e.f2=1 then (if e.f0=1 then impl_FreshConns.run l la ((e.f2,2) :: m) else (if e.f0=2 then impl_FreshConns.run l la ((e.f2,3) :: (e.f2,2) :: m) else (if e.f0=3∨e.f0=6 then false else (if e.f0=5 then impl_FreshConns.run l la ((e.f2,3) :: m) else impl_FreshConns.run l la m)))) else (if lookT m e.f2=2 then (if e.f0=1 then false else (if e.f0=2 then false else (if e.f0=3∨e.f0=6 then impl_FreshConns.run l la m else (if e.f0=5 then impl_FreshConns.run l la ((e.f2,3) :: m) else impl_FreshConns.run l la m)))) else false))) else impl_FreshConns.run l la m
def impl_FreshConns.rng (e:S30):Bool:=decide (0≤e.f1∧e.f1≤1000000000∧0≤e.f2∧e.f2≤1000000000)
def impl_FreshConns.fit (l0:List (S30)):Bool:=l0.all impl_FreshConns.rng && decide (l0.length≤2000)
def impl_FreshConns.f (k:Nat) (l0:List (S30)):Option (Bool):=(impl_LogOk.f k l0).bind fun t=>(if t=true then (if impl_FreshConns.fit l0=true then some (impl_FreshConns.run l0 0 []) else none) else some false)
theorem impl_FreshConns.mono:∀ a0 k,LeO (impl_FreshConns.f k a0) (impl_FreshConns.f (k + 1) a0):=by
 intro a0 k
 unfold impl_FreshConns.f
 exact LeO.bind (impl_LogOk.mono _ _) (fun _=>LeO.refl _)
theorem impl_FreshConns.law:Go.Maps.Keyed Try.prog 3:=Go.Maps.int_keyed Try.underlying3
theorem impl_FreshConns.zero (w:World):(zeroValue 3).run Try.prog w = .ok (.int .i64 0) w:=by kernel_rfl
theorem impl_FreshConns.hcf (x:Int):impl_hasConn.f x=some (impl_FreshConns.hc x):=by
 unfold impl_hasConn.f impl_in.f impl_FreshConns.hc
 by_cases h1:(0:Int)≤x
 ·by_cases h2:x≤6
  ·simp [h1,h2]
  ·simp [h1,h2]
 ·simp [h1]
theorem impl_FreshConns.wf {x:Int} (h0:0≤x) (h1:x≤1000000000):(Lit.int .i64 x).wf=true:=by
 simp only [Lit.wf,IntKind.min,IntKind.max,IntKind.signed,IntKind.bits,Bool.and_eq_true,decide_eq_true_eq]
 simp
 omega
set_option maxHeartbeats 8000000 in
set_option maxRecDepth 100000 in
theorem impl_FreshConns.calls (k:Nat) (A0:Option Addr) (c0:Nat) (l0:List (S30)) (r:Bool) (w:World) (hr0:Kd.C k30 w A0 l0.length l0) (hc0:l0.length≤c0) (h:impl_FreshConns.f k l0=some r) :
  Calls Try.prog 11 #[.slice A0 l0.length c0] w fun e w'=>e = .returned (.bool r)∧Below w.heap.size w w':=by
 have hu1:=Try.underlying30
 have hmm:=@run_makeMap Try.prog
 unfold impl_FreshConns.f at h
 obtain ⟨t,hl,h⟩:=Option.bind_eq_some_iff.mp h
 have HR0:=Aside0.mk hr0
 have HC0:=Aside0.mk hc0
 have A1:=Aside0.mk hl
 have HB:=Aside0.mk (Below.refl w.heap.size w)
 clear hr0 hc0 hl
 cases t with
 | false =>
  simp only [Bool.false_eq_true,if_false] at h
  obtain rfl:=Option.some.inj h
  clear h
  go_enter Try.func11,Try.ntmps11
  go_wp2_with (first|((with_reducible refine gate_callee (f:=16) rfl ?_);refine gl _ Try.func16 #[.slice A0 l0.length c0] ?_;(with_reducible refine (impl_LogOk.calls k A0 c0 l0 false _ ?s1 ?s2 A1.out).mono ?_);(case s1=>exact kc HR0);(case s2=>exact HC0.out);rintro e w1 ⟨rfl,hb⟩;refine ⟨_,rfl,?_⟩;replace HB:=Aside0.mk (below_step bl hb);clear hb))
  go_ret
  exact ⟨rfl,HB.out⟩
 | true =>
  simp only [if_true] at h
  by_cases hall:impl_FreshConns.fit l0=true
  ·rw [if_pos hall] at h
   have hrun:=Option.some.inj h
   clear h
   have HN:=Aside0.mk hrun
   obtain ⟨hall1,hall2⟩:l0.all impl_FreshConns.rng=true∧l0.length≤2000:=by simpa [impl_FreshConns.fit] using hall
   have HA:=Aside0.mk hall1
   have HL:=Aside0.mk hall2
   clear hrun hall hall1 hall2
   go_enter Try.func11,Try.ntmps11
   go_wp2_with (first|((with_reducible refine gate_callee (f:=16) rfl ?_);refine gl _ Try.func16 #[.slice A0 l0.length c0] ?_;(with_reducible refine (impl_LogOk.calls k A0 c0 l0 true _ ?s1 ?s2 A1.out).mono ?_);(case s1=>exact kc HR0);(case s2=>exact HC0.out);rintro e w1 ⟨rfl,hb⟩;refine ⟨_,rfl,?_⟩;replace HB:=Aside0.mk (below_step bl hb);clear hb))
   obtain ⟨B,hB⟩:∃ B,B=w1.heap.size:=⟨_,rfl⟩
   have own0:(w1.alloc (.map #[] 0)).ownsMap Try.prog 3 (plainElem (H:=Unit) Try.prog 3) B 0 (Dm []):=by rw [hB];exact World.ownsMap_made _ _ _ _
   have HG:Aside0 (w.heap.size≤B):=⟨by rw [hB];exact HB.out.size⟩
   have HB2:Aside0 (Below w.heap.size w (w1.alloc (.map #[] 0))):=⟨below_alloc HB.out _⟩
   have HO0:=Aside0.mk own0
   clear own0 HB
   rw [← hB]
   clear hB
   go_loopg [4,14] l0.length (fun gg v4 v14 wr=>∃ (x la:Int) (m:List (Int × Int)),v4 = .int .i64 la∧v14 = .int .i64 x∧Aside0 (0≤x∧x≤l0.length∧l0.length - x.toNat≤gg)∧Aside0 (impl_FreshConns.run (l0.drop x.toNat) la m=r)∧Aside0 (wr.ownsMap Try.prog 3 (plainElem (H:=Unit) Try.prog 3) B (2 * x.toNat) (Dm m))∧Aside0 (Below w.heap.size w wr))
   case atStart=>exact ⟨0,0,[],rfl,rfl,⟨by omega,by omega,by simp⟩,HN,HO0,HB2⟩
   case round =>
    clear HN HO0 HB2
    obtain ⟨x,la,m,rfl,rfl,HX,HN,HO,HB⟩:=hrel
    by_cases c3:x < (l0.length:Int)
    ·have p1:0≤x:=HX.out.1
     have hlt:x.toNat < l0.length:=by omega
     have H:=HN.out
     rw [List.drop_eq_getElem_cons hlt] at H
     obtain ⟨ad,e,hx0,hx1,hx2⟩:=at_T30 HR0.out x p1 c3
     cases e
     have hrd:rd_T30 l0 x=l0[x.toNat]:=by unfold rd_T30;rw [List.getD_eq_getElem?_getD,List.getElem?_eq_getElem hlt];rfl
     rw [hrd] at hx0 hx1 hx2
     replace hx0:=cl HB hx0
     replace hx1:=cl HB hx1
     replace hx2:=cl HB hx2
     have hin:=List.all_eq_true.mp HA.out _ (List.getElem_mem hlt)
     clear hrd
     generalize l0[x.toNat]=ev at H hx0 hx1 hx2 hin
     obtain ⟨a0,a1,a2⟩:=ev
     simp only [impl_FreshConns.rng,decide_eq_true_eq] at hin
     obtain ⟨i0,i1,i2,i3⟩:=hin
     dsimp only at hx0 hx1 hx2
     simp only [impl_FreshConns.run] at H
     have HW2:=Aside0.mk (impl_FreshConns.wf i2 i3)
     have HP:Aside0 (0≤x∧x < l0.length∧l0.length - x.toNat≤gk):=⟨p1,c3,HX.out.2.2⟩
     have HW:Aside0 (wrap64 (x + 1)=x + 1):=⟨by have:=HL.out;unfold wrap64;omega⟩
     have HT:=Aside0.mk (impl_FreshConns.hcf a0)
     clear i0 i1 i2 i3 hlt HX HN
     replace p1:=eq_true p1
     replace c3:=eq_true c3
     cases hcv:impl_FreshConns.hc a0 with
     | true =>
      rw [hcv] at HT
      have hk:a0=0∨a0=1∨a0=2∨a0=3∨a0=4∨a0=5∨a0=6∨a0=10:=by simp [impl_FreshConns.hc] at hcv;omega
      clear hcv
      rcases hk with kk|kk|kk|kk|kk|kk|kk|kk
      ·subst kk
       rw [if_pos (show impl_FreshConns.hc 0=true by decide)] at H
       rw [if_pos rfl] at H
       by_cases ch:a2≤la
       ·rw [if_pos ch] at H
        have cb:decide (a2≤la)=true:=decide_eq_true ch
        clear ch
        subst H
        go_wp2_with (first|((with_reducible refine gate_dst (N:=6) rfl ?_);refine bx 6 #[.int .i64 0,.int .i64 0,.int .i64 0] 30 ?_;intro gb hg w2 hbox hb;have GE:=Aside0.mk (bz hg:w.heap.size≤gb);have NB:Aside0 (B≠gb):=⟨by rw [hg];exact Nat.ne_of_lt HO.out.lt⟩;replace HO:=Aside0.mk (own_below HO.out hb);replace HB:=Aside0.mk (below_step bl hb);have BK:=Aside0.mk hbox;clear hb hbox hg;obtain ⟨z0,z1,z2,q0,q1,q2⟩:=ck3 BK.out)|((with_reducible refine gate_store (t:=30) (p:=6) rfl ?_);refine sx 30 6 (((w2.setCell ⟨gb,0,none⟩ (.int .i64 0)).setCell ⟨gb,1,none⟩ (.int .i64 a1)).setCell ⟨gb,2,none⟩ (.int .i64 a2)) ?_;intro w3 hw;replace HO:Aside0 (w3.ownsMap Try.prog 3 (plainElem (H:=Unit) Try.prog 3) B (2 * x.toNat) (Dm m)):=⟨by rw [hw];exact ((HO.out.setCell NB.out _).setCell NB.out _).setCell NB.out _⟩;replace BK:Aside0 (w3.heap[gb]? = some (.cells #[.int .i64 0,.int .i64 a1,.int .i64 a2] 30 (0,0))):=⟨by rw [hw];exact blk_put (blk_put (blk_put BK.out 0 _ rfl) 1 _ rfl) 2 _ rfl⟩;replace HB:Aside0 (Below w.heap.size w w3):=⟨by rw [hw];exact below_set (below_set (below_set HB.out GE.out) GE.out) GE.out⟩;clear hw z0 z1 z2 q0 q1 q2;obtain ⟨z0,z1,z2,q0,q1,q2⟩:=ck3 BK.out)|((with_reducible refine gate_callee (f:=17) rfl ?_);refine gl _ Try.func17 #[.int .i64 0] ?_;(with_reducible refine (impl_hasConn.calls 0 true _ HT.out).mono ?_);rintro e w4 ⟨rfl,⟨nd,rfl⟩⟩;refine ⟨_,rfl,?_⟩;replace HO:=Aside0.mk (own_drew HO.out nd);replace HB:Aside0 (Below w.heap.size w (w3.drewN nd)):=⟨pw_below_drewN HB.out _⟩;replace BK:=Aside0.mk (blk_drewN BK.out nd))|(at_lookup;refine wpList_lookup_own_int _ rfl _ _ 36 rfl 3 3 .i64 impl_FreshConns.law Try.underlying36 Try.underlying3 (impl_FreshConns.zero _) B _ _ rfl HO.out _ _ rfl (Go.Maps.keyOf_int_mk Try.underlying3 HW2.out) ?_;intro c hat hwc;obtain rfl:=Dm_c hat;clear hat hwc))
        go_ret
        exact ⟨rfl,bl⟩
       ·rw [if_neg ch] at H
        have cb:decide (a2≤la)=false:=decide_eq_false ch
        clear ch
        have HN:=Aside0.mk H
        clear H
        go_wp2_with (first|((with_reducible refine gate_dst (N:=6) rfl ?_);refine bx 6 #[.int .i64 0,.int .i64 0,.int .i64 0] 30 ?_;intro gb hg w2 hbox hb;have GE:=Aside0.mk (bz hg:w.heap.size≤gb);have NB:Aside0 (B≠gb):=⟨by rw [hg];exact Nat.ne_of_lt HO.out.lt⟩;replace HO:=Aside0.mk (own_below HO.out hb);replace HB:=Aside0.mk (below_step bl hb);have BK:=Aside0.mk hbox;clear hb hbox hg;obtain ⟨z0,z1,z2,q0,q1,q2⟩:=ck3 BK.out)|((with_reducible refine gate_store (t:=30) (p:=6) rfl ?_);refine sx 30 6 (((w2.setCell ⟨gb,0,none⟩ (.int .i64 0)).setCell ⟨gb,1,none⟩ (.int .i64 a1)).setCell ⟨gb,2,none⟩ (.int .i64 a2)) ?_;intro w3 hw;replace HO:Aside0 (w3.ownsMap Try.prog 3 (plainElem (H:=Unit) Try.prog 3) B (2 * x.toNat) (Dm m)):=⟨by rw [hw];exact ((HO.out.setCell NB.out _).setCell NB.out _).setCell NB.out _⟩;replace BK:Aside0 (w3.heap[gb]? = some (.cells #[.int .i64 0,.int .i64 a1,.int .i64 a2] 30 (0,0))):=⟨by rw [hw];exact blk_put (blk_put (blk_put BK.out 0 _ rfl) 1 _ rfl) 2 _ rfl⟩;replace HB:Aside0 (Below w.heap.size w w3):=⟨by rw [hw];exact below_set (below_set (below_set HB.out GE.out) GE.out) GE.out⟩;clear hw z0 z1 z2 q0 q1 q2;obtain ⟨z0,z1,z2,q0,q1,q2⟩:=ck3 BK.out)|((with_reducible refine gate_callee (f:=17) rfl ?_);refine gl _ Try.func17 #[.int .i64 0] ?_;(with_reducible refine (impl_hasConn.calls 0 true _ HT.out).mono ?_);rintro e w4 ⟨rfl,⟨nd,rfl⟩⟩;refine ⟨_,rfl,?_⟩;replace HO:=Aside0.mk (own_drew HO.out nd);replace HB:Aside0 (Below w.heap.size w (w3.drewN nd)):=⟨pw_below_drewN HB.out _⟩;replace BK:=Aside0.mk (blk_drewN BK.out nd))|(at_lookup;refine wpList_lookup_own_int _ rfl _ _ 36 rfl 3 3 .i64 impl_FreshConns.law Try.underlying36 Try.underlying3 (impl_FreshConns.zero _) B _ _ rfl HO.out _ _ rfl (Go.Maps.keyOf_int_mk Try.underlying3 HW2.out) ?_;intro c hat hwc;obtain rfl:=Dm_c hat;clear hat hwc)|(at_mapUpdate;refine wpList_mapUpdate_own _ rfl _ _ _ 36 rfl 3 3 impl_FreshConns.law Try.underlying36 _ B _ _ rfl HO.out (by have:=HP.out;have:=HL.out;unfold maxLen;omega) _ _ _ rfl rfl (Go.Maps.keyOf_int_mk Try.underlying3 HW2.out) _ [] (plainElem_int Try.underlying3 (by decide)) ?_;intro w5 hown1 hgrow1;replace BK:Aside0 (w5.heap[gb]? = some (.cells #[.int .i64 0,.int .i64 a1,.int .i64 a2] 30 (0,0))):=⟨(hgrow1.block gb (Array.getElem?_eq_some_iff.mp BK.out).1 (fun e_=>NB.out (Option.some.inj e_.symm))).trans BK.out⟩;replace HB:=Aside0.mk (Below.grown bl hgrow1 (below_size bl) (fun j hj=>by cases hj;exact HG.out));replace HO:=Aside0.mk hown1;clear hown1 hgrow1 z0 z1 z2 q0 q1 q2;obtain ⟨z0,z1,z2,q0,q1,q2⟩:=ck3 BK.out))
        go_roundg (l0.length - (x.toNat + 1))
        case measure=>have:=HP.out;omega
        case rel =>
         have e1:(wrap64 (x + 1)).toNat=x.toNat + 1:=by rw [HW.out];have:=HP.out;omega
         exact ⟨wrap64 (x + 1),a2,(a2,1) :: m,rfl,rfl,⟨by have:=HP.out;rw [HW.out];omega⟩,⟨by rw [e1];exact HN.out⟩,⟨by rw [e1];exact HO.out.mono (by omega)⟩,⟨bl⟩⟩
      ·subst kk
       rw [if_pos (show impl_FreshConns.hc 1=true by decide)] at H
       rw [if_neg (show ¬ (1:Int)=0 by decide)] at H
       by_cases n1:lookT m a2=1
       ·rw [if_pos n1,if_pos (show (1:Int)=1 by rfl)] at H
        have b1:(lookT m a2 != 1)=false:=bne_eq_false_iff_eq.mpr n1
        have b2:(lookT m a2 != 2)=true:=bne_iff_ne.mpr (by rw [n1];decide)
        clear n1
        have HN:=Aside0.mk H
        clear H
        go_wp2_with (first|((with_reducible refine gate_dst (N:=6) rfl ?_);refine bx 6 #[.int .i64 0,.int .i64 0,.int .i64 0] 30 ?_;intro gb hg w2 hbox hb;have GE:=Aside0.mk (bz hg:w.heap.size≤gb);have NB:Aside0 (B≠gb):=⟨by rw [hg];exact Nat.ne_of_lt HO.out.lt⟩;replace HO:=Aside0.mk (own_below HO.out hb);replace HB:=Aside0.mk (below_step bl hb);have BK:=Aside0.mk hbox;clear hb hbox hg;obtain ⟨z0,z1,z2,q0,q1,q2⟩:=ck3 BK.out)|((with_reducible refine gate_store (t:=30) (p:=6) rfl ?_);refine sx 30 6 (((w2.setCell ⟨gb,0,none⟩ (.int .i64 1)).setCell ⟨gb,1,none⟩ (.int .i64 a1)).setCell ⟨gb,2,none⟩ (.int .i64 a2)) ?_;intro w3 hw;replace HO:Aside0 (w3.ownsMap Try.prog 3 (plainElem (H:=Unit) Try.prog 3) B (2 * x.toNat) (Dm m)):=⟨by rw [hw];exact ((HO.out.setCell NB.out _).setCell NB.out _).setCell NB.out _⟩;replace BK:Aside0 (w3.heap[gb]? = some (.cells #[.int .i64 1,.int .i64 a1,.int .i64 a2] 30 (0,0))):=⟨by rw [hw];exact blk_put (blk_put (blk_put BK.out 0 _ rfl) 1 _ rfl) 2 _ rfl⟩;replace HB:Aside0 (Below w.heap.size w w3):=⟨by rw [hw];exact below_set (below_set (below_set HB.out GE.out) GE.out) GE.out⟩;clear hw z0 z1 z2 q0 q1 q2;obtain ⟨z0,z1,z2,q0,q1,q2⟩:=ck3 BK.out)|((with_reducible refine gate_callee (f:=17) rfl ?_);refine gl _ Try.func17 #[.int .i64 1] ?_;(with_reducible refine (impl_hasConn.calls 1 true _ HT.out).mono ?_);rintro e w4 ⟨rfl,⟨nd,rfl⟩⟩;refine ⟨_,rfl,?_⟩;replace HO:=Aside0.mk (own_drew HO.out nd);replace HB:Aside0 (Below w.heap.size w (w3.drewN nd)):=⟨pw_below_drewN HB.out _⟩;replace BK:=Aside0.mk (blk_drewN BK.out nd))|(at_lookup;refine wpList_lookup_own_int _ rfl _ _ 36 rfl 3 3 .i64 impl_FreshConns.law Try.underlying36 Try.underlying3 (impl_FreshConns.zero _) B _ _ rfl HO.out _ _ rfl (Go.Maps.keyOf_int_mk Try.underlying3 HW2.out) ?_;intro c hat hwc;obtain rfl:=Dm_c hat;clear hat hwc)|(at_mapUpdate;refine wpList_mapUpdate_own _ rfl _ _ _ 36 rfl 3 3 impl_FreshConns.law Try.underlying36 _ B _ _ rfl HO.out (by have:=HP.out;have:=HL.out;unfold maxLen;omega) _ _ _ rfl rfl (Go.Maps.keyOf_int_mk Try.underlying3 HW2.out) _ [] (plainElem_int Try.underlying3 (by decide)) ?_;intro w5 hown1 hgrow1;replace BK:Aside0 (w5.heap[gb]? = some (.cells #[.int .i64 1,.int .i64 a1,.int .i64 a2] 30 (0,0))):=⟨(hgrow1.block gb (Array.getElem?_eq_some_iff.mp BK.out).1 (fun e_=>NB.out (Option.some.inj e_.symm))).trans BK.out⟩;replace HB:=Aside0.mk (Below.grown bl hgrow1 (below_size bl) (fun j hj=>by cases hj;exact HG.out));replace HO:=Aside0.mk hown1;clear hown1 hgrow1 z0 z1 z2 q0 q1 q2;obtain ⟨z0,z1,z2,q0,q1,q2⟩:=ck3 BK.out))
        go_roundg (l0.length - (x.toNat + 1))
        case measure=>have:=HP.out;omega
        case rel =>
         have e1:(wrap64 (x + 1)).toNat=x.toNat + 1:=by rw [HW.out];have:=HP.out;omega
         exact ⟨wrap64 (x + 1),la,(a2,2) :: m,rfl,rfl,⟨by have:=HP.out;rw [HW.out];omega⟩,⟨by rw [e1];exact HN.out⟩,⟨by rw [e1];exact HO.out.mono (by omega)⟩,⟨bl⟩⟩
       ·rw [if_neg n1] at H
        have b1:(lookT m a2 != 1)=true:=bne_iff_ne.mpr n1
        by_cases n2:lookT m a2=2
        ·rw [if_pos n2,if_pos (show (1:Int)=1 by rfl)] at H
         have b2:(lookT m a2 != 2)=false:=bne_eq_false_iff_eq.mpr n2
         clear n1 n2
         subst H
         go_wp2_with (first|((with_reducible refine gate_dst (N:=6) rfl ?_);refine bx 6 #[.int .i64 0,.int .i64 0,.int .i64 0] 30 ?_;intro gb hg w2 hbox hb;have GE:=Aside0.mk (bz hg:w.heap.size≤gb);have NB:Aside0 (B≠gb):=⟨by rw [hg];exact Nat.ne_of_lt HO.out.lt⟩;replace HO:=Aside0.mk (own_below HO.out hb);replace HB:=Aside0.mk (below_step bl hb);have BK:=Aside0.mk hbox;clear hb hbox hg;obtain ⟨z0,z1,z2,q0,q1,q2⟩:=ck3 BK.out)|((with_reducible refine gate_store (t:=30) (p:=6) rfl ?_);refine sx 30 6 (((w2.setCell ⟨gb,0,none⟩ (.int .i64 1)).setCell ⟨gb,1,none⟩ (.int .i64 a1)).setCell ⟨gb,2,none⟩ (.int .i64 a2)) ?_;intro w3 hw;replace HO:Aside0 (w3.ownsMap Try.prog 3 (plainElem (H:=Unit) Try.prog 3) B (2 * x.toNat) (Dm m)):=⟨by rw [hw];exact ((HO.out.setCell NB.out _).setCell NB.out _).setCell NB.out _⟩;replace BK:Aside0 (w3.heap[gb]? = some (.cells #[.int .i64 1,.int .i64 a1,.int .i64 a2] 30 (0,0))):=⟨by rw [hw];exact blk_put (blk_put (blk_put BK.out 0 _ rfl) 1 _ rfl) 2 _ rfl⟩;replace HB:Aside0 (Below w.heap.size w w3):=⟨by rw [hw];exact below_set (below_set (below_set HB.out GE.out) GE.out) GE.out⟩;clear hw z0 z1 z2 q0 q1 q2;obtain ⟨z0,z1,z2,q0,q1,q2⟩:=ck3 BK.out)|((with_reducible refine gate_callee (f:=17) rfl ?_);refine gl _ Try.func17 #[.int .i64 1] ?_;(with_reducible refine (impl_hasConn.calls 1 true _ HT.out).mono ?_);rintro e w4 ⟨rfl,⟨nd,rfl⟩⟩;refine ⟨_,rfl,?_⟩;replace HO:=Aside0.mk (own_drew HO.out nd);replace HB:Aside0 (Below w.heap.size w (w3.drewN nd)):=⟨pw_below_drewN HB.out _⟩;replace BK:=Aside0.mk (blk_drewN BK.out nd))|(at_lookup;refine wpList_lookup_own_int _ rfl _ _ 36 rfl 3 3 .i64 impl_FreshConns.law Try.underlying36 Try.underlying3 (impl_FreshConns.zero _) B _ _ rfl HO.out _ _ rfl (Go.Maps.keyOf_int_mk Try.underlying3 HW2.out) ?_;intro c hat hwc;obtain rfl:=Dm_c hat;clear hat hwc))
         go_ret
         exact ⟨rfl,bl⟩
        ·rw [if_neg n2] at H
         have b2:(lookT m a2 != 2)=true:=bne_iff_ne.mpr n2
         clear n1 n2
         subst H
         go_wp2_with (first|((with_reducible refine gate_dst (N:=6) rfl ?_);refine bx 6 #[.int .i64 0,.int .i64 0,.int .i64 0] 30 ?_;intro gb hg w2 hbox hb;have GE:=Aside0.mk (bz hg:w.heap.size≤gb);have NB:Aside0 (B≠gb):=⟨by rw [hg];exact Nat.ne_of_lt HO.out.lt⟩;replace HO:=Aside0.mk (own_below HO.out hb);replace HB:=Aside0.mk (below_step bl hb);have BK:=Aside0.mk hbox;clear hb hbox hg;obtain ⟨z0,z1,z2,q0,q1,q2⟩:=ck3 BK.out)|((with_reducible refine gate_store (t:=30) (p:=6) rfl ?_);refine sx 30 6 (((w2.setCell ⟨gb,0,none⟩ (.int .i64 1)).setCell ⟨gb,1,none⟩ (.int .i64 a1)).setCell ⟨gb,2,none⟩ (.int .i64 a2)) ?_;intro w3 hw;replace HO:Aside0 (w3.ownsMap Try.prog 3 (plainElem (H:=Unit) Try.prog 3) B (2 * x.toNat) (Dm m)):=⟨by rw [hw];exact ((HO.out.setCell NB.out _).setCell NB.out _).setCell NB.out _⟩;replace BK:Aside0 (w3.heap[gb]? = some (.cells #[.int .i64 1,.int .i64 a1,.int .i64 a2] 30 (0,0))):=⟨by rw [hw];exact blk_put (blk_put (blk_put BK.out 0 _ rfl) 1 _ rfl) 2 _ rfl⟩;replace HB:Aside0 (Below w.heap.size w w3):=⟨by rw [hw];exact below_set (below_set (below_set HB.out GE.out) GE.out) GE.out⟩;clear hw z0 z1 z2 q0 q1 q2;obtain ⟨z0,z1,z2,q0,q1,q2⟩:=ck3 BK.out)|((with_reducible refine gate_callee (f:=17) rfl ?_);refine gl _ Try.func17 #[.int .i64 1] ?_;(with_reducible refine (impl_hasConn.calls 1 true _ HT.out).mono ?_);rintro e w4 ⟨rfl,⟨nd,rfl⟩⟩;refine ⟨_,rfl,?_⟩;replace HO:=Aside0.mk (own_drew HO.out nd);replace HB:Aside0 (Below w.heap.size w (w3.drewN nd)):=⟨pw_below_drewN HB.out _⟩;replace BK:=Aside0.mk (blk_drewN BK.out nd))|(at_lookup;refine wpList_lookup_own_int _ rfl _ _ 36 rfl 3 3 .i64 impl_FreshConns.law Try.underlying36 Try.underlying3 (impl_FreshConns.zero _) B _ _ rfl HO.out _ _ rfl (Go.Maps.keyOf_int_mk Try.underlying3 HW2.out) ?_;intro c hat hwc;obtain rfl:=Dm_c hat;clear hat hwc))
         go_ret
         exact ⟨rfl,bl⟩
      ·subst kk
       rw [if_pos (show impl_FreshConns.hc 2=true by decide)] at H
       rw [if_neg (show ¬ (2:Int)=0 by decide)] at H
       by_cases n1:lookT m a2=1
       ·rw [if_pos n1,if_neg (show ¬ (2:Int)=1 by decide),if_pos (show (2:Int)=2 by rfl)] at H
        have b1:(lookT m a2 != 1)=false:=bne_eq_false_iff_eq.mpr n1
        have b2:(lookT m a2 != 2)=true:=bne_iff_ne.mpr (by rw [n1];decide)
        clear n1
        have HN:=Aside0.mk H
        clear H
        go_wp2_with (first|((with_reducible refine gate_dst (N:=6) rfl ?_);refine bx 6 #[.int .i64 0,.int .i64 0,.int .i64 0] 30 ?_;intro gb hg w2 hbox hb;have GE:=Aside0.mk (bz hg:w.heap.size≤gb);have NB:Aside0 (B≠gb):=⟨by rw [hg];exact Nat.ne_of_lt HO.out.lt⟩;replace HO:=Aside0.mk (own_below HO.out hb);replace HB:=Aside0.mk (below_step bl hb);have BK:=Aside0.mk hbox;clear hb hbox hg;obtain ⟨z0,z1,z2,q0,q1,q2⟩:=ck3 BK.out)|((with_reducible refine gate_store (t:=30) (p:=6) rfl ?_);refine sx 30 6 (((w2.setCell ⟨gb,0,none⟩ (.int .i64 2)).setCell ⟨gb,1,none⟩ (.int .i64 a1)).setCell ⟨gb,2,none⟩ (.int .i64 a2)) ?_;intro w3 hw;replace HO:Aside0 (w3.ownsMap Try.prog 3 (plainElem (H:=Unit) Try.prog 3) B (2 * x.toNat) (Dm m)):=⟨by rw [hw];exact ((HO.out.setCell NB.out _).setCell NB.out _).setCell NB.out _⟩;replace BK:Aside0 (w3.heap[gb]? = some (.cells #[.int .i64 2,.int .i64 a1,.int .i64 a2] 30 (0,0))):=⟨by rw [hw];exact blk_put (blk_put (blk_put BK.out 0 _ rfl) 1 _ rfl) 2 _ rfl⟩;replace HB:Aside0 (Below w.heap.size w w3):=⟨by rw [hw];exact below_set (below_set (below_set HB.out GE.out) GE.out) GE.out⟩;clear hw z0 z1 z2 q0 q1 q2;obtain ⟨z0,z1,z2,q0,q1,q2⟩:=ck3 BK.out)|((with_reducible refine gate_callee (f:=17) rfl ?_);refine gl _ Try.func17 #[.int .i64 2] ?_;(with_reducible refine (impl_hasConn.calls 2 true _ HT.out).mono ?_);rintro e w4 ⟨rfl,⟨nd,rfl⟩⟩;refine ⟨_,rfl,?_⟩;replace HO:=Aside0.mk (own_drew HO.out nd);replace HB:Aside0 (Below w.heap.size w (w3.drewN nd)):=⟨pw_below_drewN HB.out _⟩;replace BK:=Aside0.mk (blk_drewN BK.out nd))|(at_lookup;refine wpList_lookup_own_int _ rfl _ _ 36 rfl 3 3 .i64 impl_FreshConns.law Try.underlying36 Try.underlying3 (impl_FreshConns.zero _) B _ _ rfl HO.out _ _ rfl (Go.Maps.keyOf_int_mk Try.underlying3 HW2.out) ?_;intro c hat hwc;obtain rfl:=Dm_c hat;clear hat hwc)|(at_mapUpdate;refine wpList_mapUpdate_own _ rfl _ _ _ 36 rfl 3 3 impl_FreshConns.law Try.underlying36 _ B _ _ rfl HO.out (by have:=HP.out;have:=HL.out;unfold maxLen;omega) _ _ _ rfl rfl (Go.Maps.keyOf_int_mk Try.underlying3 HW2.out) _ [] (plainElem_int Try.underlying3 (by decide)) ?_;intro w5 hown1 hgrow1;replace BK:Aside0 (w5.heap[gb]? = some (.cells #[.int .i64 2,.int .i64 a1,.int .i64 a2] 30 (0,0))):=⟨(hgrow1.block gb (Array.getElem?_eq_some_iff.mp BK.out).1 (fun e_=>NB.out (Option.some.inj e_.symm))).trans BK.out⟩;replace HB:=Aside0.mk (Below.grown bl hgrow1 (below_size bl) (fun j hj=>by cases hj;exact HG.out));replace HO:=Aside0.mk hown1;clear hown1 hgrow1 z0 z1 z2 q0 q1 q2;obtain ⟨z0,z1,z2,q0,q1,q2⟩:=ck3 BK.out))
        go_roundg (l0.length - (x.toNat + 1))
        case measure=>have:=HP.out;omega
        case rel =>
         have e1:(wrap64 (x + 1)).toNat=x.toNat + 1:=by rw [HW.out];have:=HP.out;omega
         exact ⟨wrap64 (x + 1),la,(a2,3) :: (a2,2) :: m,rfl,rfl,⟨by have:=HP.out;rw [HW.out];omega⟩,⟨by rw [e1];exact HN.out⟩,⟨by rw [e1];exact HO.out.mono (by omega)⟩,⟨bl⟩⟩
       ·rw [if_neg n1] at H
        have b1:(lookT m a2 != 1)=true:=bne_iff_ne.mpr n1
        by_cases n2:lookT m a2=2
        ·rw [if_pos n2,if_neg (show ¬ (2:Int)=1 by decide),if_pos (show (2:Int)=2 by rfl)] at H
         have b2:(lookT m a2 != 2)=false:=bne_eq_false_iff_eq.mpr n2
         clear n1 n2
         subst H
         go_wp2_with (first|((with_reducible refine gate_dst (N:=6) rfl ?_);refine bx 6 #[.int .i64 0,.int .i64 0,.int .i64 0] 30 ?_;intro gb hg w2 hbox hb;have GE:=Aside0.mk (bz hg:w.heap.size≤gb);have NB:Aside0 (B≠gb):=⟨by rw [hg];exact Nat.ne_of_lt HO.out.lt⟩;replace HO:=Aside0.mk (own_below HO.out hb);replace HB:=Aside0.mk (below_step bl hb);have BK:=Aside0.mk hbox;clear hb hbox hg;obtain ⟨z0,z1,z2,q0,q1,q2⟩:=ck3 BK.out)|((with_reducible refine gate_store (t:=30) (p:=6) rfl ?_);refine sx 30 6 (((w2.setCell ⟨gb,0,none⟩ (.int .i64 2)).setCell ⟨gb,1,none⟩ (.int .i64 a1)).setCell ⟨gb,2,none⟩ (.int .i64 a2)) ?_;intro w3 hw;replace HO:Aside0 (w3.ownsMap Try.prog 3 (plainElem (H:=Unit) Try.prog 3) B (2 * x.toNat) (Dm m)):=⟨by rw [hw];exact ((HO.out.setCell NB.out _).setCell NB.out _).setCell NB.out _⟩;replace BK:Aside0 (w3.heap[gb]? = some (.cells #[.int .i64 2,.int .i64 a1,.int .i64 a2] 30 (0,0))):=⟨by rw [hw];exact blk_put (blk_put (blk_put BK.out 0 _ rfl) 1 _ rfl) 2 _ rfl⟩;replace HB:Aside0 (Below w.heap.size w w3):=⟨by rw [hw];exact below_set (below_set (below_set HB.out GE.out) GE.out) GE.out⟩;clear hw z0 z1 z2 q0 q1 q2;obtain ⟨z0,z1,z2,q0,q1,q2⟩:=ck3 BK.out)|((with_reducible refine gate_callee (f:=17) rfl ?_);refine gl _ Try.func17 #[.int .i64 2] ?_;(with_reducible refine (impl_hasConn.calls 2 true _ HT.out).mono ?_);rintro e w4 ⟨rfl,⟨nd,rfl⟩⟩;refine ⟨_,rfl,?_⟩;replace HO:=Aside0.mk (own_drew HO.out nd);replace HB:Aside0 (Below w.heap.size w (w3.drewN nd)):=⟨pw_below_drewN HB.out _⟩;replace BK:=Aside0.mk (blk_drewN BK.out nd))|(at_lookup;refine wpList_lookup_own_int _ rfl _ _ 36 rfl 3 3 .i64 impl_FreshConns.law Try.underlying36 Try.underlying3 (impl_FreshConns.zero _) B _ _ rfl HO.out _ _ rfl (Go.Maps.keyOf_int_mk Try.underlying3 HW2.out) ?_;intro c hat hwc;obtain rfl:=Dm_c hat;clear hat hwc))
         go_ret
         exact ⟨rfl,bl⟩
        ·rw [if_neg n2] at H
         have b2:(lookT m a2 != 2)=true:=bne_iff_ne.mpr n2
         clear n1 n2
         subst H
         go_wp2_with (first|((with_reducible refine gate_dst (N:=6) rfl ?_);refine bx 6 #[.int .i64 0,.int .i64 0,.int .i64 0] 30 ?_;intro gb hg w2 hbox hb;have GE:=Aside0.mk (bz hg:w.heap.size≤gb);have NB:Aside0 (B≠gb):=⟨by rw [hg];exact Nat.ne_of_lt HO.out.lt⟩;replace HO:=Aside0.mk (own_below HO.out hb);replace HB:=Aside0.mk (below_step bl hb);have BK:=Aside0.mk hbox;clear hb hbox hg;obtain ⟨z0,z1,z2,q0,q1,q2⟩:=ck3 BK.out)|((with_reducible refine gate_store (t:=30) (p:=6) rfl ?_);refine sx 30 6 (((w2.setCell ⟨gb,0,none⟩ (.int .i64 2)).setCell ⟨gb,1,none⟩ (.int .i64 a1)).setCell ⟨gb,2,none⟩ (.int .i64 a2)) ?_;intro w3 hw;replace HO:Aside0 (w3.ownsMap Try.prog 3 (plainElem (H:=Unit) Try.prog 3) B (2 * x.toNat) (Dm m)):=⟨by rw [hw];exact ((HO.out.setCell NB.out _).setCell NB.out _).setCell NB.out _⟩;replace BK:Aside0 (w3.heap[gb]? = some (.cells #[.int .i64 2,.int .i64 a1,.int .i64 a2] 30 (0,0))):=⟨by rw [hw];exact blk_put (blk_put (blk_put BK.out 0 _ rfl) 1 _ rfl) 2 _ rfl⟩;replace HB:Aside0 (Below w.heap.size w w3):=⟨by rw [hw];exact below_set (below_set (below_set HB.out GE.out) GE.out) GE.out⟩;clear hw z0 z1 z2 q0 q1 q2;obtain ⟨z0,z1,z2,q0,q1,q2⟩:=ck3 BK.out)|((with_reducible refine gate_callee (f:=17) rfl ?_);refine gl _ Try.func17 #[.int .i64 2] ?_;(with_reducible refine (impl_hasConn.calls 2 true _ HT.out).mono ?_);rintro e w4 ⟨rfl,⟨nd,rfl⟩⟩;refine ⟨_,rfl,?_⟩;replace HO:=Aside0.mk (own_drew HO.out nd);replace HB:Aside0 (Below w.heap.size w (w3.drewN nd)):=⟨pw_below_drewN HB.out _⟩;replace BK:=Aside0.mk (blk_drewN BK.out nd))|(at_lookup;refine wpList_lookup_own_int _ rfl _ _ 36 rfl 3 3 .i64 impl_FreshConns.law Try.underlying36 Try.underlying3 (impl_FreshConns.zero _) B _ _ rfl HO.out _ _ rfl (Go.Maps.keyOf_int_mk Try.underlying3 HW2.out) ?_;intro c hat hwc;obtain rfl:=Dm_c hat;clear hat hwc))
         go_ret
         exact ⟨rfl,bl⟩
      ·subst kk
       rw [if_pos (show impl_FreshConns.hc 3=true by decide)] at H
       rw [if_neg (show ¬ (3:Int)=0 by decide)] at H
       by_cases n1:lookT m a2=1
       ·rw [if_pos n1,if_neg (show ¬ (3:Int)=1 by decide),if_neg (show ¬ (3:Int)=2 by decide),if_pos (show (3:Int)=3∨(3:Int)=6 by decide)] at H
        have b1:(lookT m a2 != 1)=false:=bne_eq_false_iff_eq.mpr n1
        have b2:(lookT m a2 != 2)=true:=bne_iff_ne.mpr (by rw [n1];decide)
        clear n1
        subst H
        go_wp2_with (first|((with_reducible refine gate_dst (N:=6) rfl ?_);refine bx 6 #[.int .i64 0,.int .i64 0,.int .i64 0] 30 ?_;intro gb hg w2 hbox hb;have GE:=Aside0.mk (bz hg:w.heap.size≤gb);have NB:Aside0 (B≠gb):=⟨by rw [hg];exact Nat.ne_of_lt HO.out.lt⟩;replace HO:=Aside0.mk (own_below HO.out hb);replace HB:=Aside0.mk (below_step bl hb);have BK:=Aside0.mk hbox;clear hb hbox hg;obtain ⟨z0,z1,z2,q0,q1,q2⟩:=ck3 BK.out)|((with_reducible refine gate_store (t:=30) (p:=6) rfl ?_);refine sx 30 6 (((w2.setCell ⟨gb,0,none⟩ (.int .i64 3)).setCell ⟨gb,1,none⟩ (.int .i64 a1)).setCell ⟨gb,2,none⟩ (.int .i64 a2)) ?_;intro w3 hw;replace HO:Aside0 (w3.ownsMap Try.prog 3 (plainElem (H:=Unit) Try.prog 3) B (2 * x.toNat) (Dm m)):=⟨by rw [hw];exact ((HO.out.setCell NB.out _).setCell NB.out _).setCell NB.out _⟩;replace BK:Aside0 (w3.heap[gb]? = some (.cells #[.int .i64 3,.int .i64 a1,.int .i64 a2] 30 (0,0))):=⟨by rw [hw];exact blk_put (blk_put (blk_put BK.out 0 _ rfl) 1 _ rfl) 2 _ rfl⟩;replace HB:Aside0 (Below w.heap.size w w3):=⟨by rw [hw];exact below_set (below_set (below_set HB.out GE.out) GE.out) GE.out⟩;clear hw z0 z1 z2 q0 q1 q2;obtain ⟨z0,z1,z2,q0,q1,q2⟩:=ck3 BK.out)|((with_reducible refine gate_callee (f:=17) rfl ?_);refine gl _ Try.func17 #[.int .i64 3] ?_;(with_reducible refine (impl_hasConn.calls 3 true _ HT.out).mono ?_);rintro e w4 ⟨rfl,⟨nd,rfl⟩⟩;refine ⟨_,rfl,?_⟩;replace HO:=Aside0.mk (own_drew HO.out nd);replace HB:Aside0 (Below w.heap.size w (w3.drewN nd)):=⟨pw_below_drewN HB.out _⟩;replace BK:=Aside0.mk (blk_drewN BK.out nd))|(at_lookup;refine wpList_lookup_own_int _ rfl _ _ 36 rfl 3 3 .i64 impl_FreshConns.law Try.underlying36 Try.underlying3 (impl_FreshConns.zero _) B _ _ rfl HO.out _ _ rfl (Go.Maps.keyOf_int_mk Try.underlying3 HW2.out) ?_;intro c hat hwc;obtain rfl:=Dm_c hat;clear hat hwc))
        go_ret
        exact ⟨rfl,bl⟩
       ·rw [if_neg n1] at H
        have b1:(lookT m a2 != 1)=true:=bne_iff_ne.mpr n1
        by_cases n2:lookT m a2=2
        ·rw [if_pos n2,if_neg (show ¬ (3:Int)=1 by decide),if_neg (show ¬ (3:Int)=2 by decide),if_pos (show (3:Int)=3∨(3:Int)=6 by decide)] at H
         have b2:(lookT m a2 != 2)=false:=bne_eq_false_iff_eq.mpr n2
         clear n1 n2
         have HN:=Aside0.mk H
         clear H
         go_wp2_with (first|((with_reducible refine gate_dst (N:=6) rfl ?_);refine bx 6 #[.int .i64 0,.int .i64 0,.int .i64 0] 30 ?_;intro gb hg w2 hbox hb;have GE:=Aside0.mk (bz hg:w.heap.size≤gb);have NB:Aside0 (B≠gb):=⟨by rw [hg];exact Nat.ne_of_lt HO.out.lt⟩;replace HO:=Aside0.mk (own_below HO.out hb);replace HB:=Aside0.mk (below_step bl hb);have BK:=Aside0.mk hbox;clear hb hbox hg;obtain ⟨z0,z1,z2,q0,q1,q2⟩:=ck3 BK.out)|((with_reducible refine gate_store (t:=30) (p:=6) rfl ?_);refine sx 30 6 (((w2.setCell ⟨gb,0,none⟩ (.int .i64 3)).setCell ⟨gb,1,none⟩ (.int .i64 a1)).setCell ⟨gb,2,none⟩ (.int .i64 a2)) ?_;intro w3 hw;replace HO:Aside0 (w3.ownsMap Try.prog 3 (plainElem (H:=Unit) Try.prog 3) B (2 * x.toNat) (Dm m)):=⟨by rw [hw];exact ((HO.out.setCell NB.out _).setCell NB.out _).setCell NB.out _⟩;replace BK:Aside0 (w3.heap[gb]? = some (.cells #[.int .i64 3,.int .i64 a1,.int .i64 a2] 30 (0,0))):=⟨by rw [hw];exact blk_put (blk_put (blk_put BK.out 0 _ rfl) 1 _ rfl) 2 _ rfl⟩;replace HB:Aside0 (Below w.heap.size w w3):=⟨by rw [hw];exact below_set (below_set (below_set HB.out GE.out) GE.out) GE.out⟩;clear hw z0 z1 z2 q0 q1 q2;obtain ⟨z0,z1,z2,q0,q1,q2⟩:=ck3 BK.out)|((with_reducible refine gate_callee (f:=17) rfl ?_);refine gl _ Try.func17 #[.int .i64 3] ?_;(with_reducible refine (impl_hasConn.calls 3 true _ HT.out).mono ?_);rintro e w4 ⟨rfl,⟨nd,rfl⟩⟩;refine ⟨_,rfl,?_⟩;replace HO:=Aside0.mk (own_drew HO.out nd);replace HB:Aside0 (Below w.heap.size w (w3.drewN nd)):=⟨pw_below_drewN HB.out _⟩;replace BK:=Aside0.mk (blk_drewN BK.out nd))|(at_lookup;refine wpList_lookup_own_int _ rfl _ _ 36 rfl 3 3 .i64 impl_FreshConns.law Try.underlying36 Try.underlying3 (impl_FreshConns.zero _) B _ _ rfl HO.out _ _ rfl (Go.Maps.keyOf_int_mk Try.underlying3 HW2.out) ?_;intro c hat hwc;obtain rfl:=Dm_c hat;clear hat hwc))
         go_roundg (l0.length - (x.toNat + 1))
         case measure=>have:=HP.out;omega
         case rel =>
          have e1:(wrap64 (x + 1)).toNat=x.toNat + 1:=by rw [HW.out];have:=HP.out;omega
          exact ⟨wrap64 (x + 1),la,m,rfl,rfl,⟨by have:=HP.out;rw [HW.out];omega⟩,⟨by rw [e1];exact HN.out⟩,⟨by rw [e1];exact HO.out.mono (by omega)⟩,⟨bl⟩⟩
        ·rw [if_neg n2] at H
         have b2:(lookT m a2 != 2)=true:=bne_iff_ne.mpr n2
         clear n1 n2
         subst H
         go_wp2_with (first|((with_reducible refine gate_dst (N:=6) rfl ?_);refine bx 6 #[.int .i64 0,.int .i64 0,.int .i64 0] 30 ?_;intro gb hg w2 hbox hb;have GE:=Aside0.mk (bz hg:w.heap.size≤gb);have NB:Aside0 (B≠gb):=⟨by rw [hg];exact Nat.ne_of_lt HO.out.lt⟩;replace HO:=Aside0.mk (own_below HO.out hb);replace HB:=Aside0.mk (below_step bl hb);have BK:=Aside0.mk hbox;clear hb hbox hg;obtain ⟨z0,z1,z2,q0,q1,q2⟩:=ck3 BK.out)|((with_reducible refine gate_store (t:=30) (p:=6) rfl ?_);refine sx 30 6 (((w2.setCell ⟨gb,0,none⟩ (.int .i64 3)).setCell ⟨gb,1,none⟩ (.int .i64 a1)).setCell ⟨gb,2,none⟩ (.int .i64 a2)) ?_;intro w3 hw;replace HO:Aside0 (w3.ownsMap Try.prog 3 (plainElem (H:=Unit) Try.prog 3) B (2 * x.toNat) (Dm m)):=⟨by rw [hw];exact ((HO.out.setCell NB.out _).setCell NB.out _).setCell NB.out _⟩;replace BK:Aside0 (w3.heap[gb]? = some (.cells #[.int .i64 3,.int .i64 a1,.int .i64 a2] 30 (0,0))):=⟨by rw [hw];exact blk_put (blk_put (blk_put BK.out 0 _ rfl) 1 _ rfl) 2 _ rfl⟩;replace HB:Aside0 (Below w.heap.size w w3):=⟨by rw [hw];exact below_set (below_set (below_set HB.out GE.out) GE.out) GE.out⟩;clear hw z0 z1 z2 q0 q1 q2;obtain ⟨z0,z1,z2,q0,q1,q2⟩:=ck3 BK.out)|((with_reducible refine gate_callee (f:=17) rfl ?_);refine gl _ Try.func17 #[.int .i64 3] ?_;(with_reducible refine (impl_hasConn.calls 3 true _ HT.out).mono ?_);rintro e w4 ⟨rfl,⟨nd,rfl⟩⟩;refine ⟨_,rfl,?_⟩;replace HO:=Aside0.mk (own_drew HO.out nd);replace HB:Aside0 (Below w.heap.size w (w3.drewN nd)):=⟨pw_below_drewN HB.out _⟩;replace BK:=Aside0.mk (blk_drewN BK.out nd))|(at_lookup;refine wpList_lookup_own_int _ rfl _ _ 36 rfl 3 3 .i64 impl_FreshConns.law Try.underlying36 Try.underlying3 (impl_FreshConns.zero _) B _ _ rfl HO.out _ _ rfl (Go.Maps.keyOf_int_mk Try.underlying3 HW2.out) ?_;intro c hat hwc;obtain rfl:=Dm_c hat;clear hat hwc))
         go_ret
         exact ⟨rfl,bl⟩
      ·subst kk
       rw [if_pos (show impl_FreshConns.hc 4=true by decide)] at H
       rw [if_neg (show ¬ (4:Int)=0 by decide)] at H
       by_cases n1:lookT m a2=1
       ·rw [if_pos n1,if_neg (show ¬ (4:Int)=1 by decide),if_neg (show ¬ (4:Int)=2 by decide),if_neg (show ¬ ((4:Int)=3∨(4:Int)=6) by decide),if_neg (show ¬ (4:Int)=5 by decide)] at H
        have b1:(lookT m a2 != 1)=false:=bne_eq_false_iff_eq.mpr n1
        have b2:(lookT m a2 != 2)=true:=bne_iff_ne.mpr (by rw [n1];decide)
        clear n1
        have HN:=Aside0.mk H
        clear H
        go_wp2_with (first|((with_reducible refine gate_dst (N:=6) rfl ?_);refine bx 6 #[.int .i64 0,.int .i64 0,.int .i64 0] 30 ?_;intro gb hg w2 hbox hb;have GE:=Aside0.mk (bz hg:w.heap.size≤gb);have NB:Aside0 (B≠gb):=⟨by rw [hg];exact Nat.ne_of_lt HO.out.lt⟩;replace HO:=Aside0.mk (own_below HO.out hb);replace HB:=Aside0.mk (below_step bl hb);have BK:=Aside0.mk hbox;clear hb hbox hg;obtain ⟨z0,z1,z2,q0,q1,q2⟩:=ck3 BK.out)|((with_reducible refine gate_store (t:=30) (p:=6) rfl ?_);refine sx 30 6 (((w2.setCell ⟨gb,0,none⟩ (.int .i64 4)).setCell ⟨gb,1,none⟩ (.int .i64 a1)).setCell ⟨gb,2,none⟩ (.int .i64 a2)) ?_;intro w3 hw;replace HO:Aside0 (w3.ownsMap Try.prog 3 (plainElem (H:=Unit) Try.prog 3) B (2 * x.toNat) (Dm m)):=⟨by rw [hw];exact ((HO.out.setCell NB.out _).setCell NB.out _).setCell NB.out _⟩;replace BK:Aside0 (w3.heap[gb]? = some (.cells #[.int .i64 4,.int .i64 a1,.int .i64 a2] 30 (0,0))):=⟨by rw [hw];exact blk_put (blk_put (blk_put BK.out 0 _ rfl) 1 _ rfl) 2 _ rfl⟩;replace HB:Aside0 (Below w.heap.size w w3):=⟨by rw [hw];exact below_set (below_set (below_set HB.out GE.out) GE.out) GE.out⟩;clear hw z0 z1 z2 q0 q1 q2;obtain ⟨z0,z1,z2,q0,q1,q2⟩:=ck3 BK.out)|((with_reducible refine gate_callee (f:=17) rfl ?_);refine gl _ Try.func17 #[.int .i64 4] ?_;(with_reducible refine (impl_hasConn.calls 4 true _ HT.out).mono ?_);rintro e w4 ⟨rfl,⟨nd,rfl⟩⟩;refine ⟨_,rfl,?_⟩;replace HO:=Aside0.mk (own_drew HO.out nd);replace HB:Aside0 (Below w.heap.size w (w3.drewN nd)):=⟨pw_below_drewN HB.out _⟩;replace BK:=Aside0.mk (blk_drewN BK.out nd))|(at_lookup;refine wpList_lookup_own_int _ rfl _ _ 36 rfl 3 3 .i64 impl_FreshConns.law Try.underlying36 Try.underlying3 (impl_FreshConns.zero _) B _ _ rfl HO.out _ _ rfl (Go.Maps.keyOf_int_mk Try.underlying3 HW2.out) ?_;intro c hat hwc;obtain rfl:=Dm_c hat;clear hat hwc))
        go_roundg (l0.length - (x.toNat + 1))
        case measure=>have:=HP.out;omega
        case rel =>
         have e1:(wrap64 (x + 1)).toNat=x.toNat + 1:=by rw [HW.out];have:=HP.out;omega
         exact ⟨wrap64 (x + 1),la,m,rfl,rfl,⟨by have:=HP.out;rw [HW.out];omega⟩,⟨by rw [e1];exact HN.out⟩,⟨by rw [e1];exact HO.out.mono (by omega)⟩,⟨bl⟩⟩
       ·rw [if_neg n1] at H
        have b1:(lookT m a2 != 1)=true:=bne_iff_ne.mpr n1
        by_cases n2:lookT m a2=2
        ·rw [if_pos n2,if_neg (show ¬ (4:Int)=1 by decide),if_neg (show ¬ (4:Int)=2 by decide),if_neg (show ¬ ((4:Int)=3∨(4:Int)=6) by decide),if_neg (show ¬ (4:Int)=5 by decide)] at H
         have b2:(lookT m a2 != 2)=false:=bne_eq_false_iff_eq.mpr n2
         clear n1 n2
         have HN:=Aside0.mk H
         clear H
         go_wp2_with (first|((with_reducible refine gate_dst (N:=6) rfl ?_);refine bx 6 #[.int .i64 0,.int .i64 0,.int .i64 0] 30 ?_;intro gb hg w2 hbox hb;have GE:=Aside0.mk (bz hg:w.heap.size≤gb);have NB:Aside0 (B≠gb):=⟨by rw [hg];exact Nat.ne_of_lt HO.out.lt⟩;replace HO:=Aside0.mk (own_below HO.out hb);replace HB:=Aside0.mk (below_step bl hb);have BK:=Aside0.mk hbox;clear hb hbox hg;obtain ⟨z0,z1,z2,q0,q1,q2⟩:=ck3 BK.out)|((with_reducible refine gate_store (t:=30) (p:=6) rfl ?_);refine sx 30 6 (((w2.setCell ⟨gb,0,none⟩ (.int .i64 4)).setCell ⟨gb,1,none⟩ (.int .i64 a1)).setCell ⟨gb,2,none⟩ (.int .i64 a2)) ?_;intro w3 hw;replace HO:Aside0 (w3.ownsMap Try.prog 3 (plainElem (H:=Unit) Try.prog 3) B (2 * x.toNat) (Dm m)):=⟨by rw [hw];exact ((HO.out.setCell NB.out _).setCell NB.out _).setCell NB.out _⟩;replace BK:Aside0 (w3.heap[gb]? = some (.cells #[.int .i64 4,.int .i64 a1,.int .i64 a2] 30 (0,0))):=⟨by rw [hw];exact blk_put (blk_put (blk_put BK.out 0 _ rfl) 1 _ rfl) 2 _ rfl⟩;replace HB:Aside0 (Below w.heap.size w w3):=⟨by rw [hw];exact below_set (below_set (below_set HB.out GE.out) GE.out) GE.out⟩;clear hw z0 z1 z2 q0 q1 q2;obtain ⟨z0,z1,z2,q0,q1,q2⟩:=ck3 BK.out)|((with_reducible refine gate_callee (f:=17) rfl ?_);refine gl _ Try.func17 #[.int .i64 4] ?_;(with_reducible refine (impl_hasConn.calls 4 true _ HT.out).mono ?_);rintro e w4 ⟨rfl,⟨nd,rfl⟩⟩;refine ⟨_,rfl,?_⟩;replace HO:=Aside0.mk (own_drew HO.out nd);replace HB:Aside0 (Below w.heap.size w (w3.drewN nd)):=⟨pw_below_drewN HB.out _⟩;replace BK:=Aside0.mk (blk_drewN BK.out nd))|(at_lookup;refine wpList_lookup_own_int _ rfl _ _ 36 rfl 3 3 .i64 impl_FreshConns.law Try.underlying36 Try.underlying3 (impl_FreshConns.zero _) B _ _ rfl HO.out _ _ rfl (Go.Maps.keyOf_int_mk Try.underlying3 HW2.out) ?_;intro c hat hwc;obtain rfl:=Dm_c hat;clear hat hwc))
         go_roundg (l0.length - (x.toNat + 1))
         case measure=>have:=HP.out;omega
         case rel =>
          have e1:(wrap64 (x + 1)).toNat=x.toNat + 1:=by rw [HW.out];have:=HP.out;omega
          exact ⟨wrap64 (x + 1),la,m,rfl,rfl,⟨by have:=HP.out;rw [HW.out];omega⟩,⟨by rw [e1];exact HN.out⟩,⟨by rw [e1];exact HO.out.mono (by omega)⟩,⟨bl⟩⟩
        ·rw [if_neg n2] at H
         have b2:(lookT m a2 != 2)=true:=bne_iff_ne.mpr n2
         clear n1 n2
         subst H
         go_wp2_with (first|((with_reducible refine gate_dst (N:=6) rfl ?_);refine bx 6 #[.int .i64 0,.int .i64 0,.int .i64 0] 30 ?_;intro gb hg w2 hbox hb;have GE:=Aside0.mk (bz hg:w.heap.size≤gb);have NB:Aside0 (B≠gb):=⟨by rw [hg];exact Nat.ne_of_lt HO.out.lt⟩;replace HO:=Aside0.mk (own_below HO.out hb);replace HB:=Aside0.mk (below_step bl hb);have BK:=Aside0.mk hbox;clear hb hbox hg;obtain ⟨z0,z1,z2,q0,q1,q2⟩:=ck3 BK.out)|((with_reducible refine gate_store (t:=30) (p:=6) rfl ?_);refine sx 30 6 (((w2.setCell ⟨gb,0,none⟩ (.int .i64 4)).setCell ⟨gb,1,none⟩ (.int .i64 a1)).setCell ⟨gb,2,none⟩ (.int .i64 a2)) ?_;intro w3 hw;replace HO:Aside0 (w3.ownsMap Try.prog 3 (plainElem (H:=Unit) Try.prog 3) B (2 * x.toNat) (Dm m)):=⟨by rw [hw];exact ((HO.out.setCell NB.out _).setCell NB.out _).setCell NB.out _⟩;replace BK:Aside0 (w3.heap[gb]? = some (.cells #[.int .i64 4,.int .i64 a1,.int .i64 a2] 30 (0,0))):=⟨by rw [hw];exact blk_put (blk_put (blk_put BK.out 0 _ rfl) 1 _ rfl) 2 _ rfl⟩;replace HB:Aside0 (Below w.heap.size w w3):=⟨by rw [hw];exact below_set (below_set (below_set HB.out GE.out) GE.out) GE.out⟩;clear hw z0 z1 z2 q0 q1 q2;obtain ⟨z0,z1,z2,q0,q1,q2⟩:=ck3 BK.out)|((with_reducible refine gate_callee (f:=17) rfl ?_);refine gl _ Try.func17 #[.int .i64 4] ?_;(with_reducible refine (impl_hasConn.calls 4 true _ HT.out).mono ?_);rintro e w4 ⟨rfl,⟨nd,rfl⟩⟩;refine ⟨_,rfl,?_⟩;replace HO:=Aside0.mk (own_drew HO.out nd);replace HB:Aside0 (Below w.heap.size w (w3.drewN nd)):=⟨pw_below_drewN HB.out _⟩;replace BK:=Aside0.mk (blk_drewN BK.out nd))|(at_lookup;refine wpList_lookup_own_int _ rfl _ _ 36 rfl 3 3 .i64 impl_FreshConns.law Try.underlying36 Try.underlying3 (impl_FreshConns.zero _) B _ _ rfl HO.out _ _ rfl (Go.Maps.keyOf_int_mk Try.underlying3 HW2.out) ?_;intro c hat hwc;obtain rfl:=Dm_c hat;clear hat hwc))
         go_ret
         exact ⟨rfl,bl⟩
      ·subst kk
       rw [if_pos (show impl_FreshConns.hc 5=true by decide)] at H
       rw [if_neg (show ¬ (5:Int)=0 by decide)] at H
       by_cases n1:lookT m a2=1
       ·rw [if_pos n1,if_neg (show ¬ (5:Int)=1 by decide),if_neg (show ¬ (5:Int)=2 by decide),if_neg (show ¬ ((5:Int)=3∨(5:Int)=6) by decide),if_pos (show (5:Int)=5 by rfl)] at H
        have b1:(lookT m a2 != 1)=false:=bne_eq_false_iff_eq.mpr n1
        have b2:(lookT m a2 != 2)=true:=bne_iff_ne.mpr (by rw [n1];decide)
        clear n1
        have HN:=Aside0.mk H
        clear H
        go_wp2_with (first|((with_reducible refine gate_dst (N:=6) rfl ?_);refine bx 6 #[.int .i64 0,.int .i64 0,.int .i64 0] 30 ?_;intro gb hg w2 hbox hb;have GE:=Aside0.mk (bz hg:w.heap.size≤gb);have NB:Aside0 (B≠gb):=⟨by rw [hg];exact Nat.ne_of_lt HO.out.lt⟩;replace HO:=Aside0.mk (own_below HO.out hb);replace HB:=Aside0.mk (below_step bl hb);have BK:=Aside0.mk hbox;clear hb hbox hg;obtain ⟨z0,z1,z2,q0,q1,q2⟩:=ck3 BK.out)|((with_reducible refine gate_store (t:=30) (p:=6) rfl ?_);refine sx 30 6 (((w2.setCell ⟨gb,0,none⟩ (.int .i64 5)).setCell ⟨gb,1,none⟩ (.int .i64 a1)).setCell ⟨gb,2,none⟩ (.int .i64 a2)) ?_;intro w3 hw;replace HO:Aside0 (w3.ownsMap Try.prog 3 (plainElem (H:=Unit) Try.prog 3) B (2 * x.toNat) (Dm m)):=⟨by rw [hw];exact ((HO.out.setCell NB.out _).setCell NB.out _).setCell NB.out _⟩;replace BK:Aside0 (w3.heap[gb]? = some (.cells #[.int .i64 5,.int .i64 a1,.int .i64 a2] 30 (0,0))):=⟨by rw [hw];exact blk_put (blk_put (blk_put BK.out 0 _ rfl) 1 _ rfl) 2 _ rfl⟩;replace HB:Aside0 (Below w.heap.size w w3):=⟨by rw [hw];exact below_set (below_set (below_set HB.out GE.out) GE.out) GE.out⟩;clear hw z0 z1 z2 q0 q1 q2;obtain ⟨z0,z1,z2,q0,q1,q2⟩:=ck3 BK.out)|((with_reducible refine gate_callee (f:=17) rfl ?_);refine gl _ Try.func17 #[.int .i64 5] ?_;(with_reducible refine (impl_hasConn.calls 5 true _ HT.out).mono ?_);rintro e w4 ⟨rfl,⟨nd,rfl⟩⟩;refine ⟨_,rfl,?_⟩;replace HO:=Aside0.mk (own_drew HO.out nd);replace HB:Aside0 (Below w.heap.size w (w3.drewN nd)):=⟨pw_below_drewN HB.out _⟩;replace BK:=Aside0.mk (blk_drewN BK.out nd))|(at_lookup;refine wpList_lookup_own_int _ rfl _ _ 36 rfl 3 3 .i64 impl_FreshConns.law Try.underlying36 Try.underlying3 (impl_FreshConns.zero _) B _ _ rfl HO.out _ _ rfl (Go.Maps.keyOf_int_mk Try.underlying3 HW2.out) ?_;intro c hat hwc;obtain rfl:=Dm_c hat;clear hat hwc)|(at_mapUpdate;refine wpList_mapUpdate_own _ rfl _ _ _ 36 rfl 3 3 impl_FreshConns.law Try.underlying36 _ B _ _ rfl HO.out (by have:=HP.out;have:=HL.out;unfold maxLen;omega) _ _ _ rfl rfl (Go.Maps.keyOf_int_mk Try.underlying3 HW2.out) _ [] (plainElem_int Try.underlying3 (by decide)) ?_;intro w5 hown1 hgrow1;replace BK:Aside0 (w5.heap[gb]? = some (.cells #[.int .i64 5,.int .i64 a1,.int .i64 a2] 30 (0,0))):=⟨(hgrow1.block gb (Array.getElem?_eq_some_iff.mp BK.out).1 (fun e_=>NB.out (Option.some.inj e_.symm))).trans BK.out⟩;replace HB:=Aside0.mk (Below.grown bl hgrow1 (below_size bl) (fun j hj=>by cases hj;exact HG.out));replace HO:=Aside0.mk hown1;clear hown1 hgrow1 z0 z1 z2 q0 q1 q2;obtain ⟨z0,z1,z2,q0,q1,q2⟩:=ck3 BK.out))
        go_roundg (l0.length - (x.toNat + 1))
        case measure=>have:=HP.out;omega
        case rel =>
         have e1:(wrap64 (x + 1)).toNat=x.toNat + 1:=by rw [HW.out];have:=HP.out;omega
         exact ⟨wrap64 (x + 1),la,(a2,3) :: m,rfl,rfl,⟨by have:=HP.out;rw [HW.out];omega⟩,⟨by rw [e1];exact HN.out⟩,⟨by rw [e1];exact HO.out.mono (by omega)⟩,⟨bl⟩⟩
       ·rw [if_neg n1] at H
        have b1:(lookT m a2 != 1)=true:=bne_iff_ne.mpr n1
        by_cases n2:lookT m a2=2
        ·rw [if_pos n2,if_neg (show ¬ (5:Int)=1 by decide),if_neg (show ¬ (5:Int)=2 by decide),if_neg (show ¬ ((5:Int)=3∨(5:Int)=6) by decide),if_pos (show (5:Int)=5 by rfl)] at H
         have b2:(lookT m a2 != 2)=false:=bne_eq_false_iff_eq.mpr n2
         clear n1 n2
         have HN:=Aside0.mk H
         clear H
         go_wp2_with (first|((with_reducible refine gate_dst (N:=6) rfl ?_);refine bx 6 #[.int .i64 0,.int .i64 0,.int .i64 0] 30 ?_;intro gb hg w2 hbox hb;have GE:=Aside0.mk (bz hg:w.heap.size≤gb);have NB:Aside0 (B≠gb):=⟨by rw [hg];exact Nat.ne_of_lt HO.out.lt⟩;replace HO:=Aside0.mk (own_below HO.out hb);replace HB:=Aside0.mk (below_step bl hb);have BK:=Aside0.mk hbox;clear hb hbox hg;obtain ⟨z0,z1,z2,q0,q1,q2⟩:=ck3 BK.out)|((with_reducible refine gate_store (t:=30) (p:=6) rfl ?_);refine sx 30 6 (((w2.setCell ⟨gb,0,none⟩ (.int .i64 5)).setCell ⟨gb,1,none⟩ (.int .i64 a1)).setCell ⟨gb,2,none⟩ (.int .i64 a2)) ?_;intro w3 hw;replace HO:Aside0 (w3.ownsMap Try.prog 3 (plainElem (H:=Unit) Try.prog 3) B (2 * x.toNat) (Dm m)):=⟨by rw [hw];exact ((HO.out.setCell NB.out _).setCell NB.out _).setCell NB.out _⟩;replace BK:Aside0 (w3.heap[gb]? = some (.cells #[.int .i64 5,.int .i64 a1,.int .i64 a2] 30 (0,0))):=⟨by rw [hw];exact blk_put (blk_put (blk_put BK.out 0 _ rfl) 1 _ rfl) 2 _ rfl⟩;replace HB:Aside0 (Below w.heap.size w w3):=⟨by rw [hw];exact below_set (below_set (below_set HB.out GE.out) GE.out) GE.out⟩;clear hw z0 z1 z2 q0 q1 q2;obtain ⟨z0,z1,z2,q0,q1,q2⟩:=ck3 BK.out)|((with_reducible refine gate_callee (f:=17) rfl ?_);refine gl _ Try.func17 #[.int .i64 5] ?_;(with_reducible refine (impl_hasConn.calls 5 true _ HT.out).mono ?_);rintro e w4 ⟨rfl,⟨nd,rfl⟩⟩;refine ⟨_,rfl,?_⟩;replace HO:=Aside0.mk (own_drew HO.out nd);replace HB:Aside0 (Below w.heap.size w (w3.drewN nd)):=⟨pw_below_drewN HB.out _⟩;replace BK:=Aside0.mk (blk_drewN BK.out nd))|(at_lookup;refine wpList_lookup_own_int _ rfl _ _ 36 rfl 3 3 .i64 impl_FreshConns.law Try.underlying36 Try.underlying3 (impl_FreshConns.zero _) B _ _ rfl HO.out _ _ rfl (Go.Maps.keyOf_int_mk Try.underlying3 HW2.out) ?_;intro c hat hwc;obtain rfl:=Dm_c hat;clear hat hwc)|(at_mapUpdate;refine wpList_mapUpdate_own _ rfl _ _ _ 36 rfl 3 3 impl_FreshConns.law Try.underlying36 _ B _ _ rfl HO.out (by have:=HP.out;have:=HL.out;unfold maxLen;omega) _ _ _ rfl rfl (Go.Maps.keyOf_int_mk Try.underlying3 HW2.out) _ [] (plainElem_int Try.underlying3 (by decide)) ?_;intro w5 hown1 hgrow1;replace BK:Aside0 (w5.heap[gb]? = some (.cells #[.int .i64 5,.int .i64 a1,.int .i64 a2] 30 (0,0))):=⟨(hgrow1.block gb (Array.getElem?_eq_some_iff.mp BK.out).1 (fun e_=>NB.out (Option.some.inj e_.symm))).trans BK.out⟩;replace HB:=Aside0.mk (Below.grown bl hgrow1 (below_size bl) (fun j hj=>by cases hj;exact HG.out));replace HO:=Aside0.mk hown1;clear hown1 hgrow1 z0 z1 z2 q0 q1 q2;obtain ⟨z0,z1,z2,q0,q1,q2⟩:=ck3 BK.out))
         go_roundg (l0.length - (x.toNat + 1))
         case measure=>have:=HP.out;omega
         case rel =>
          have e1:(wrap64 (x + 1)).toNat=x.toNat + 1:=by rw [HW.out];have:=HP.out;omega
          exact ⟨wrap64 (x + 1),la,(a2,3) :: m,rfl,rfl,⟨by have:=HP.out;rw [HW.out];omega⟩,⟨by rw [e1];exact HN.out⟩,⟨by rw [e1];exact HO.out.mono (by omega)⟩,⟨bl⟩⟩
        ·rw [if_neg n2] at H
         have b2:(lookT m a2 != 2)=true:=bne_iff_ne.mpr n2
         clear n1 n2
         subst H
         go_wp2_with (first|((with_reducible refine gate_dst (N:=6) rfl ?_);refine bx 6 #[.int .i64 0,.int .i64 0,.int .i64 0] 30 ?_;intro gb hg w2 hbox hb;have GE:=Aside0.mk (bz hg:w.heap.size≤gb);have NB:Aside0 (B≠gb):=⟨by rw [hg];exact Nat.ne_of_lt HO.out.lt⟩;replace HO:=Aside0.mk (own_below HO.out hb);replace HB:=Aside0.mk (below_step bl hb);have BK:=Aside0.mk hbox;clear hb hbox hg;obtain ⟨z0,z1,z2,q0,q1,q2⟩:=ck3 BK.out)|((with_reducible refine gate_store (t:=30) (p:=6) rfl ?_);refine sx 30 6 (((w2.setCell ⟨gb,0,none⟩ (.int .i64 5)).setCell ⟨gb,1,none⟩ (.int .i64 a1)).setCell ⟨gb,2,none⟩ (.int .i64 a2)) ?_;intro w3 hw;replace HO:Aside0 (w3.ownsMap Try.prog 3 (plainElem (H:=Unit) Try.prog 3) B (2 * x.toNat) (Dm m)):=⟨by rw [hw];exact ((HO.out.setCell NB.out _).setCell NB.out _).setCell NB.out _⟩;replace BK:Aside0 (w3.heap[gb]? = some (.cells #[.int .i64 5,.int .i64 a1,.int .i64 a2] 30 (0,0))):=⟨by rw [hw];exact blk_put (blk_put (blk_put BK.out 0 _ rfl) 1 _ rfl) 2 _ rfl⟩;replace HB:Aside0 (Below w.heap.size w w3):=⟨by rw [hw];exact below_set (below_set (below_set HB.out GE.out) GE.out) GE.out⟩;clear hw z0 z1 z2 q0 q1 q2;obtain ⟨z0,z1,z2,q0,q1,q2⟩:=ck3 BK.out)|((with_reducible refine gate_callee (f:=17) rfl ?_);refine gl _ Try.func17 #[.int .i64 5] ?_;(with_reducible refine (impl_hasConn.calls 5 true _ HT.out).mono ?_);rintro e w4 ⟨rfl,⟨nd,rfl⟩⟩;refine ⟨_,rfl,?_⟩;replace HO:=Aside0.mk (own_drew HO.out nd);replace HB:Aside0 (Below w.heap.size w (w3.drewN nd)):=⟨pw_below_drewN HB.out _⟩;replace BK:=Aside0.mk (blk_drewN BK.out nd))|(at_lookup;refine wpList_lookup_own_int _ rfl _ _ 36 rfl 3 3 .i64 impl_FreshConns.law Try.underlying36 Try.underlying3 (impl_FreshConns.zero _) B _ _ rfl HO.out _ _ rfl (Go.Maps.keyOf_int_mk Try.underlying3 HW2.out) ?_;intro c hat hwc;obtain rfl:=Dm_c hat;clear hat hwc))
         go_ret
         exact ⟨rfl,bl⟩
      ·subst kk
       rw [if_pos (show impl_FreshConns.hc 6=true by decide)] at H
       rw [if_neg (show ¬ (6:Int)=0 by decide)] at H
       by_cases n1:lookT m a2=1
       ·rw [if_pos n1,if_neg (show ¬ (6:Int)=1 by decide),if_neg (show ¬ (6:Int)=2 by decide),if_pos (show (6:Int)=3∨(6:Int)=6 by decide)] at H
        have b1:(lookT m a2 != 1)=false:=bne_eq_false_iff_eq.mpr n1
        have b2:(lookT m a2 != 2)=true:=bne_iff_ne.mpr (by rw [n1];decide)
        clear n1
        subst H
        go_wp2_with (first|((with_reducible refine gate_dst (N:=6) rfl ?_);refine bx 6 #[.int .i64 0,.int .i64 0,.int .i64 0] 30 ?_;intro gb hg w2 hbox hb;have GE:=Aside0.mk (bz hg:w.heap.size≤gb);have NB:Aside0 (B≠gb):=⟨by rw [hg];exact Nat.ne_of_lt HO.out.lt⟩;replace HO:=Aside0.mk (own_below HO.out hb);replace HB:=Aside0.mk (below_step bl hb);have BK:=Aside0.mk hbox;clear hb hbox hg;obtain ⟨z0,z1,z2,q0,q1,q2⟩:=ck3 BK.out)|((with_reducible refine gate_store (t:=30) (p:=6) rfl ?_);refine sx 30 6 (((w2.setCell ⟨gb,0,none⟩ (.int .i64 6)).setCell ⟨gb,1,none⟩ (.int .i64 a1)).setCell ⟨gb,2,none⟩ (.int .i64 a2)) ?_;intro w3 hw;replace HO:Aside0 (w3.ownsMap Try.prog 3 (plainElem (H:=Unit) Try.prog 3) B (2 * x.toNat) (Dm m)):=⟨by rw [hw];exact ((HO.out.setCell NB.out _).setCell NB.out _).setCell NB.out _⟩;replace BK:Aside0 (w3.heap[gb]? = some (.cells #[.int .i64 6,.int .i64 a1,.int .i64 a2] 30 (0,0))):=⟨by rw [hw];exact blk_put (blk_put (blk_put BK.out 0 _ rfl) 1 _ rfl) 2 _ rfl⟩;replace HB:Aside0 (Below w.heap.size w w3):=⟨by rw [hw];exact below_set (below_set (below_set HB.out GE.out) GE.out) GE.out⟩;clear hw z0 z1 z2 q0 q1 q2;obtain ⟨z0,z1,z2,q0,q1,q2⟩:=ck3 BK.out)|((with_reducible refine gate_callee (f:=17) rfl ?_);refine gl _ Try.func17 #[.int .i64 6] ?_;(with_reducible refine (impl_hasConn.calls 6 true _ HT.out).mono ?_);rintro e w4 ⟨rfl,⟨nd,rfl⟩⟩;refine ⟨_,rfl,?_⟩;replace HO:=Aside0.mk (own_drew HO.out nd);replace HB:Aside0 (Below w.heap.size w (w3.drewN nd)):=⟨pw_below_drewN HB.out _⟩;replace BK:=Aside0.mk (blk_drewN BK.out nd))|(at_lookup;refine wpList_lookup_own_int _ rfl _ _ 36 rfl 3 3 .i64 impl_FreshConns.law Try.underlying36 Try.underlying3 (impl_FreshConns.zero _) B _ _ rfl HO.out _ _ rfl (Go.Maps.keyOf_int_mk Try.underlying3 HW2.out) ?_;intro c hat hwc;obtain rfl:=Dm_c hat;clear hat hwc))
        go_ret
        exact ⟨rfl,bl⟩
       ·rw [if_neg n1] at H
        have b1:(lookT m a2 != 1)=true:=bne_iff_ne.mpr n1
        by_cases n2:lookT m a2=2
        ·rw [if_pos n2,if_neg (show ¬ (6:Int)=1 by decide),if_neg (show ¬ (6:Int)=2 by decide),if_pos (show (6:Int)=3∨(6:Int)=6 by decide)] at H
         have b2:(lookT m a2 != 2)=false:=bne_eq_false_iff_eq.mpr n2
         clear n1 n2
         have HN:=Aside0.mk H
         clear H
         go_wp2_with (first|((with_reducible refine gate_dst (N:=6) rfl ?_);refine bx 6 #[.int .i64 0,.int .i64 0,.int .i64 0] 30 ?_;intro gb hg w2 hbox hb;have GE:=Aside0.mk (bz hg:w.heap.size≤gb);have NB:Aside0 (B≠gb):=⟨by rw [hg];exact Nat.ne_of_lt HO.out.lt⟩;replace HO:=Aside0.mk (own_below HO.out hb);replace HB:=Aside0.mk (below_step bl hb);have BK:=Aside0.mk hbox;clear hb hbox hg;obtain ⟨z0,z1,z2,q0,q1,q2⟩:=ck3 BK.out)|((with_reducible refine gate_store (t:=30) (p:=6) rfl ?_);refine sx 30 6 (((w2.setCell ⟨gb,0,none⟩ (.int .i64 6)).setCell ⟨gb,1,none⟩ (.int .i64 a1)).setCell ⟨gb,2,none⟩ (.int .i64 a2)) ?_;intro w3 hw;replace HO:Aside0 (w3.ownsMap Try.prog 3 (plainElem (H:=Unit) Try.prog 3) B (2 * x.toNat) (Dm m)):=⟨by rw [hw];exact ((HO.out.setCell NB.out _).setCell NB.out _).setCell NB.out _⟩;replace BK:Aside0 (w3.heap[gb]? = some (.cells #[.int .i64 6,.int .i64 a1,.int .i64 a2] 30 (0,0))):=⟨by rw [hw];exact blk_put (blk_put (blk_put BK.out 0 _ rfl) 1 _ rfl) 2 _ rfl⟩;replace HB:Aside0 (Below w.heap.size w w3):=⟨by rw [hw];exact below_set (below_set (below_set HB.out GE.out) GE.out) GE.out⟩;clear hw z0 z1 z2 q0 q1 q2;obtain ⟨z0,z1,z2,q0,q1,q2⟩:=ck3 BK.out)|((with_reducible refine gate_callee (f:=17) rfl ?_);refine gl _ Try.func17 #[.int .i64 6] ?_;(with_reducible refine (impl_hasConn.calls 6 true _ HT.out).mono ?_);rintro e w4 ⟨rfl,⟨nd,rfl⟩⟩;refine ⟨_,rfl,?_⟩;replace HO:=Aside0.mk (own_drew HO.out nd);replace HB:Aside0 (Below w.heap.size w (w3.drewN nd)):=⟨pw_below_drewN HB.out _⟩;replace BK:=Aside0.mk (blk_drewN BK.out nd))|(at_lookup;refine wpList_lookup_own_int _ rfl _ _ 36 rfl 3 3 .i64 impl_FreshConns.law Try.underlying36 Try.underlying3 (impl_FreshConns.zero _) B _ _ rfl HO.out _ _ rfl (Go.Maps.keyOf_int_mk Try.underlying3 HW2.out) ?_;intro c hat hwc;obtain rfl:=Dm_c hat;clear hat hwc))
         go_roundg (l0.length - (x.toNat + 1))
         case measure=>have:=HP.out;omega
         case rel =>
          have e1:(wrap64 (x + 1)).toNat=x.toNat + 1:=by rw [HW.out];have:=HP.out;omega
          exact ⟨wrap64 (x + 1),la,m,rfl,rfl,⟨by have:=HP.out;rw [HW.out];omega⟩,⟨by rw [e1];exact HN.out⟩,⟨by rw [e1];exact HO.out.mono (by omega)⟩,⟨bl⟩⟩
        ·rw [if_neg n2] at H
         have b2:(lookT m a2 != 2)=true:=bne_iff_ne.mpr n2
         clear n1 n2
         subst H
         go_wp2_with (first|((with_reducible refine gate_dst (N:=6) rfl ?_);refine bx 6 #[.int .i64 0,.int .i64 0,.int .i64 0] 30 ?_;intro gb hg w2 hbox hb;have GE:=Aside0.mk (bz hg:w.heap.size≤gb);have NB:Aside0 (B≠gb):=⟨by rw [hg];exact Nat.ne_of_lt HO.out.lt⟩;replace HO:=Aside0.mk (own_below HO.out hb);replace HB:=Aside0.mk (below_step bl hb);have BK:=Aside0.mk hbox;clear hb hbox hg;obtain ⟨z0,z1,z2,q0,q1,q2⟩:=ck3 BK.out)|((with_reducible refine gate_store (t:=30) (p:=6) rfl ?_);refine sx 30 6 (((w2.setCell ⟨gb,0,none⟩ (.int .i64 6)).setCell ⟨gb,1,none⟩ (.int .i64 a1)).setCell ⟨gb,2,none⟩ (.int .i64 a2)) ?_;intro w3 hw;replace HO:Aside0 (w3.ownsMap Try.prog 3 (plainElem (H:=Unit) Try.prog 3) B (2 * x.toNat) (Dm m)):=⟨by rw [hw];exact ((HO.out.setCell NB.out _).setCell NB.out _).setCell NB.out _⟩;replace BK:Aside0 (w3.heap[gb]? = some (.cells #[.int .i64 6,.int .i64 a1,.int .i64 a2] 30 (0,0))):=⟨by rw [hw];exact blk_put (blk_put (blk_put BK.out 0 _ rfl) 1 _ rfl) 2 _ rfl⟩;replace HB:Aside0 (Below w.heap.size w w3):=⟨by rw [hw];exact below_set (below_set (below_set HB.out GE.out) GE.out) GE.out⟩;clear hw z0 z1 z2 q0 q1 q2;obtain ⟨z0,z1,z2,q0,q1,q2⟩:=ck3 BK.out)|((with_reducible refine gate_callee (f:=17) rfl ?_);refine gl _ Try.func17 #[.int .i64 6] ?_;(with_reducible refine (impl_hasConn.calls 6 true _ HT.out).mono ?_);rintro e w4 ⟨rfl,⟨nd,rfl⟩⟩;refine ⟨_,rfl,?_⟩;replace HO:=Aside0.mk (own_drew HO.out nd);replace HB:Aside0 (Below w.heap.size w (w3.drewN nd)):=⟨pw_below_drewN HB.out _⟩;replace BK:=Aside0.mk (blk_drewN BK.out nd))|(at_lookup;refine wpList_lookup_own_int _ rfl _ _ 36 rfl 3 3 .i64 impl_FreshConns.law Try.underlying36 Try.underlying3 (impl_FreshConns.zero _) B _ _ rfl HO.out _ _ rfl (Go.Maps.keyOf_int_mk Try.underlying3 HW2.out) ?_;intro c hat hwc;obtain rfl:=Dm_c hat;clear hat hwc))
         go_ret
         exact ⟨rfl,bl⟩
      ·subst kk
       rw [if_pos (show impl_FreshConns.hc 10=true by decide)] at H
       rw [if_neg (show ¬ (10:Int)=0 by decide)] at H
       by_cases n1:lookT m a2=1
       ·rw [if_pos n1,if_neg (show ¬ (10:Int)=1 by decide),if_neg (show ¬ (10:Int)=2 by decide),if_neg (show ¬ ((10:Int)=3∨(10:Int)=6) by decide),if_neg (show ¬ (10:Int)=5 by decide)] at H
        have b1:(lookT m a2 != 1)=false:=bne_eq_false_iff_eq.mpr n1
        have b2:(lookT m a2 != 2)=true:=bne_iff_ne.mpr (by rw [n1];decide)
        clear n1
        have HN:=Aside0.mk H
        clear H
        go_wp2_with (first|((with_reducible refine gate_dst (N:=6) rfl ?_);refine bx 6 #[.int .i64 0,.int .i64 0,.int .i64 0] 30 ?_;intro gb hg w2 hbox hb;have GE:=Aside0.mk (bz hg:w.heap.size≤gb);have NB:Aside0 (B≠gb):=⟨by rw [hg];exact Nat.ne_of_lt HO.out.lt⟩;replace HO:=Aside0.mk (own_below HO.out hb);replace HB:=Aside0.mk (below_step bl hb);have BK:=Aside0.mk hbox;clear hb hbox hg;obtain ⟨z0,z1,z2,q0,q1,q2⟩:=ck3 BK.out)|((with_reducible refine gate_store (t:=30) (p:=6) rfl ?_);refine sx 30 6 (((w2.setCell ⟨gb,0,none⟩ (.int .i64 10)).setCell ⟨gb,1,none⟩ (.int .i64 a1)).setCell ⟨gb,2,none⟩ (.int .i64 a2)) ?_;intro w3 hw;replace HO:Aside0 (w3.ownsMap Try.prog 3 (plainElem (H:=Unit) Try.prog 3) B (2 * x.toNat) (Dm m)):=⟨by rw [hw];exact ((HO.out.setCell NB.out _).setCell NB.out _).setCell NB.out _⟩;replace BK:Aside0 (w3.heap[gb]? = some (.cells #[.int .i64 10,.int .i64 a1,.int .i64 a2] 30 (0,0))):=⟨by rw [hw];exact blk_put (blk_put (blk_put BK.out 0 _ rfl) 1 _ rfl) 2 _ rfl⟩;replace HB:Aside0 (Below w.heap.size w w3):=⟨by rw [hw];exact below_set (below_set (below_set HB.out GE.out) GE.out) GE.out⟩;clear hw z0 z1 z2 q0 q1 q2;obtain ⟨z0,z1,z2,q0,q1,q2⟩:=ck3 BK.out)|((with_reducible refine gate_callee (f:=17) rfl ?_);refine gl _ Try.func17 #[.int .i64 10] ?_;(with_reducible refine (impl_hasConn.calls 10 true _ HT.out).mono ?_);rintro e w4 ⟨rfl,⟨nd,rfl⟩⟩;refine ⟨_,rfl,?_⟩;replace HO:=Aside0.mk (own_drew HO.out nd);replace HB:Aside0 (Below w.heap.size w (w3.drewN nd)):=⟨pw_below_drewN HB.out _⟩;replace BK:=Aside0.mk (blk_drewN BK.out nd))|(at_lookup;refine wpList_lookup_own_int _ rfl _ _ 36 rfl 3 3 .i64 impl_FreshConns.law Try.underlying36 Try.underlying3 (impl_FreshConns.zero _) B _ _ rfl HO.out _ _ rfl (Go.Maps.keyOf_int_mk Try.underlying3 HW2.out) ?_;intro c hat hwc;obtain rfl:=Dm_c hat;clear hat hwc))
        go_roundg (l0.length - (x.toNat + 1))
        case measure=>have:=HP.out;omega
        case rel =>
         have e1:(wrap64 (x + 1)).toNat=x.toNat + 1:=by rw [HW.out];have:=HP.out;omega
         exact ⟨wrap64 (x + 1),la,m,rfl,rfl,⟨by have:=HP.out;rw [HW.out];omega⟩,⟨by rw [e1];exact HN.out⟩,⟨by rw [e1];exact HO.out.mono (by omega)⟩,⟨bl⟩⟩
       ·rw [if_neg n1] at H
        have b1:(lookT m a2 != 1)=true:=bne_iff_ne.mpr n1
        by_cases n2:lookT m a2=2
        ·rw [if_pos n2,if_neg (show ¬ (10:Int)=1 by decide),if_neg (show ¬ (10:Int)=2 by decide),if_neg (show ¬ ((10:Int)=3∨(10:Int)=6) by decide),if_neg (show ¬ (10:Int)=5 by decide)] at H
         have b2:(lookT m a2 != 2)=false:=bne_eq_false_iff_eq.mpr n2
         clear n1 n2
         have HN:=Aside0.mk H
         clear H
         go_wp2_with (first|((with_reducible refine gate_dst (N:=6) rfl ?_);refine bx 6 #[.int .i64 0,.int .i64 0,.int .i64 0] 30 ?_;intro gb hg w2 hbox hb;have GE:=Aside0.mk (bz hg:w.heap.size≤gb);have NB:Aside0 (B≠gb):=⟨by rw [hg];exact Nat.ne_of_lt HO.out.lt⟩;replace HO:=Aside0.mk (own_below HO.out hb);replace HB:=Aside0.mk (below_step bl hb);have BK:=Aside0.mk hbox;clear hb hbox hg;obtain ⟨z0,z1,z2,q0,q1,q2⟩:=ck3 BK.out)|((with_reducible refine gate_store (t:=30) (p:=6) rfl ?_);refine sx 30 6 (((w2.setCell ⟨gb,0,none⟩ (.int .i64 10)).setCell ⟨gb,1,none⟩ (.int .i64 a1)).setCell ⟨gb,2,none⟩ (.int .i64 a2)) ?_;intro w3 hw;replace HO:Aside0 (w3.ownsMap Try.prog 3 (plainElem (H:=Unit) Try.prog 3) B (2 * x.toNat) (Dm m)):=⟨by rw [hw];exact ((HO.out.setCell NB.out _).setCell NB.out _).setCell NB.out _⟩;replace BK:Aside0 (w3.heap[gb]? = some (.cells #[.int .i64 10,.int .i64 a1,.int .i64 a2] 30 (0,0))):=⟨by rw [hw];exact blk_put (blk_put (blk_put BK.out 0 _ rfl) 1 _ rfl) 2 _ rfl⟩;replace HB:Aside0 (Below w.heap.size w w3):=⟨by rw [hw];exact below_set (below_set (below_set HB.out GE.out) GE.out) GE.out⟩;clear hw z0 z1 z2 q0 q1 q2;obtain ⟨z0,z1,z2,q0,q1,q2⟩:=ck3 BK.out)|((with_reducible refine gate_callee (f:=17) rfl ?_);refine gl _ Try.func17 #[.int .i64 10] ?_;(with_reducible refine (impl_hasConn.calls 10 true _ HT.out).mono ?_);rintro e w4 ⟨rfl,⟨nd,rfl⟩⟩;refine ⟨_,rfl,?_⟩;replace HO:=Aside0.mk (own_drew HO.out nd);replace HB:Aside0 (Below w.heap.size w (w3.drewN nd)):=⟨pw_below_drewN HB.out _⟩;replace BK:=Aside0.mk (blk_drewN BK.out nd))|(at_lookup;refine wpList_lookup_own_int _ rfl _ _ 36 rfl 3 3 .i64 impl_FreshConns.law Try.underlying36 Try.underlying3 (impl_FreshConns.zero _) B _ _ rfl HO.out _ _ rfl (Go.Maps.keyOf_int_mk Try.underlying3 HW2.out) ?_;intro c hat hwc;obtain rfl:=Dm_c hat;clear hat hwc))
         go_roundg (l0.length - (x.toNat + 1))
         case measure=>have:=HP.out;omega
         case rel =>
          have e1:(wrap64 (x + 1)).toNat=x.toNat + 1:=by rw [HW.out];have:=HP.out;omega
          exact ⟨wrap64 (x + 1),la,m,rfl,rfl,⟨by have:=HP.out;rw [HW.out];omega⟩,⟨by rw [e1];exact HN.out⟩,⟨by rw [e1];exact HO.out.mono (by omega)⟩,⟨bl⟩⟩
        ·rw [if_neg n2] at H
         have b2:(lookT m a2 != 2)=true:=bne_iff_ne.mpr n2
         clear n1 n2
         subst H
         go_wp2_with (first|((with_reducible refine gate_dst (N:=6) rfl ?_);refine bx 6 #[.int .i64 0,.int .i64 0,.int .i64 0] 30 ?_;intro gb hg w2 hbox hb;have GE:=Aside0.mk (bz hg:w.heap.size≤gb);have NB:Aside0 (B≠gb):=⟨by rw [hg];exact Nat.ne_of_lt HO.out.lt⟩;replace HO:=Aside0.mk (own_below HO.out hb);replace HB:=Aside0.mk (below_step bl hb);have BK:=Aside0.mk hbox;clear hb hbox hg;obtain ⟨z0,z1,z2,q0,q1,q2⟩:=ck3 BK.out)|((with_reducible refine gate_store (t:=30) (p:=6) rfl ?_);refine sx 30 6 (((w2.setCell ⟨gb,0,none⟩ (.int .i64 10)).setCell ⟨gb,1,none⟩ (.int .i64 a1)).setCell ⟨gb,2,none⟩ (.int .i64 a2)) ?_;intro w3 hw;replace HO:Aside0 (w3.ownsMap Try.prog 3 (plainElem (H:=Unit) Try.prog 3) B (2 * x.toNat) (Dm m)):=⟨by rw [hw];exact ((HO.out.setCell NB.out _).setCell NB.out _).setCell NB.out _⟩;replace BK:Aside0 (w3.heap[gb]? = some (.cells #[.int .i64 10,.int .i64 a1,.int .i64 a2] 30 (0,0))):=⟨by rw [hw];exact blk_put (blk_put (blk_put BK.out 0 _ rfl) 1 _ rfl) 2 _ rfl⟩;replace HB:Aside0 (Below w.heap.size w w3):=⟨by rw [hw];exact below_set (below_set (below_set HB.out GE.out) GE.out) GE.out⟩;clear hw z0 z1 z2 q0 q1 q2;obtain ⟨z0,z1,z2,q0,q1,q2⟩:=ck3 BK.out)|((with_reducible refine gate_callee (f:=17) rfl ?_);refine gl _ Try.func17 #[.int .i64 10] ?_;(with_reducible refine (impl_hasConn.calls 10 true _ HT.out).mono ?_);rintro e w4 ⟨rfl,⟨nd,rfl⟩⟩;refine ⟨_,rfl,?_⟩;replace HO:=Aside0.mk (own_drew HO.out nd);replace HB:Aside0 (Below w.heap.size w (w3.drewN nd)):=⟨pw_below_drewN HB.out _⟩;replace BK:=Aside0.mk (blk_drewN BK.out nd))|(at_lookup;refine wpList_lookup_own_int _ rfl _ _ 36 rfl 3 3 .i64 impl_FreshConns.law Try.underlying36 Try.underlying3 (impl_FreshConns.zero _) B _ _ rfl HO.out _ _ rfl (Go.Maps.keyOf_int_mk Try.underlying3 HW2.out) ?_;intro c hat hwc;obtain rfl:=Dm_c hat;clear hat hwc))
         go_ret
         exact ⟨rfl,bl⟩
     | false =>
      rw [hcv] at HT
      rw [hcv,if_neg Bool.false_ne_true] at H
      clear hcv
      have HN:=Aside0.mk H
      clear H
      go_wp2_with (first|((with_reducible refine gate_dst (N:=6) rfl ?_);refine bx 6 #[.int .i64 0,.int .i64 0,.int .i64 0] 30 ?_;intro gb hg w2 hbox hb;have GE:=Aside0.mk (bz hg:w.heap.size≤gb);have NB:Aside0 (B≠gb):=⟨by rw [hg];exact Nat.ne_of_lt HO.out.lt⟩;replace HO:=Aside0.mk (own_below HO.out hb);replace HB:=Aside0.mk (below_step bl hb);have BK:=Aside0.mk hbox;clear hb hbox hg;obtain ⟨z0,z1,z2,q0,q1,q2⟩:=ck3 BK.out)|((with_reducible refine gate_store (t:=30) (p:=6) rfl ?_);refine sx 30 6 (((w2.setCell ⟨gb,0,none⟩ (.int .i64 a0)).setCell ⟨gb,1,none⟩ (.int .i64 a1)).setCell ⟨gb,2,none⟩ (.int .i64 a2)) ?_;intro w3 hw;replace HO:Aside0 (w3.ownsMap Try.prog 3 (plainElem (H:=Unit) Try.prog 3) B (2 * x.toNat) (Dm m)):=⟨by rw [hw];exact ((HO.out.setCell NB.out _).setCell NB.out _).setCell NB.out _⟩;replace BK:Aside0 (w3.heap[gb]? = some (.cells #[.int .i64 a0,.int .i64 a1,.int .i64 a2] 30 (0,0))):=⟨by rw [hw];exact blk_put (blk_put (blk_put BK.out 0 _ rfl) 1 _ rfl) 2 _ rfl⟩;replace HB:Aside0 (Below w.heap.size w w3):=⟨by rw [hw];exact below_set (below_set (below_set HB.out GE.out) GE.out) GE.out⟩;clear hw z0 z1 z2 q0 q1 q2;obtain ⟨z0,z1,z2,q0,q1,q2⟩:=ck3 BK.out)|((with_reducible refine gate_callee (f:=17) rfl ?_);refine gl _ Try.func17 #[.int .i64 a0] ?_;(with_reducible refine (impl_hasConn.calls a0 false _ HT.out).mono ?_);rintro e w4 ⟨rfl,⟨nd,rfl⟩⟩;refine ⟨_,rfl,?_⟩;replace HO:=Aside0.mk (own_drew HO.out nd);replace HB:Aside0 (Below w.heap.size w (w3.drewN nd)):=⟨pw_below_drewN HB.out _⟩;replace BK:=Aside0.mk (blk_drewN BK.out nd)))
      go_roundg (l0.length - (x.toNat + 1))
      case measure=>have:=HP.out;omega
      case rel =>
       have e1:(wrap64 (x + 1)).toNat=x.toNat + 1:=by rw [HW.out];have:=HP.out;omega
       exact ⟨wrap64 (x + 1),la,m,rfl,rfl,⟨by have:=HP.out;rw [HW.out];omega⟩,⟨by rw [e1];exact HN.out⟩,⟨by rw [e1];exact HO.out.mono (by omega)⟩,⟨bl⟩⟩
    ·have hd:decide (x < (l0.length:Int))=false:=decide_eq_false c3
     have H:=HN.out
     rw [List.drop_eq_nil_of_le (by omega)] at H
     simp only [impl_FreshConns.run] at H
     subst H
     clear HN c3
     go_wp2
     go_ret
     exact ⟨rfl,bl⟩
  ·rw [if_neg hall] at h
   cases h

/-! ### laws_FnExactFreshConns: function 4 -/
def laws_FnExactFreshConns.f (k:Nat) (l0:List (S35)):Option (Bool):=(laws_szEventS.f l0 1048576).bind fun t148=>(if t148 < 0 then (some true) else ((laws_toEventS.f k l0).bind fun t149=>((spec_FreshConns.f k t149).bind fun t152=>((laws_toEventS.f k l0).bind fun t153=>((impl_FreshConns.f k t153).bind fun t156=>(if (t156 != t152)=true then (none) else ((laws_toEventS.f k l0).bind fun t157=>((laws_eqEventS.f k t153 t157).bind fun t160=>(if t160=true then (some true) else (none))))))))))
theorem laws_FnExactFreshConns.mono:∀ a0 k,LeO (laws_FnExactFreshConns.f k a0) (laws_FnExactFreshConns.f (k + 1) a0):=by
 intro a0 k
 unfold laws_FnExactFreshConns.f
 repeat' first
   | (with_reducible exact impl_FreshConns.mono _ _)
   | (with_reducible exact laws_eqEventS.mono _ _ _)
   | (with_reducible exact laws_toEventS.mono _ _)
   | (with_reducible exact spec_FreshConns.mono _ _)
   | (with_reducible exact LeO.refl _)
   | (with_reducible exact LeO.none _)
   | (with_reducible refine LeO.ite ?_ ?_)
   | (with_reducible refine LeO.bind ?_ (fun _=>?_))
   | exact impl_FreshConns.mono _ _
   | exact laws_eqEventS.mono _ _ _
   | exact laws_toEventS.mono _ _
   | exact spec_FreshConns.mono _ _
   | exact LeO.none _
   | refine LeO.ite ?_ ?_
   | refine LeO.bind ?_ (fun _=>?_)
set_option maxHeartbeats 8000000 in
set_option maxRecDepth 100000 in
theorem laws_FnExactFreshConns.calls (k:Nat) (A0:Option Addr) (c0:Nat) (l0:List (S35)) (r:Bool) (w:World) (hr0:Kd.C k35 w A0 l0.length l0) (hc0:l0.length≤c0) (h:laws_FnExactFreshConns.f k l0=some r) :
  Calls Try.prog 4 #[.slice A0 l0.length c0] w fun e w'=>e = .returned (.bool r)∧Below w.heap.size w w':=by
 have HR0:=Aside0.mk hr0
 have HC0:=Aside0.mk hc0
 clear hr0 hc0
 have HB:=Aside0.mk (Below.refl w.heap.size w)
 have H:((laws_szEventS.f l0 1048576).bind fun t148=>(if t148 < 0 then (some true) else ((laws_toEventS.f k l0).bind fun t149=>((spec_FreshConns.f k t149).bind fun t152=>((laws_toEventS.f k l0).bind fun t153=>((impl_FreshConns.f k t153).bind fun t156=>(if (t156 != t152)=true then (none) else ((laws_toEventS.f k l0).bind fun t157=>((laws_eqEventS.f k t153 t157).bind fun t160=>(if t160=true then (some true) else (none)))))))))))=some r:=h
 clear h
 replace H:=Option.bind_eq_some_iff.mp H
 obtain ⟨t148,A20,H⟩:=H
 have A2:=Aside0.mk A20
 clear A20
 by_cases c3:t148 < 0
 ·rw [if_pos c3] at H
  have c3b0:decide (t148 < 0)=true:=decide_eq_true c3
  clear c3
  obtain rfl:=Option.some.inj H
  go_enter Try.func4,Try.ntmps4
  go_wp2_with (first|((with_reducible refine gate_callee (f:=5) rfl ?_);refine gl (some 9) Try.func5 #[.slice A0 l0.length c0,.int .i64 1048576] ?_;(with_reducible refine (laws_szEventS.calls _ _ l0 1048576 t148 _ ?side1 ?side2 A2.out).mono ?_);(case side1=>repeat (first|exact HR0.out|(with_reducible refine Kd.C_alloc ?_ _)|(with_reducible refine Kd.C_drewN ?_ _)|(with_reducible refine Kd.C_drew ?_)));(case side2=>exact HC0.out);rintro e w' ⟨rfl,⟨nd,rfl⟩⟩;refine ⟨_,rfl,?_⟩))
  go_ret
  exact ⟨er,bl⟩
 ·rw [if_neg c3] at H
  have c3b0:decide (t148 < 0)=false:=decide_eq_false c3
  clear c3
  replace H:=Option.bind_eq_some_iff.mp H
  obtain ⟨t149,A40,H⟩:=H
  have A4:=Aside0.mk A40
  clear A40
  replace H:=Option.bind_eq_some_iff.mp H
  obtain ⟨t152,A50,H⟩:=H
  have A5:=Aside0.mk A50
  clear A50
  replace H:=Option.bind_eq_some_iff.mp H
  obtain ⟨t153,A60,H⟩:=H
  have A6:=Aside0.mk A60
  clear A60
  replace H:=Option.bind_eq_some_iff.mp H
  obtain ⟨t156,A70,H⟩:=H
  have A7:=Aside0.mk A70
  clear A70
  by_cases c8:(t156 != t152)=true
  ·rw [if_pos c8] at H
   exact absurd H (by simp)
  ·rw [if_neg c8] at H
   have c8b0:(t156 != t152)=false:=by simpa using c8
   (try (have c8b1:decide (t156=t152)=true:=by simpa using c8))
   (try (have c8b2:(t156 == t152)=true:=by simpa using c8))
   clear c8
   replace H:=Option.bind_eq_some_iff.mp H
   obtain ⟨t157,A90,H⟩:=H
   have A9:=Aside0.mk A90
   clear A90
   replace H:=Option.bind_eq_some_iff.mp H
   obtain ⟨t160,A100,H⟩:=H
   have A10:=Aside0.mk A100
   clear A100
   by_cases c11:t160=true
   ·subst c11
    rw [if_pos rfl] at H
    obtain rfl:=Option.some.inj H
    go_enter Try.func4,Try.ntmps4
    go_wp2_with (first|((with_reducible refine gate_callee (f:=5) rfl ?_);refine gl (some 9) Try.func5 #[.slice A0 l0.length c0,.int .i64 1048576] ?_;(with_reducible refine (laws_szEventS.calls _ _ l0 1048576 t148 _ ?side1 ?side2 A2.out).mono ?_);(case side1=>repeat (first|exact HR0.out|(with_reducible refine Kd.C_alloc ?_ _)|(with_reducible refine Kd.C_drewN ?_ _)|(with_reducible refine Kd.C_drew ?_)));(case side2=>exact HC0.out);rintro e w' ⟨rfl,⟨nd,rfl⟩⟩;refine ⟨_,rfl,?_⟩)|((with_reducible refine gate_callee (f:=7) rfl ?_);refine gl (some 13) Try.func7 #[.slice A0 l0.length c0] ?_;(with_reducible refine (laws_toEventS.calls k _ _ l0 t149 _ ?side1 ?side2 A4.out).mono ?_);(case side1=>repeat (first|exact HR0.out|(with_reducible refine Kd.C_alloc ?_ _)|(with_reducible refine Kd.C_drewN ?_ _)|(with_reducible refine Kd.C_drew ?_)));(case side2=>exact HC0.out);rintro e w12 ⟨v150,rfl,ho0,hb⟩;refine ⟨_,rfl,?_⟩;have HO151:=Aside0.mk (Kd.R_lower ho0 (below_size bl));replace HB:=Aside0.mk (below_step bl hb);(try clear hb);(try clear hb2);(try clear hk);(try clear hi);(try clear ho0);obtain ⟨Ao13,co13,eo13⟩:=Kd.R_slice HO151.out;subst eo13)|((with_reducible refine gate_callee (f:=10) rfl ?_);refine gl (some 14) Try.func10 #[.slice Ao13 t149.length co13] ?_;(with_reducible refine (spec_FreshConns.calls k _ _ t149 t152 _ ?side1 ?side2 A5.out).mono ?_);(case side1=>repeat (first|exact (Kd.R_reads' HO151.out).2.2|(with_reducible refine Kd.C_alloc ?_ _)|(with_reducible refine Kd.C_drewN ?_ _)|(with_reducible refine Kd.C_drew ?_)));(case side2=>exact (Kd.R_reads' HO151.out).2.1);rintro e w14 ⟨rfl,hb⟩;refine ⟨_,rfl,?_⟩;replace HO151:=Aside0.mk (Kd.R_below (kr HO151) hb);replace HB:=Aside0.mk (below_step bl hb);(try clear hb);(try clear hb2);(try clear hk);(try clear hi))|((with_reducible refine gate_callee (f:=7) rfl ?_);refine gl (some 16) Try.func7 #[.slice A0 l0.length c0] ?_;(with_reducible refine (laws_toEventS.calls k _ _ l0 t153 _ ?side1 ?side2 A6.out).mono ?_);(case side1=>exact kc HR0);(case side2=>exact HC0.out);rintro e w15 ⟨v154,rfl,ho0,hb⟩;refine ⟨_,rfl,?_⟩;have HO155:=Aside0.mk (Kd.R_lower (Kd.R_new' ho0 (Kd.R_lt (kr HO151))) (below_size bl));replace HO151:=Aside0.mk (Kd.R_elder' (kr HO151) (Kd.R_base ho0) hb);replace HB:=Aside0.mk (below_step bl hb);(try clear hb);(try clear hb2);(try clear hk);(try clear hi);(try clear ho0);obtain ⟨Ao16,co16,eo16⟩:=Kd.R_slice HO155.out;subst eo16)|((with_reducible refine gate_callee (f:=11) rfl ?_);refine gl (some 18) Try.func11 #[.slice Ao16 t153.length co16] ?_;(with_reducible refine (impl_FreshConns.calls k _ _ t153 t156 _ ?side1 ?side2 A7.out).mono ?_);(case side1=>repeat (first|exact (Kd.R_reads' HO155.out).2.2|(with_reducible refine Kd.C_alloc ?_ _)|(with_reducible refine Kd.C_drewN ?_ _)|(with_reducible refine Kd.C_drew ?_)));(case side2=>exact (Kd.R_reads' HO155.out).2.1);rintro e w17 ⟨rfl,hb⟩;refine ⟨_,rfl,?_⟩;replace HO151:=Aside0.mk (Kd.R_below (kr HO151) hb);replace HO155:=Aside0.mk (Kd.R_below (kr HO155) hb);replace HB:=Aside0.mk (below_step bl hb);(try clear hb);(try clear hb2);(try clear hk);(try clear hi))|((with_reducible refine gate_callee (f:=7) rfl ?_);refine gl (some 24) Try.func7 #[.slice A0 l0.length c0] ?_;(with_reducible refine (laws_toEventS.calls k _ _ l0 t157 _ ?side1 ?side2 A9.out).mono ?_);(case side1=>exact kc HR0);(case side2=>exact HC0.out);rintro e w18 ⟨v158,rfl,ho0,hb⟩;refine ⟨_,rfl,?_⟩;have HO159:=Aside0.mk (Kd.R_lower (Kd.R_new' (Kd.R_new' ho0 (Kd.R_lt (kr HO151))) (Kd.R_lt (kr HO155))) (below_size bl));replace HO151:=Aside0.mk (Kd.R_elder' (kr HO151) (Kd.R_base ho0) hb);replace HO155:=Aside0.mk (Kd.R_elder' (kr HO155) (Kd.R_base ho0) hb);replace HB:=Aside0.mk (below_step bl hb);(try clear hb);(try clear hb2);(try clear hk);(try clear hi);(try clear ho0);obtain ⟨Ao19,co19,eo19⟩:=Kd.R_slice HO159.out;subst eo19)|((with_reducible refine gate_callee (f:=9) rfl ?_);refine gl (some 25) Try.func9 #[.slice Ao16 t153.length co16,.slice Ao19 t157.length co19] ?_;(with_reducible refine (laws_eqEventS.calls k _ _ t153 _ _ t157 true _ ?side1 ?side2 ?side3 ?side4 A10.out).mono ?_);(case side1=>repeat (first|exact (Kd.R_reads' HO155.out).2.2|(with_reducible refine Kd.C_alloc ?_ _)|(with_reducible refine Kd.C_drewN ?_ _)|(with_reducible refine Kd.C_drew ?_)));(case side2=>exact (Kd.R_reads' HO155.out).2.1);(case side3=>repeat (first|exact (Kd.R_reads' HO159.out).2.2|(with_reducible refine Kd.C_alloc ?_ _)|(with_reducible refine Kd.C_drewN ?_ _)|(with_reducible refine Kd.C_drew ?_)));(case side4=>exact (Kd.R_reads' HO159.out).2.1);rintro e w20 ⟨rfl,hb⟩;refine ⟨_,rfl,?_⟩;replace HO151:=Aside0.mk (Kd.R_below (kr HO151) hb);replace HO155:=Aside0.mk (Kd.R_below (kr HO155) hb);replace HO159:=Aside0.mk (Kd.R_below (kr HO159) hb);replace HB:=Aside0.mk (below_step bl hb);(try clear hb);(try clear hb2);(try clear hk);(try clear hi)))
    go_ret
    exact ⟨er,bl⟩
   ·replace c11:=Bool.eq_false_iff.mpr c11
    subst c11
    rw [if_neg nft] at H
    exact absurd H (by simp)

end Go.Proofs.Ytciehpgbhfngiaa.PFnExactFreshConns
