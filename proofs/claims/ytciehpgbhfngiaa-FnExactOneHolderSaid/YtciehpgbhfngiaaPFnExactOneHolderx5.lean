/- Contracts of functions of the given program: what each call answers. Written by a program of this session, out of the text of the functions. -/
import Derived.Test.YtciehpgbhfngiaaPFnExactOneHolderx0
import Derived.Test.YtciehpgbhfngiaaPFnExactOneHolderx1
import Derived.Test.YtciehpgbhfngiaaPFnExactOneHolderx3
import Derived.Test.YtciehpgbhfngiaaPFnExactOneHolderx4
import Derived.Test.YtciehpgbhfngiaaPrs
namespace Go.Proofs.Ytciehpgbhfngiaa.PFnExactOneHolder
open Go.RowKit Go.Proofs.YtciehpgbhfngiaaW.PrintWords Go.Proofs.YtciehpgbhfngiaaW.PrintLast Go.Proofs.YtciehpgbhfngiaaW.PrintMore Go.Proofs.Ytciehpgbhfngiaa.Giv Go.Proofs.Ytciehpgbhfngiaa.Prs
attribute [local go_sem] max2_int min2_int max_two min_two max_three min_three max_four min_four   -- for this text's walks alone
set_option linter.unusedVariables false
set_option linter.unusedSimpArgs false

/-! ### impl_OneHolder: function 8 -/
/-- What a kind's events have: a connection. -/
def impl_OneHolder.hc (x:Int):Bool:=decide (0≤x∧x≤6) || x == 10
def impl_OneHolder.run:List S30→List (Int × Int)→Bool
 | [],_=>true
 | e :: l,m=>if e.f0=3 then (if (if impl_OneHolder.hc e.f0=true then lookT m e.f2 else 0)=0 then impl_OneHolder.run l ((e.f2,e.f1) :: m) else false) else (if e.f0=4∨e.f0=5 then (if (if impl_OneHolder.hc e.f0=true then lookT m e.f2 else 0)=e.f1 then impl_OneHolder.run l ((e.f2,0) :: m) else false) else (if e.f0=10 then (if (if impl_OneHolder.hc e.f0=true then lookT m e.f2 else 0)=e.f1 then impl_OneHolder.run l m else false) else impl_OneHolder.run l m))
def impl_OneHolder.rng (e:S30):Bool:=decide (0≤e.f1∧e.f1≤1000000000∧0≤e.f2∧e.f2≤1000000000)
def impl_OneHolder.f (k:Nat) (l0:List (S30)):Option (Bool):=(impl_LogOk.f k l0).bind fun t=>(if t=true then (if l0.all impl_OneHolder.rng=true then some (impl_OneHolder.run l0 []) else none) else some false)
theorem impl_OneHolder.mono:∀ a0 k,LeO (impl_OneHolder.f k a0) (impl_OneHolder.f (k + 1) a0):=by
 intro a0 k
 unfold impl_OneHolder.f
 exact LeO.bind (impl_LogOk.mono _ _) (fun _=>LeO.refl _)
theorem impl_OneHolder.law:Go.Maps.Keyed Try.prog 3:=Go.Maps.int_keyed Try.underlying3
theorem impl_OneHolder.zero (w:World):(zeroValue 3).run Try.prog w = .ok (.int .i64 0) w:=by kernel_rfl
theorem impl_OneHolder.hcf (x:Int):impl_hasConn.f x=some (impl_OneHolder.hc x):=by
 unfold impl_hasConn.f impl_in.f impl_OneHolder.hc
 by_cases h1:(0:Int)≤x
 ·by_cases h2:x≤6
  ·simp [h1,h2]
  ·simp [h1,h2]
 ·simp [h1]
theorem impl_OneHolder.wf {x:Int} (h0:0≤x) (h1:x≤1000000000):(Lit.int .i64 x).wf=true:=by
 simp only [Lit.wf,IntKind.min,IntKind.max,IntKind.signed,IntKind.bits,Bool.and_eq_true,decide_eq_true_eq]
 simp
 omega
set_option maxHeartbeats 8000000 in
set_option maxRecDepth 100000 in
theorem impl_OneHolder.calls (k:Nat) (A0:Option Addr) (c0:Nat) (l0:List (S30)) (r:Bool) (w:World) (hr0:Kd.C k30 w A0 l0.length l0) (hc0:l0.length≤c0) (h:impl_OneHolder.f k l0=some r) :
  Calls Try.prog 8 #[.slice A0 l0.length c0] w fun e w'=>e = .returned (.bool r)∧Below w.heap.size w w':=by
 have hu1:=Try.underlying30
 have hmm:=@run_makeMap Try.prog
 unfold impl_OneHolder.f at h
 obtain ⟨t,hl,h⟩:=Option.bind_eq_some_iff.mp h
 have HR0:=Aside0.mk hr0
 have HC0:=Aside0.mk hc0
 have A1:=Aside0.mk hl
 have hlen:l0.length≤9223372036854775807:=hr0.2.1
 have HB:=Aside0.mk (Below.refl w.heap.size w)
 clear hr0 hc0 hl
 cases t with
 | false =>
  simp only [Bool.false_eq_true,if_false] at h
  obtain rfl:=Option.some.inj h
  clear h
  go_enter Try.func8,Try.ntmps8
  go_wp2_with (first|((with_reducible refine gate_callee (f:=16) rfl ?_);refine gl _ Try.func16 #[.slice A0 l0.length c0] ?_;(with_reducible refine (impl_LogOk.calls k A0 c0 l0 false _ ?s1 ?s2 A1.out).mono ?_);(case s1=>exact kc HR0);(case s2=>exact HC0.out);rintro e w1 ⟨rfl,hb⟩;refine ⟨_,rfl,?_⟩;replace HB:=Aside0.mk (below_step bl hb);clear hb))
  go_ret
  exact ⟨rfl,HB.out⟩
 | true =>
  simp only [if_true] at h
  by_cases hall:l0.all impl_OneHolder.rng=true
  ·rw [if_pos hall] at h
   have hrun:=Option.some.inj h
   clear h
   have HN:=Aside0.mk hrun
   have HA:=Aside0.mk hall
   have HL:=Aside0.mk hlen
   clear hrun hall hlen
   go_enter Try.func8,Try.ntmps8
   go_wp2_with (first|((with_reducible refine gate_callee (f:=16) rfl ?_);refine gl _ Try.func16 #[.slice A0 l0.length c0] ?_;(with_reducible refine (impl_LogOk.calls k A0 c0 l0 true _ ?s1 ?s2 A1.out).mono ?_);(case s1=>exact kc HR0);(case s2=>exact HC0.out);rintro e w1 ⟨rfl,hb⟩;refine ⟨_,rfl,?_⟩;replace HB:=Aside0.mk (below_step bl hb);clear hb))
   obtain ⟨B,hB⟩:∃ B,B=w1.heap.size:=⟨_,rfl⟩
   have own0:(w1.alloc (.map #[] 0)).ownsMap Try.prog 3 (plainElem (H:=Unit) Try.prog 3) B 0 (Dm []):=by rw [hB];exact World.ownsMap_made _ _ _ _
   have HG:Aside0 (w.heap.size≤B):=⟨by rw [hB];exact HB.out.size⟩
   have HB2:Aside0 (Below w.heap.size w (w1.alloc (.map #[] 0))):=⟨below_alloc HB.out _⟩
   have HO0:=Aside0.mk own0
   clear own0 HB
   rw [← hB]
   clear hB
   go_loopg [13] l0.length (fun gg v13 wr=>∃ (x:Int) (m:List (Int × Int)),v13 = .int .i64 x∧Aside0 (0≤x∧x≤l0.length∧l0.length - x.toNat≤gg)∧Aside0 (impl_OneHolder.run (l0.drop x.toNat) m=r)∧Aside0 (wr.ownsMap Try.prog 3 (plainElem (H:=Unit) Try.prog 3) B x.toNat (Dm m))∧Aside0 (Below w.heap.size w wr))
   case atStart=>exact ⟨0,[],rfl,⟨by omega,by omega,by simp⟩,HN,HO0,HB2⟩
   case round =>
    clear HN HO0 HB2
    obtain ⟨x,m,rfl,HX,HN,HO,HB⟩:=hrel
    by_cases c3:x < (l0.length:Int)
    ·have p1:0≤x:=HX.out.1
     have hlt:x.toNat < l0.length:=by omega
     have H:=HN.out
     rw [List.drop_eq_getElem_cons hlt] at H
     obtain ⟨ad,e,hx0,hx1,hx2⟩:=at_T30 HR0.out x p1 c3
     cases e
     have hrd:rd_T30 l0 x=l0[x.toNat]:=by unfold rd_T30;rw [List.getD_eq_getElem?_getD,List.getElem?_eq_getElem hlt];rfl
     rw [hrd] at hx0 hx1 hx2
     replace hx0:=cl HB hx0
     replace hx1:=cl HB hx1
     replace hx2:=cl HB hx2
     have hin:=List.all_eq_true.mp HA.out _ (List.getElem_mem hlt)
     clear hrd
     generalize l0[x.toNat]=ev at H hx0 hx1 hx2 hin
     obtain ⟨a0,a1,a2⟩:=ev
     simp only [impl_OneHolder.rng,decide_eq_true_eq] at hin
     obtain ⟨i0,i1,i2,i3⟩:=hin
     dsimp only at hx0 hx1 hx2
     simp only [impl_OneHolder.run] at H
     have HW2:=Aside0.mk (impl_OneHolder.wf i2 i3)
     have HW1:=Aside0.mk (impl_OneHolder.wf i0 i1)
     have HP:Aside0 (0≤x∧x < l0.length∧l0.length - x.toNat≤gk):=⟨p1,c3,HX.out.2.2⟩
     have HW:Aside0 (wrap64 (x + 1)=x + 1):=⟨by have:=HL.out;unfold wrap64;omega⟩
     have HT:=Aside0.mk (impl_OneHolder.hcf a0)
     clear i0 i1 i2 i3 hlt HX HN
     replace p1:=eq_true p1
     replace c3:=eq_true c3
     cases hcv:impl_OneHolder.hc a0 with
     | true =>
      rw [hcv] at HT
      by_cases k3:a0=3
      ·rw [if_pos k3] at H
       skip
       subst k3
       simp only [hcv,if_true] at H
       by_cases ch:lookT m a2=0
       ·rw [if_pos ch] at H
        have cb:(lookT m a2 != 0)=false:=bne_eq_false_iff_eq.mpr ch
        clear ch hcv
        have HN:=Aside0.mk H
        clear H
        go_wp2_with (first|((with_reducible refine gate_dst (N:=5) rfl ?_);refine bx 5 #[.int .i64 0,.int .i64 0,.int .i64 0] 30 ?_;intro gb hg w2 hbox hb;have GE:=Aside0.mk (bz hg:w.heap.size≤gb);have NB:Aside0 (B≠gb):=⟨by rw [hg];exact Nat.ne_of_lt HO.out.lt⟩;replace HO:=Aside0.mk (own_below HO.out hb);replace HB:=Aside0.mk (below_step bl hb);have BK:=Aside0.mk hbox;clear hb hbox hg;obtain ⟨z0,z1,z2,q0,q1,q2⟩:=ck3 BK.out)|((with_reducible refine gate_store (t:=30) (p:=5) rfl ?_);refine sx 30 5 (((w2.setCell ⟨gb,0,none⟩ (.int .i64 3)).setCell ⟨gb,1,none⟩ (.int .i64 a1)).setCell ⟨gb,2,none⟩ (.int .i64 a2)) ?_;intro w3 hw;replace HO:Aside0 (w3.ownsMap Try.prog 3 (plainElem (H:=Unit) Try.prog 3) B x.toNat (Dm m)):=⟨by rw [hw];exact ((HO.out.setCell NB.out _).setCell NB.out _).setCell NB.out _⟩;replace BK:Aside0 (w3.heap[gb]? = some (.cells #[.int .i64 3,.int .i64 a1,.int .i64 a2] 30 (0,0))):=⟨by rw [hw];exact blk_put (blk_put (blk_put BK.out 0 _ rfl) 1 _ rfl) 2 _ rfl⟩;replace HB:Aside0 (Below w.heap.size w w3):=⟨by rw [hw];exact below_set (below_set (below_set HB.out GE.out) GE.out) GE.out⟩;clear hw z0 z1 z2 q0 q1 q2;obtain ⟨z0,z1,z2,q0,q1,q2⟩:=ck3 BK.out)|((with_reducible refine gate_callee (f:=17) rfl ?_);refine gl _ Try.func17 #[.int .i64 3] ?_;(with_reducible refine (impl_hasConn.calls 3 true _ HT.out).mono ?_);rintro e w4 ⟨rfl,⟨nd,rfl⟩⟩;refine ⟨_,rfl,?_⟩;replace HO:=Aside0.mk (own_drew HO.out nd);replace HB:Aside0 (Below w.heap.size w (w3.drewN nd)):=⟨pw_below_drewN HB.out _⟩;replace BK:=Aside0.mk (blk_drewN BK.out nd))|(at_lookup;refine wpList_lookup_own_int _ rfl _ _ 36 rfl 3 3 .i64 impl_OneHolder.law Try.underlying36 Try.underlying3 (impl_OneHolder.zero _) B x.toNat _ rfl HO.out _ _ rfl (Go.Maps.keyOf_int_mk Try.underlying3 HW2.out) ?_;intro c hat hwc;obtain rfl:=Dm_c hat;clear hat hwc)|(at_mapUpdate;refine wpList_mapUpdate_own _ rfl _ _ _ 36 rfl 3 3 impl_OneHolder.law Try.underlying36 _ B x.toNat _ rfl HO.out (by have:=HP.out;have:=HL.out;unfold maxLen;omega) _ _ _ rfl rfl (Go.Maps.keyOf_int_mk Try.underlying3 HW2.out) _ [] (plainElem_int Try.underlying3 HW1.out) ?_;intro w5 hown1 hgrow1;replace HB:=Aside0.mk (Below.grown bl hgrow1 (below_size bl) (fun j hj=>by cases hj;exact HG.out));replace HO:=Aside0.mk hown1;clear hown1 hgrow1))
        go_roundg (l0.length - (x.toNat + 1))
        case measure=>have:=HP.out;omega
        case rel =>
         have e1:(wrap64 (x + 1)).toNat=x.toNat + 1:=by rw [HW.out];have:=HP.out;omega
         exact ⟨wrap64 (x + 1),(a2,a1) :: m,rfl,⟨by have:=HP.out;rw [HW.out];omega⟩,⟨by rw [e1];exact HN.out⟩,⟨by rw [e1];exact HO.out⟩,⟨bl⟩⟩
       ·rw [if_neg ch] at H
        have cb:(lookT m a2 != 0)=true:=bne_iff_ne.mpr ch
        clear ch hcv
        subst H
        go_wp2_with (first|((with_reducible refine gate_dst (N:=5) rfl ?_);refine bx 5 #[.int .i64 0,.int .i64 0,.int .i64 0] 30 ?_;intro gb hg w2 hbox hb;have GE:=Aside0.mk (bz hg:w.heap.size≤gb);have NB:Aside0 (B≠gb):=⟨by rw [hg];exact Nat.ne_of_lt HO.out.lt⟩;replace HO:=Aside0.mk (own_below HO.out hb);replace HB:=Aside0.mk (below_step bl hb);have BK:=Aside0.mk hbox;clear hb hbox hg;obtain ⟨z0,z1,z2,q0,q1,q2⟩:=ck3 BK.out)|((with_reducible refine gate_store (t:=30) (p:=5) rfl ?_);refine sx 30 5 (((w2.setCell ⟨gb,0,none⟩ (.int .i64 3)).setCell ⟨gb,1,none⟩ (.int .i64 a1)).setCell ⟨gb,2,none⟩ (.int .i64 a2)) ?_;intro w3 hw;replace HO:Aside0 (w3.ownsMap Try.prog 3 (plainElem (H:=Unit) Try.prog 3) B x.toNat (Dm m)):=⟨by rw [hw];exact ((HO.out.setCell NB.out _).setCell NB.out _).setCell NB.out _⟩;replace BK:Aside0 (w3.heap[gb]? = some (.cells #[.int .i64 3,.int .i64 a1,.int .i64 a2] 30 (0,0))):=⟨by rw [hw];exact blk_put (blk_put (blk_put BK.out 0 _ rfl) 1 _ rfl) 2 _ rfl⟩;replace HB:Aside0 (Below w.heap.size w w3):=⟨by rw [hw];exact below_set (below_set (below_set HB.out GE.out) GE.out) GE.out⟩;clear hw z0 z1 z2 q0 q1 q2;obtain ⟨z0,z1,z2,q0,q1,q2⟩:=ck3 BK.out)|((with_reducible refine gate_callee (f:=17) rfl ?_);refine gl _ Try.func17 #[.int .i64 3] ?_;(with_reducible refine (impl_hasConn.calls 3 true _ HT.out).mono ?_);rintro e w4 ⟨rfl,⟨nd,rfl⟩⟩;refine ⟨_,rfl,?_⟩;replace HO:=Aside0.mk (own_drew HO.out nd);replace HB:Aside0 (Below w.heap.size w (w3.drewN nd)):=⟨pw_below_drewN HB.out _⟩;replace BK:=Aside0.mk (blk_drewN BK.out nd))|(at_lookup;refine wpList_lookup_own_int _ rfl _ _ 36 rfl 3 3 .i64 impl_OneHolder.law Try.underlying36 Try.underlying3 (impl_OneHolder.zero _) B x.toNat _ rfl HO.out _ _ rfl (Go.Maps.keyOf_int_mk Try.underlying3 HW2.out) ?_;intro c hat hwc;obtain rfl:=Dm_c hat;clear hat hwc))
        go_ret
        exact ⟨rfl,bl⟩
      ·by_cases k4:a0=4
       ·rw [if_neg k3,if_pos (Or.inl k4)] at H
        clear k3
        subst k4
        simp only [hcv,if_true] at H
        by_cases ch:lookT m a2=a1
        ·rw [if_pos ch] at H
         have cb:(lookT m a2 != a1)=false:=bne_eq_false_iff_eq.mpr ch
         clear ch hcv
         have HN:=Aside0.mk H
         clear H
         go_wp2_with (first|((with_reducible refine gate_dst (N:=5) rfl ?_);refine bx 5 #[.int .i64 0,.int .i64 0,.int .i64 0] 30 ?_;intro gb hg w2 hbox hb;have GE:=Aside0.mk (bz hg:w.heap.size≤gb);have NB:Aside0 (B≠gb):=⟨by rw [hg];exact Nat.ne_of_lt HO.out.lt⟩;replace HO:=Aside0.mk (own_below HO.out hb);replace HB:=Aside0.mk (below_step bl hb);have BK:=Aside0.mk hbox;clear hb hbox hg;obtain ⟨z0,z1,z2,q0,q1,q2⟩:=ck3 BK.out)|((with_reducible refine gate_store (t:=30) (p:=5) rfl ?_);refine sx 30 5 (((w2.setCell ⟨gb,0,none⟩ (.int .i64 4)).setCell ⟨gb,1,none⟩ (.int .i64 a1)).setCell ⟨gb,2,none⟩ (.int .i64 a2)) ?_;intro w3 hw;replace HO:Aside0 (w3.ownsMap Try.prog 3 (plainElem (H:=Unit) Try.prog 3) B x.toNat (Dm m)):=⟨by rw [hw];exact ((HO.out.setCell NB.out _).setCell NB.out _).setCell NB.out _⟩;replace BK:Aside0 (w3.heap[gb]? = some (.cells #[.int .i64 4,.int .i64 a1,.int .i64 a2] 30 (0,0))):=⟨by rw [hw];exact blk_put (blk_put (blk_put BK.out 0 _ rfl) 1 _ rfl) 2 _ rfl⟩;replace HB:Aside0 (Below w.heap.size w w3):=⟨by rw [hw];exact below_set (below_set (below_set HB.out GE.out) GE.out) GE.out⟩;clear hw z0 z1 z2 q0 q1 q2;obtain ⟨z0,z1,z2,q0,q1,q2⟩:=ck3 BK.out)|((with_reducible refine gate_callee (f:=17) rfl ?_);refine gl _ Try.func17 #[.int .i64 4] ?_;(with_reducible refine (impl_hasConn.calls 4 true _ HT.out).mono ?_);rintro e w4 ⟨rfl,⟨nd,rfl⟩⟩;refine ⟨_,rfl,?_⟩;replace HO:=Aside0.mk (own_drew HO.out nd);replace HB:Aside0 (Below w.heap.size w (w3.drewN nd)):=⟨pw_below_drewN HB.out _⟩;replace BK:=Aside0.mk (blk_drewN BK.out nd))|(at_lookup;refine wpList_lookup_own_int _ rfl _ _ 36 rfl 3 3 .i64 impl_OneHolder.law Try.underlying36 Try.underlying3 (impl_OneHolder.zero _) B x.toNat _ rfl HO.out _ _ rfl (Go.Maps.keyOf_int_mk Try.underlying3 HW2.out) ?_;intro c hat hwc;obtain rfl:=Dm_c hat;clear hat hwc)|(at_mapUpdate;refine wpList_mapUpdate_own _ rfl _ _ _ 36 rfl 3 3 impl_OneHolder.law Try.underlying36 _ B x.toNat _ rfl HO.out (by have:=HP.out;have:=HL.out;unfold maxLen;omega) _ _ _ rfl rfl (Go.Maps.keyOf_int_mk Try.underlying3 HW2.out) _ [] (plainElem_int Try.underlying3 (by decide)) ?_;intro w5 hown1 hgrow1;replace HB:=Aside0.mk (Below.grown bl hgrow1 (below_size bl) (fun j hj=>by cases hj;exact HG.out));replace HO:=Aside0.mk hown1;clear hown1 hgrow1))
         go_roundg (l0.length - (x.toNat + 1))
         case measure=>have:=HP.out;omega
         case rel =>
          have e1:(wrap64 (x + 1)).toNat=x.toNat + 1:=by rw [HW.out];have:=HP.out;omega
          exact ⟨wrap64 (x + 1),(a2,0) :: m,rfl,⟨by have:=HP.out;rw [HW.out];omega⟩,⟨by rw [e1];exact HN.out⟩,⟨by rw [e1];exact HO.out⟩,⟨bl⟩⟩
        ·rw [if_neg ch] at H
         have cb:(lookT m a2 != a1)=true:=bne_iff_ne.mpr ch
         clear ch hcv
         subst H
         go_wp2_with (first|((with_reducible refine gate_dst (N:=5) rfl ?_);refine bx 5 #[.int .i64 0,.int .i64 0,.int .i64 0] 30 ?_;intro gb hg w2 hbox hb;have GE:=Aside0.mk (bz hg:w.heap.size≤gb);have NB:Aside0 (B≠gb):=⟨by rw [hg];exact Nat.ne_of_lt HO.out.lt⟩;replace HO:=Aside0.mk (own_below HO.out hb);replace HB:=Aside0.mk (below_step bl hb);have BK:=Aside0.mk hbox;clear hb hbox hg;obtain ⟨z0,z1,z2,q0,q1,q2⟩:=ck3 BK.out)|((with_reducible refine gate_store (t:=30) (p:=5) rfl ?_);refine sx 30 5 (((w2.setCell ⟨gb,0,none⟩ (.int .i64 4)).setCell ⟨gb,1,none⟩ (.int .i64 a1)).setCell ⟨gb,2,none⟩ (.int .i64 a2)) ?_;intro w3 hw;replace HO:Aside0 (w3.ownsMap Try.prog 3 (plainElem (H:=Unit) Try.prog 3) B x.toNat (Dm m)):=⟨by rw [hw];exact ((HO.out.setCell NB.out _).setCell NB.out _).setCell NB.out _⟩;replace BK:Aside0 (w3.heap[gb]? = some (.cells #[.int .i64 4,.int .i64 a1,.int .i64 a2] 30 (0,0))):=⟨by rw [hw];exact blk_put (blk_put (blk_put BK.out 0 _ rfl) 1 _ rfl) 2 _ rfl⟩;replace HB:Aside0 (Below w.heap.size w w3):=⟨by rw [hw];exact below_set (below_set (below_set HB.out GE.out) GE.out) GE.out⟩;clear hw z0 z1 z2 q0 q1 q2;obtain ⟨z0,z1,z2,q0,q1,q2⟩:=ck3 BK.out)|((with_reducible refine gate_callee (f:=17) rfl ?_);refine gl _ Try.func17 #[.int .i64 4] ?_;(with_reducible refine (impl_hasConn.calls 4 true _ HT.out).mono ?_);rintro e w4 ⟨rfl,⟨nd,rfl⟩⟩;refine ⟨_,rfl,?_⟩;replace HO:=Aside0.mk (own_drew HO.out nd);replace HB:Aside0 (Below w.heap.size w (w3.drewN nd)):=⟨pw_below_drewN HB.out _⟩;replace BK:=Aside0.mk (blk_drewN BK.out nd))|(at_lookup;refine wpList_lookup_own_int _ rfl _ _ 36 rfl 3 3 .i64 impl_OneHolder.law Try.underlying36 Try.underlying3 (impl_OneHolder.zero _) B x.toNat _ rfl HO.out _ _ rfl (Go.Maps.keyOf_int_mk Try.underlying3 HW2.out) ?_;intro c hat hwc;obtain rfl:=Dm_c hat;clear hat hwc))
         go_ret
         exact ⟨rfl,bl⟩
       ·by_cases k5:a0=5
        ·rw [if_neg k3,if_pos (Or.inr k5)] at H
         clear k3 k4
         subst k5
         simp only [hcv,if_true] at H
         by_cases ch:lookT m a2=a1
         ·rw [if_pos ch] at H
          have cb:(lookT m a2 != a1)=false:=bne_eq_false_iff_eq.mpr ch
          clear ch hcv
          have HN:=Aside0.mk H
          clear H
          go_wp2_with (first|((with_reducible refine gate_dst (N:=5) rfl ?_);refine bx 5 #[.int .i64 0,.int .i64 0,.int .i64 0] 30 ?_;intro gb hg w2 hbox hb;have GE:=Aside0.mk (bz hg:w.heap.size≤gb);have NB:Aside0 (B≠gb):=⟨by rw [hg];exact Nat.ne_of_lt HO.out.lt⟩;replace HO:=Aside0.mk (own_below HO.out hb);replace HB:=Aside0.mk (below_step bl hb);have BK:=Aside0.mk hbox;clear hb hbox hg;obtain ⟨z0,z1,z2,q0,q1,q2⟩:=ck3 BK.out)|((with_reducible refine gate_store (t:=30) (p:=5) rfl ?_);refine sx 30 5 (((w2.setCell ⟨gb,0,none⟩ (.int .i64 5)).setCell ⟨gb,1,none⟩ (.int .i64 a1)).setCell ⟨gb,2,none⟩ (.int .i64 a2)) ?_;intro w3 hw;replace HO:Aside0 (w3.ownsMap Try.prog 3 (plainElem (H:=Unit) Try.prog 3) B x.toNat (Dm m)):=⟨by rw [hw];exact ((HO.out.setCell NB.out _).setCell NB.out _).setCell NB.out _⟩;replace BK:Aside0 (w3.heap[gb]? = some (.cells #[.int .i64 5,.int .i64 a1,.int .i64 a2] 30 (0,0))):=⟨by rw [hw];exact blk_put (blk_put (blk_put BK.out 0 _ rfl) 1 _ rfl) 2 _ rfl⟩;replace HB:Aside0 (Below w.heap.size w w3):=⟨by rw [hw];exact below_set (below_set (below_set HB.out GE.out) GE.out) GE.out⟩;clear hw z0 z1 z2 q0 q1 q2;obtain ⟨z0,z1,z2,q0,q1,q2⟩:=ck3 BK.out)|((with_reducible refine gate_callee (f:=17) rfl ?_);refine gl _ Try.func17 #[.int .i64 5] ?_;(with_reducible refine (impl_hasConn.calls 5 true _ HT.out).mono ?_);rintro e w4 ⟨rfl,⟨nd,rfl⟩⟩;refine ⟨_,rfl,?_⟩;replace HO:=Aside0.mk (own_drew HO.out nd);replace HB:Aside0 (Below w.heap.size w (w3.drewN nd)):=⟨pw_below_drewN HB.out _⟩;replace BK:=Aside0.mk (blk_drewN BK.out nd))|(at_lookup;refine wpList_lookup_own_int _ rfl _ _ 36 rfl 3 3 .i64 impl_OneHolder.law Try.underlying36 Try.underlying3 (impl_OneHolder.zero _) B x.toNat _ rfl HO.out _ _ rfl (Go.Maps.keyOf_int_mk Try.underlying3 HW2.out) ?_;intro c hat hwc;obtain rfl:=Dm_c hat;clear hat hwc)|(at_mapUpdate;refine wpList_mapUpdate_own _ rfl _ _ _ 36 rfl 3 3 impl_OneHolder.law Try.underlying36 _ B x.toNat _ rfl HO.out (by have:=HP.out;have:=HL.out;unfold maxLen;omega) _ _ _ rfl rfl (Go.Maps.keyOf_int_mk Try.underlying3 HW2.out) _ [] (plainElem_int Try.underlying3 (by decide)) ?_;intro w5 hown1 hgrow1;replace HB:=Aside0.mk (Below.grown bl hgrow1 (below_size bl) (fun j hj=>by cases hj;exact HG.out));replace HO:=Aside0.mk hown1;clear hown1 hgrow1))
          go_roundg (l0.length - (x.toNat + 1))
          case measure=>have:=HP.out;omega
          case rel =>
           have e1:(wrap64 (x + 1)).toNat=x.toNat + 1:=by rw [HW.out];have:=HP.out;omega
           exact ⟨wrap64 (x + 1),(a2,0) :: m,rfl,⟨by have:=HP.out;rw [HW.out];omega⟩,⟨by rw [e1];exact HN.out⟩,⟨by rw [e1];exact HO.out⟩,⟨bl⟩⟩
         ·rw [if_neg ch] at H
          have cb:(lookT m a2 != a1)=true:=bne_iff_ne.mpr ch
          clear ch hcv
          subst H
          go_wp2_with (first|((with_reducible refine gate_dst (N:=5) rfl ?_);refine bx 5 #[.int .i64 0,.int .i64 0,.int .i64 0] 30 ?_;intro gb hg w2 hbox hb;have GE:=Aside0.mk (bz hg:w.heap.size≤gb);have NB:Aside0 (B≠gb):=⟨by rw [hg];exact Nat.ne_of_lt HO.out.lt⟩;replace HO:=Aside0.mk (own_below HO.out hb);replace HB:=Aside0.mk (below_step bl hb);have BK:=Aside0.mk hbox;clear hb hbox hg;obtain ⟨z0,z1,z2,q0,q1,q2⟩:=ck3 BK.out)|((with_reducible refine gate_store (t:=30) (p:=5) rfl ?_);refine sx 30 5 (((w2.setCell ⟨gb,0,none⟩ (.int .i64 5)).setCell ⟨gb,1,none⟩ (.int .i64 a1)).setCell ⟨gb,2,none⟩ (.int .i64 a2)) ?_;intro w3 hw;replace HO:Aside0 (w3.ownsMap Try.prog 3 (plainElem (H:=Unit) Try.prog 3) B x.toNat (Dm m)):=⟨by rw [hw];exact ((HO.out.setCell NB.out _).setCell NB.out _).setCell NB.out _⟩;replace BK:Aside0 (w3.heap[gb]? = some (.cells #[.int .i64 5,.int .i64 a1,.int .i64 a2] 30 (0,0))):=⟨by rw [hw];exact blk_put (blk_put (blk_put BK.out 0 _ rfl) 1 _ rfl) 2 _ rfl⟩;replace HB:Aside0 (Below w.heap.size w w3):=⟨by rw [hw];exact below_set (below_set (below_set HB.out GE.out) GE.out) GE.out⟩;clear hw z0 z1 z2 q0 q1 q2;obtain ⟨z0,z1,z2,q0,q1,q2⟩:=ck3 BK.out)|((with_reducible refine gate_callee (f:=17) rfl ?_);refine gl _ Try.func17 #[.int .i64 5] ?_;(with_reducible refine (impl_hasConn.calls 5 true _ HT.out).mono ?_);rintro e w4 ⟨rfl,⟨nd,rfl⟩⟩;refine ⟨_,rfl,?_⟩;replace HO:=Aside0.mk (own_drew HO.out nd);replace HB:Aside0 (Below w.heap.size w (w3.drewN nd)):=⟨pw_below_drewN HB.out _⟩;replace BK:=Aside0.mk (blk_drewN BK.out nd))|(at_lookup;refine wpList_lookup_own_int _ rfl _ _ 36 rfl 3 3 .i64 impl_OneHolder.law Try.underlying36 Try.underlying3 (impl_OneHolder.zero _) B x.toNat _ rfl HO.out _ _ rfl (Go.Maps.keyOf_int_mk Try.underlying3 HW2.out) ?_;intro c hat hwc;obtain rfl:=Dm_c hat;clear hat hwc))
          go_ret
          exact ⟨rfl,bl⟩
        ·by_cases k10:a0=10
         ·rw [if_neg k3,if_neg (fun h=>h.elim k4 k5),if_pos k10] at H
          clear k3 k4 k5
          subst k10
          simp only [hcv,if_true] at H
          by_cases ch:lookT m a2=a1
          ·rw [if_pos ch] at H
           have cb:(lookT m a2 != a1)=false:=bne_eq_false_iff_eq.mpr ch
           clear ch hcv
           have HN:=Aside0.mk H
           clear H
           go_wp2_with (first|((with_reducible refine gate_dst (N:=5) rfl ?_);refine bx 5 #[.int .i64 0,.int .i64 0,.int .i64 0] 30 ?_;intro gb hg w2 hbox hb;have GE:=Aside0.mk (bz hg:w.heap.size≤gb);have NB:Aside0 (B≠gb):=⟨by rw [hg];exact Nat.ne_of_lt HO.out.lt⟩;replace HO:=Aside0.mk (own_below HO.out hb);replace HB:=Aside0.mk (below_step bl hb);have BK:=Aside0.mk hbox;clear hb hbox hg;obtain ⟨z0,z1,z2,q0,q1,q2⟩:=ck3 BK.out)|((with_reducible refine gate_store (t:=30) (p:=5) rfl ?_);refine sx 30 5 (((w2.setCell ⟨gb,0,none⟩ (.int .i64 10)).setCell ⟨gb,1,none⟩ (.int .i64 a1)).setCell ⟨gb,2,none⟩ (.int .i64 a2)) ?_;intro w3 hw;replace HO:Aside0 (w3.ownsMap Try.prog 3 (plainElem (H:=Unit) Try.prog 3) B x.toNat (Dm m)):=⟨by rw [hw];exact ((HO.out.setCell NB.out _).setCell NB.out _).setCell NB.out _⟩;replace BK:Aside0 (w3.heap[gb]? = some (.cells #[.int .i64 10,.int .i64 a1,.int .i64 a2] 30 (0,0))):=⟨by rw [hw];exact blk_put (blk_put (blk_put BK.out 0 _ rfl) 1 _ rfl) 2 _ rfl⟩;replace HB:Aside0 (Below w.heap.size w w3):=⟨by rw [hw];exact below_set (below_set (below_set HB.out GE.out) GE.out) GE.out⟩;clear hw z0 z1 z2 q0 q1 q2;obtain ⟨z0,z1,z2,q0,q1,q2⟩:=ck3 BK.out)|((with_reducible refine gate_callee (f:=17) rfl ?_);refine gl _ Try.func17 #[.int .i64 10] ?_;(with_reducible refine (impl_hasConn.calls 10 true _ HT.out).mono ?_);rintro e w4 ⟨rfl,⟨nd,rfl⟩⟩;refine ⟨_,rfl,?_⟩;replace HO:=Aside0.mk (own_drew HO.out nd);replace HB:Aside0 (Below w.heap.size w (w3.drewN nd)):=⟨pw_below_drewN HB.out _⟩;replace BK:=Aside0.mk (blk_drewN BK.out nd))|(at_lookup;refine wpList_lookup_own_int _ rfl _ _ 36 rfl 3 3 .i64 impl_OneHolder.law Try.underlying36 Try.underlying3 (impl_OneHolder.zero _) B x.toNat _ rfl HO.out _ _ rfl (Go.Maps.keyOf_int_mk Try.underlying3 HW2.out) ?_;intro c hat hwc;obtain rfl:=Dm_c hat;clear hat hwc))
           go_roundg (l0.length - (x.toNat + 1))
           case measure=>have:=HP.out;omega
           case rel =>
            have e1:(wrap64 (x + 1)).toNat=x.toNat + 1:=by rw [HW.out];have:=HP.out;omega
            exact ⟨wrap64 (x + 1),m,rfl,⟨by have:=HP.out;rw [HW.out];omega⟩,⟨by rw [e1];exact HN.out⟩,⟨by rw [e1];exact HO.out.mono (Nat.le_succ _)⟩,⟨bl⟩⟩
          ·rw [if_neg ch] at H
           have cb:(lookT m a2 != a1)=true:=bne_iff_ne.mpr ch
           clear ch hcv
           subst H
           go_wp2_with (first|((with_reducible refine gate_dst (N:=5) rfl ?_);refine bx 5 #[.int .i64 0,.int .i64 0,.int .i64 0] 30 ?_;intro gb hg w2 hbox hb;have GE:=Aside0.mk (bz hg:w.heap.size≤gb);have NB:Aside0 (B≠gb):=⟨by rw [hg];exact Nat.ne_of_lt HO.out.lt⟩;replace HO:=Aside0.mk (own_below HO.out hb);replace HB:=Aside0.mk (below_step bl hb);have BK:=Aside0.mk hbox;clear hb hbox hg;obtain ⟨z0,z1,z2,q0,q1,q2⟩:=ck3 BK.out)|((with_reducible refine gate_store (t:=30) (p:=5) rfl ?_);refine sx 30 5 (((w2.setCell ⟨gb,0,none⟩ (.int .i64 10)).setCell ⟨gb,1,none⟩ (.int .i64 a1)).setCell ⟨gb,2,none⟩ (.int .i64 a2)) ?_;intro w3 hw;replace HO:Aside0 (w3.ownsMap Try.prog 3 (plainElem (H:=Unit) Try.prog 3) B x.toNat (Dm m)):=⟨by rw [hw];exact ((HO.out.setCell NB.out _).setCell NB.out _).setCell NB.out _⟩;replace BK:Aside0 (w3.heap[gb]? = some (.cells #[.int .i64 10,.int .i64 a1,.int .i64 a2] 30 (0,0))):=⟨by rw [hw];exact blk_put (blk_put (blk_put BK.out 0 _ rfl) 1 _ rfl) 2 _ rfl⟩;replace HB:Aside0 (Below w.heap.size w w3):=⟨by rw [hw];exact below_set (below_set (below_set HB.out GE.out) GE.out) GE.out⟩;clear hw z0 z1 z2 q0 q1 q2;obtain ⟨z0,z1,z2,q0,q1,q2⟩:=ck3 BK.out)|((with_reducible refine gate_callee (f:=17) rfl ?_);refine gl _ Try.func17 #[.int .i64 10] ?_;(with_reducible refine (impl_hasConn.calls 10 true _ HT.out).mono ?_);rintro e w4 ⟨rfl,⟨nd,rfl⟩⟩;refine ⟨_,rfl,?_⟩;replace HO:=Aside0.mk (own_drew HO.out nd);replace HB:Aside0 (Below w.heap.size w (w3.drewN nd)):=⟨pw_below_drewN HB.out _⟩;replace BK:=Aside0.mk (blk_drewN BK.out nd))|(at_lookup;refine wpList_lookup_own_int _ rfl _ _ 36 rfl 3 3 .i64 impl_OneHolder.law Try.underlying36 Try.underlying3 (impl_OneHolder.zero _) B x.toNat _ rfl HO.out _ _ rfl (Go.Maps.keyOf_int_mk Try.underlying3 HW2.out) ?_;intro c hat hwc;obtain rfl:=Dm_c hat;clear hat hwc))
           go_ret
           exact ⟨rfl,bl⟩
         ·rw [if_neg k3,if_neg (fun h=>h.elim k4 k5),if_neg k10] at H
          have b3:(a0 == 3)=false:=beq_eq_false_iff_ne.mpr k3
          have b4:(a0 == 4)=false:=beq_eq_false_iff_ne.mpr k4
          have b5:(a0 == 5)=false:=beq_eq_false_iff_ne.mpr k5
          have b10:(a0 == 10)=false:=beq_eq_false_iff_ne.mpr k10
          have HN:=Aside0.mk H
          clear H k3 k4 k5 k10 hcv
          go_wp2_with (first|((with_reducible refine gate_dst (N:=5) rfl ?_);refine bx 5 #[.int .i64 0,.int .i64 0,.int .i64 0] 30 ?_;intro gb hg w2 hbox hb;have GE:=Aside0.mk (bz hg:w.heap.size≤gb);have NB:Aside0 (B≠gb):=⟨by rw [hg];exact Nat.ne_of_lt HO.out.lt⟩;replace HO:=Aside0.mk (own_below HO.out hb);replace HB:=Aside0.mk (below_step bl hb);have BK:=Aside0.mk hbox;clear hb hbox hg;obtain ⟨z0,z1,z2,q0,q1,q2⟩:=ck3 BK.out)|((with_reducible refine gate_store (t:=30) (p:=5) rfl ?_);refine sx 30 5 (((w2.setCell ⟨gb,0,none⟩ (.int .i64 a0)).setCell ⟨gb,1,none⟩ (.int .i64 a1)).setCell ⟨gb,2,none⟩ (.int .i64 a2)) ?_;intro w3 hw;replace HO:Aside0 (w3.ownsMap Try.prog 3 (plainElem (H:=Unit) Try.prog 3) B x.toNat (Dm m)):=⟨by rw [hw];exact ((HO.out.setCell NB.out _).setCell NB.out _).setCell NB.out _⟩;replace BK:Aside0 (w3.heap[gb]? = some (.cells #[.int .i64 a0,.int .i64 a1,.int .i64 a2] 30 (0,0))):=⟨by rw [hw];exact blk_put (blk_put (blk_put BK.out 0 _ rfl) 1 _ rfl) 2 _ rfl⟩;replace HB:Aside0 (Below w.heap.size w w3):=⟨by rw [hw];exact below_set (below_set (below_set HB.out GE.out) GE.out) GE.out⟩;clear hw z0 z1 z2 q0 q1 q2;obtain ⟨z0,z1,z2,q0,q1,q2⟩:=ck3 BK.out)|((with_reducible refine gate_callee (f:=17) rfl ?_);refine gl _ Try.func17 #[.int .i64 a0] ?_;(with_reducible refine (impl_hasConn.calls a0 true _ HT.out).mono ?_);rintro e w4 ⟨rfl,⟨nd,rfl⟩⟩;refine ⟨_,rfl,?_⟩;replace HO:=Aside0.mk (own_drew HO.out nd);replace HB:Aside0 (Below w.heap.size w (w3.drewN nd)):=⟨pw_below_drewN HB.out _⟩;replace BK:=Aside0.mk (blk_drewN BK.out nd))|(at_lookup;refine wpList_lookup_own_int _ rfl _ _ 36 rfl 3 3 .i64 impl_OneHolder.law Try.underlying36 Try.underlying3 (impl_OneHolder.zero _) B x.toNat _ rfl HO.out _ _ rfl (Go.Maps.keyOf_int_mk Try.underlying3 HW2.out) ?_;intro c hat hwc;obtain rfl:=Dm_c hat;clear hat hwc))
          go_roundg (l0.length - (x.toNat + 1))
          case measure=>have:=HP.out;omega
          case rel =>
           have e1:(wrap64 (x + 1)).toNat=x.toNat + 1:=by rw [HW.out];have:=HP.out;omega
           exact ⟨wrap64 (x + 1),m,rfl,⟨by have:=HP.out;rw [HW.out];omega⟩,⟨by rw [e1];exact HN.out⟩,⟨by rw [e1];exact HO.out.mono (Nat.le_succ _)⟩,⟨bl⟩⟩
     | false =>
      rw [hcv] at HT
      have k3:a0≠3:=by rintro rfl;exact absurd hcv (by decide)
      have k4:a0≠4:=by rintro rfl;exact absurd hcv (by decide)
      have k5:a0≠5:=by rintro rfl;exact absurd hcv (by decide)
      have k10:a0≠10:=by rintro rfl;exact absurd hcv (by decide)
      rw [if_neg k3,if_neg (fun h=>h.elim k4 k5),if_neg k10] at H
      have b3:(a0 == 3)=false:=beq_eq_false_iff_ne.mpr k3
      have b4:(a0 == 4)=false:=beq_eq_false_iff_ne.mpr k4
      have b5:(a0 == 5)=false:=beq_eq_false_iff_ne.mpr k5
      have b10:(a0 == 10)=false:=beq_eq_false_iff_ne.mpr k10
      have HN:=Aside0.mk H
      clear H k3 k4 k5 k10 hcv
      go_wp2_with (first|((with_reducible refine gate_dst (N:=5) rfl ?_);refine bx 5 #[.int .i64 0,.int .i64 0,.int .i64 0] 30 ?_;intro gb hg w2 hbox hb;have GE:=Aside0.mk (bz hg:w.heap.size≤gb);have NB:Aside0 (B≠gb):=⟨by rw [hg];exact Nat.ne_of_lt HO.out.lt⟩;replace HO:=Aside0.mk (own_below HO.out hb);replace HB:=Aside0.mk (below_step bl hb);have BK:=Aside0.mk hbox;clear hb hbox hg;obtain ⟨z0,z1,z2,q0,q1,q2⟩:=ck3 BK.out)|((with_reducible refine gate_store (t:=30) (p:=5) rfl ?_);refine sx 30 5 (((w2.setCell ⟨gb,0,none⟩ (.int .i64 a0)).setCell ⟨gb,1,none⟩ (.int .i64 a1)).setCell ⟨gb,2,none⟩ (.int .i64 a2)) ?_;intro w3 hw;replace HO:Aside0 (w3.ownsMap Try.prog 3 (plainElem (H:=Unit) Try.prog 3) B x.toNat (Dm m)):=⟨by rw [hw];exact ((HO.out.setCell NB.out _).setCell NB.out _).setCell NB.out _⟩;replace BK:Aside0 (w3.heap[gb]? = some (.cells #[.int .i64 a0,.int .i64 a1,.int .i64 a2] 30 (0,0))):=⟨by rw [hw];exact blk_put (blk_put (blk_put BK.out 0 _ rfl) 1 _ rfl) 2 _ rfl⟩;replace HB:Aside0 (Below w.heap.size w w3):=⟨by rw [hw];exact below_set (below_set (below_set HB.out GE.out) GE.out) GE.out⟩;clear hw z0 z1 z2 q0 q1 q2;obtain ⟨z0,z1,z2,q0,q1,q2⟩:=ck3 BK.out)|((with_reducible refine gate_callee (f:=17) rfl ?_);refine gl _ Try.func17 #[.int .i64 a0] ?_;(with_reducible refine (impl_hasConn.calls a0 false _ HT.out).mono ?_);rintro e w4 ⟨rfl,⟨nd,rfl⟩⟩;refine ⟨_,rfl,?_⟩;replace HO:=Aside0.mk (own_drew HO.out nd);replace HB:Aside0 (Below w.heap.size w (w3.drewN nd)):=⟨pw_below_drewN HB.out _⟩;replace BK:=Aside0.mk (blk_drewN BK.out nd)))
      go_roundg (l0.length - (x.toNat + 1))
      case measure=>have:=HP.out;omega
      case rel =>
       have e1:(wrap64 (x + 1)).toNat=x.toNat + 1:=by rw [HW.out];have:=HP.out;omega
       exact ⟨wrap64 (x + 1),m,rfl,⟨by have:=HP.out;rw [HW.out];omega⟩,⟨by rw [e1];exact HN.out⟩,⟨by rw [e1];exact HO.out.mono (Nat.le_succ _)⟩,⟨bl⟩⟩
    ·have hd:decide (x < (l0.length:Int))=false:=decide_eq_false c3
     have H:=HN.out
     rw [List.drop_eq_nil_of_le (by omega)] at H
     simp only [impl_OneHolder.run] at H
     subst H
     clear HN c3
     go_wp2
     go_ret
     exact ⟨rfl,bl⟩
  ·rw [if_neg hall] at h
   cases h

/-! ### laws_eqEvent: function 18 -/
def laws_eqEvent.f (a0_0:Int) (a0_1:Int) (a0_2:Int) (a1_0:Int) (a1_1:Int) (a1_2:Int):Option (Bool):=if a0_0=a1_0 then (if a0_1=a1_1 then (if a0_2=a1_2 then (some true) else (none)) else (none)) else (none)
set_option maxHeartbeats 8000000 in
set_option maxRecDepth 100000 in
theorem laws_eqEvent.calls (a0_0:Int) (a0_1:Int) (a0_2:Int) (a1_0:Int) (a1_1:Int) (a1_2:Int) (r:Bool) (w:World) (h:laws_eqEvent.f a0_0 a0_1 a0_2 a1_0 a1_1 a1_2=some r) :
  Calls Try.prog 18 #[.agg #[.int .i64 a0_0,.int .i64 a0_1,.int .i64 a0_2],.agg #[.int .i64 a1_0,.int .i64 a1_1,.int .i64 a1_2]] w fun e w'=>e = .returned (.bool r)∧Below w.heap.size w w':=by
 have hu30:=Try.underlying30
 have HB:=Aside0.mk (Below.refl w.heap.size w)
 have H:(if a0_0=a1_0 then (if a0_1=a1_1 then (if a0_2=a1_2 then (some true) else (none)) else (none)) else (none))=some r:=h
 clear h
 by_cases c3:a0_0=a1_0
 ·rw [if_pos c3] at H
  have c3b0:(a0_0 == a1_0)=true:=beq_iff_eq.mpr c3
  have c3b1:(a0_0 != a1_0)=false:=bne_eq_false_iff_eq.mpr c3
  clear c3
  by_cases c4:a0_1=a1_1
  case neg =>
   rw [if_neg c4] at H
   exact absurd H (by simp)
  rw [if_pos c4] at H
  have c4b0:(a0_1 == a1_1)=true:=beq_iff_eq.mpr c4
  have c4b1:(a0_1 != a1_1)=false:=bne_eq_false_iff_eq.mpr c4
  clear c4
  by_cases c5:a0_2=a1_2
  case neg =>
   rw [if_neg c5] at H
   exact absurd H (by simp)
  rw [if_pos c5] at H
  have c5b0:(a0_2 == a1_2)=true:=beq_iff_eq.mpr c5
  have c5b1:(a0_2 != a1_2)=false:=bne_eq_false_iff_eq.mpr c5
  clear c5
  obtain rfl:=Option.some.inj H
  go_enter Try.func18,Try.ntmps18
  go_wp2_with (first|((with_reducible refine gate_dst (N:=2) rfl ?_);refine bx 2 #[.int .i64 a0_0,.int .i64 a0_1,.int .i64 a0_2] 30 ?_;intro gb149 hg w6 hbox hb;have BK149:=Aside0.mk (hbox);have GW149:=Aside0.mk (bz hg:w.heap.size≤gb149);have GE149:=GW149;replace HB:=Aside0.mk (below_step bl hb);clear hb hbox hg)|((with_reducible refine gate_dst (N:=3) rfl ?_);refine bx 3 #[.int .i64 a1_0,.int .i64 a1_1,.int .i64 a1_2] 30 ?_;intro gb150 hg w7 hbox hb;have BK150:=Aside0.mk (hbox);have GW150:=Aside0.mk (bz hg:w.heap.size≤gb150);have GE150:=GW150;replace HB:=Aside0.mk (below_step bl hb);have NB149_150:=Aside0.mk (nl hg BK149:gb149≠gb150);have NB150_149:=Aside0.mk (nr hg BK149:gb150≠gb149);replace BK149:=Aside0.mk (blk_below (bk BK149) hb);clear hb hbox hg;have hnb8:=NB149_150.out;have hnc8:=NB150_149.out;obtain ⟨hcz9_0,hcz9_1,hcz9_2,hfz9_0,hfz9_1,hfz9_2⟩:=ck3 BK149.out;obtain ⟨hcz10_0,hcz10_1,hcz10_2,hfz10_0,hfz10_1,hfz10_2⟩:=ck3 BK150.out))
  go_ret
  exact ⟨er,bl⟩
 ·rw [if_neg c3] at H
  exact absurd H (by simp)

/-! ### laws_eqEventS: function 9 -/
def laws_eqEventS.l0:Nat→List (S30)→List (S30)→Int→Option (Bool)
 | 0,_,_,_=>none
 | k + 1,x0,x1,x5=>if x5 < (x0.length:Int) then (if 0≤x5 then (if x5 < (x1.length:Int) then ((laws_eqEvent.f ((rd_T30 x0 x5).f0) ((rd_T30 x0 x5).f1) ((rd_T30 x0 x5).f2) ((rd_T30 x1 x5).f0) ((rd_T30 x1 x5).f1) ((rd_T30 x1 x5).f2)).bind fun t153=>(if t153=true then (laws_eqEventS.l0 k x0 x1 (wrap64 (x5 + 1))) else (none))) else (none)) else (none)) else (some true)
def laws_eqEventS.f (k:Nat) (l0:List (S30)) (l1:List (S30)):Option (Bool):=if (l0.length:Int)=(l1.length:Int) then (laws_eqEventS.l0 k l0 l1 0) else (none)
theorem laws_eqEventS.mono_l:∀ k,(∀ y0 y1 y2,LeO (laws_eqEventS.l0 k y0 y1 y2) (laws_eqEventS.l0 (k + 1) y0 y1 y2))
 | 0=>fun _ _ _ r h=>by simp [laws_eqEventS.l0] at h
 | k + 1=>by
  have ih0:=laws_eqEventS.mono_l k
  ·intro y0 y1 y2
   unfold laws_eqEventS.l0
   repeat' first
   | (with_reducible exact ih0 _ _ _)
   | (with_reducible exact LeO.refl _)
   | (with_reducible exact LeO.none _)
   | (with_reducible refine LeO.ite ?_ ?_)
   | (with_reducible refine LeO.bind ?_ (fun _=>?_))
   | exact ih0 _ _ _
   | exact LeO.none _
   | refine LeO.ite ?_ ?_
   | refine LeO.bind ?_ (fun _=>?_)
theorem laws_eqEventS.mono:∀ a0 a1 k,LeO (laws_eqEventS.f k a0 a1) (laws_eqEventS.f (k + 1) a0 a1):=by
 intro a0 a1 k
 have ih0:=laws_eqEventS.mono_l k
 unfold laws_eqEventS.f
 repeat' first
   | (with_reducible exact ih0 _ _ _)
   | (with_reducible exact LeO.refl _)
   | (with_reducible exact LeO.none _)
   | (with_reducible refine LeO.ite ?_ ?_)
   | (with_reducible refine LeO.bind ?_ (fun _=>?_))
   | exact ih0 _ _ _
   | exact LeO.none _
   | refine LeO.ite ?_ ?_
   | refine LeO.bind ?_ (fun _=>?_)
def laws_eqEventS.T6:Bool × List (List Nat × List Nat):=(true,[([],[]),([],[]),([0,1],[0,1]),([2],[2]),([],[]),([],[]),([4,5],[4,5]),([6],[6]),([3,7],[3,7]),([8],[8])])
def laws_eqEventS.B6:List Nat:=[0,0,3,7,0,0,48,112,255,511]
theorem laws_eqEventS.tab6:rtab .any (opsOf Try.f9 6)=laws_eqEventS.T6:=by kernel_rfl
theorem laws_eqEventS.bits6:waitsOk laws_eqEventS.T6.2 laws_eqEventS.B6=true:=by kernel_rfl
set_option maxHeartbeats 8000000 in
set_option maxRecDepth 100000 in
theorem laws_eqEventS.calls (k:Nat) (A0:Option Addr) (c0:Nat) (l0:List (S30)) (A1:Option Addr) (c1:Nat) (l1:List (S30)) (r:Bool) (w:World) (hr0:Kd.C k30 w A0 l0.length l0) (hc0:l0.length≤c0) (hr1:Kd.C k30 w A1 l1.length l1) (hc1:l1.length≤c1) (h:laws_eqEventS.f k l0 l1=some r) :
  Calls Try.prog 9 #[.slice A0 l0.length c0,.slice A1 l1.length c1] w fun e w'=>e = .returned (.bool r)∧Below w.heap.size w w':=by
 have hu30:=Try.underlying30
 have HR0:=Aside0.mk hr0
 have HC0:=Aside0.mk hc0
 clear hr0 hc0
 have HR1:=Aside0.mk hr1
 have HC1:=Aside0.mk hc1
 clear hr1 hc1
 have HB:=Aside0.mk (Below.refl w.heap.size w)
 have H:(if (l0.length:Int)=(l1.length:Int) then (laws_eqEventS.l0 k l0 l1 0) else (none))=some r:=h
 clear h
 by_cases c3:(l0.length:Int)=(l1.length:Int)
 ·rw [if_pos c3] at H
  have c3b0:((l0.length:Int) == (l1.length:Int))=true:=beq_iff_eq.mpr c3
  have c3b1:((l0.length:Int) != (l1.length:Int))=false:=bne_eq_false_iff_eq.mpr c3
  have c3b2:(l0.length == l1.length)=true:=by first|simpa using c3|(simp at c3 ⊢;omega)
  clear c3
  have H':=Aside0.mk H
  clear H
  go_enter Try.func9,Try.ntmps9
  go_wp2
  go_loopg [5] k (fun kq v5 w'=>∃ (x5_1:Int),v5 = .int .i64 x5_1∧Aside0 (laws_eqEventS.l0 kq l0 l1 x5_1=some r)∧Aside0 (kq≤k)∧Aside0 (Below w.heap.size w w'))
  case atStart=>exact ⟨(0),(by first|rfl|(simp;done)|(simp [*];done)),H',⟨Nat.le_refl _⟩,⟨bl⟩⟩
  case round =>
   clear H'
   try clear c1
   try clear p2
   try clear c3
   try clear c3b0
   try clear c3b1
   try clear c3b2
   obtain ⟨x5_1,rfl,HA,HK1,HB⟩:=hrel
   cases gk with
   | zero=>exact absurd HA.out (by simp [laws_eqEventS.l0])
   | succ k1 =>
    have H:=HA.out
    clear HA
    simp only [laws_eqEventS.l0] at H
    by_cases c4:x5_1 < (l0.length:Int)
    ·rw [if_pos c4] at H
     have c4b0:decide (x5_1 < (l0.length:Int))=true:=decide_eq_true c4
     clear c4
     by_cases c5:0≤x5_1
     case neg =>
      rw [if_neg c5] at H
      exact absurd H (by simp)
     rw [if_pos c5] at H
     have c5b0:decide (0≤x5_1)=true:=decide_eq_true c5
     clear c5
     by_cases c6:x5_1 < (l1.length:Int)
     case neg =>
      rw [if_neg c6] at H
      exact absurd H (by simp)
     rw [if_pos c6] at H
     have c6b0:decide (x5_1 < (l1.length:Int))=true:=decide_eq_true c6
     clear c6
     replace H:=Option.bind_eq_some_iff.mp H
     obtain ⟨t153,A70,H⟩:=H
     have A7:=Aside0.mk A70
     clear A70
     by_cases c8:t153=true
     ·subst c8
      rw [if_pos rfl] at H
      have H':=Aside0.mk H
      clear H
      try go_wp2
      replace HB:=Aside0.mk (below_drew1 HB.out)
      have p151:0≤(x5_1:Int):=od
      have q151:x5_1 < (l0.length:Int):=od
      obtain ⟨ad151,e151,hx151_0,hx151_1,hx151_2⟩:=at_T30 HR0.out x5_1 p151 q151
      have hw151_2:=hx151_2
      have hw151_1:=hx151_1
      have hw151_0:=hx151_0
      cases e151
      replace hx151_0:=cl HB hx151_0
      replace hx151_1:=cl HB hx151_1
      replace hx151_2:=cl HB hx151_2
      replace p151:=eq_true p151
      replace q151:=eq_true q151
      have p152:0≤(x5_1:Int):=od
      have q152:x5_1 < (l1.length:Int):=od
      obtain ⟨ad152,e152,hx152_0,hx152_1,hx152_2⟩:=at_T30 HR1.out x5_1 p152 q152
      have hw152_2:=hx152_2
      have hw152_1:=hx152_1
      have hw152_0:=hx152_0
      cases e152
      replace hx152_0:=cl HB hx152_0
      replace hx152_1:=cl HB hx152_1
      replace hx152_2:=cl HB hx152_2
      replace p152:=eq_true p152
      replace q152:=eq_true q152
      refine start_ (n:=10) (S:=fun w'=>w'.cell? (ad151.add ((x5_1).toNat * 3))=some (.int .i64 ((rd_T30 l0 x5_1).f0))∧w'.cell? ⟨(ad151.add ((x5_1).toNat * 3)).block,(ad151.add ((x5_1).toNat * 3)).off + 1,none⟩=some (.int .i64 ((rd_T30 l0 x5_1).f1))∧w'.cell? ⟨(ad151.add ((x5_1).toNat * 3)).block,(ad151.add ((x5_1).toNat * 3)).off + 2,none⟩=some (.int .i64 ((rd_T30 l0 x5_1).f2))∧w'.cell? (ad152.add ((x5_1).toNat * 3))=some (.int .i64 ((rd_T30 l1 x5_1).f0))∧w'.cell? ⟨(ad152.add ((x5_1).toNat * 3)).block,(ad152.add ((x5_1).toNat * 3)).off + 1,none⟩=some (.int .i64 ((rd_T30 l1 x5_1).f1))∧w'.cell? ⟨(ad152.add ((x5_1).toNat * 3)).block,(ad152.add ((x5_1).toNat * 3)).off + 2,none⟩=some (.int .i64 ((rd_T30 l1 x5_1).f2))) (ds:=[]) (bs 10 0) (by kernel_rfl) rfl rfl ⟨(cl HB hw151_0),(cl HB hw151_1),(cl HB hw151_2),(cl HB hw152_0),(cl HB hw152_1),(cl HB hw152_2)⟩ (fun hHeld=>?_);refine with_tabW laws_eqEventS.tab6 laws_eqEventS.bits6 (fun HT_ HW_=>?_)
      generalize wr.drew=w9 at HB hx151_0 hx151_1 hx151_2 hx152_0 hx152_1 hx152_2 hHeld ⊢
      refine pq 0 17 (bs 10 1) HT_ ?_
      refine pq 1 18 (bs 10 3) HT_ ?_
      refine pq 2 19 (bs 10 7) HT_ ?_
      refine pq 4 21 (bs 10 23) HT_ ?_
      refine pq 5 22 (bs 10 55) HT_ ?_
      refine pq 6 23 (bs 10 119) HT_ ?_
      refine tq 3 20 (bs 10 127) HT_ HW_ hHeld ?_
      refine tq 7 24 (bs 10 255) HT_ HW_ hHeld ?_
      refine one_ (i:=8) (N:=some 25) (bs 10 511) rfl rfl (one_of HT_.out (by kernel_rfl)) (by decide) (fun K hK=>?_)
      refine goes_ Try.func18 (by kernel_rfl) rfl #[.agg #[.int .i64 ((rd_T30 l0 x5_1).f0),.int .i64 ((rd_T30 l0 x5_1).f1),.int .i64 ((rd_T30 l0 x5_1).f2)],.agg #[.int .i64 ((rd_T30 l1 x5_1).f0),.int .i64 ((rd_T30 l1 x5_1).f1),.int .i64 ((rd_T30 l1 x5_1).f2)]] (by rfl) rfl rfl (by (try simp only [List.map_toArray,List.map_cons,List.map_nil]);first|done|rfl|(simp only [List.length_drop,List.length_take];rfl)) ?_
      with_reducible refine (laws_eqEvent.calls ((rd_T30 l0 x5_1).f0) ((rd_T30 l0 x5_1).f1) ((rd_T30 l0 x5_1).f2) ((rd_T30 l1 x5_1).f0) ((rd_T30 l1 x5_1).f1) ((rd_T30 l1 x5_1).f2) true _ A7.out).mono ?_
      rintro e w10 ⟨rfl,hb⟩
      refine ⟨_,rfl,?_⟩
      replace HB:=Aside0.mk (below_step bl hb)
      (try clear hb)
      (try clear hb2)
      (try clear hk)
      (try clear hi)
      refine hK.out _ _ ⟨(cl HB hw151_0),(cl HB hw151_1),(cl HB hw151_2),(cl HB hw152_0),(cl HB hw152_1),(cl HB hw152_2)⟩ (fun hHeld=>?_)
      clear hK K
      refine nrm ?_
      refine pq 9 26 (bs 10 1023) HT_ ?_
      refine done_ (done_of HT_.out (by kernel_rfl)) ?_
      try go_wp2
      go_roundg k1
      case measure=>have:=HK1.out;omega
      case rel=>exact ⟨(wrap64 (x5_1 + 1)),(by first|rfl|(simp;done)|(simp [*];done)),H',⟨by have:=HK1.out;omega⟩,⟨bl⟩⟩
     ·replace c8:=Bool.eq_false_iff.mpr c8
      subst c8
      rw [if_neg nft] at H
      exact absurd H (by simp)
    ·rw [if_neg c4] at H
     have c4b0:decide (x5_1 < (l0.length:Int))=false:=decide_eq_false c4
     clear c4
     obtain rfl:=Option.some.inj H
     go_wp2
     go_ret
     exact ⟨er,bl⟩
 ·rw [if_neg c3] at H
  exact absurd H (by simp)

/-! ### laws_FnExactOneHolder: function 3 -/
def laws_FnExactOneHolder.f (k:Nat) (l0:List (S35)):Option (Bool):=(laws_szEventS.f l0 1048576).bind fun t154=>(if t154 < 0 then (some true) else ((laws_toEventS.f k l0).bind fun t155=>((spec_OneHolder.f k t155).bind fun t158=>((laws_toEventS.f k l0).bind fun t159=>((impl_OneHolder.f k t159).bind fun t162=>(if (t162 != t158)=true then (none) else ((laws_toEventS.f k l0).bind fun t163=>((laws_eqEventS.f k t159 t163).bind fun t166=>(if t166=true then (some true) else (none))))))))))
theorem laws_FnExactOneHolder.mono:∀ a0 k,LeO (laws_FnExactOneHolder.f k a0) (laws_FnExactOneHolder.f (k + 1) a0):=by
 intro a0 k
 unfold laws_FnExactOneHolder.f
 repeat' first
   | (with_reducible exact impl_OneHolder.mono _ _)
   | (with_reducible exact laws_eqEventS.mono _ _ _)
   | (with_reducible exact laws_toEventS.mono _ _)
   | (with_reducible exact spec_OneHolder.mono _ _)
   | (with_reducible exact LeO.refl _)
   | (with_reducible exact LeO.none _)
   | (with_reducible refine LeO.ite ?_ ?_)
   | (with_reducible refine LeO.bind ?_ (fun _=>?_))
   | exact impl_OneHolder.mono _ _
   | exact laws_eqEventS.mono _ _ _
   | exact laws_toEventS.mono _ _
   | exact spec_OneHolder.mono _ _
   | exact LeO.none _
   | refine LeO.ite ?_ ?_
   | refine LeO.bind ?_ (fun _=>?_)
set_option maxHeartbeats 8000000 in
set_option maxRecDepth 100000 in
theorem laws_FnExactOneHolder.calls (k:Nat) (A0:Option Addr) (c0:Nat) (l0:List (S35)) (r:Bool) (w:World) (hr0:Kd.C k35 w A0 l0.length l0) (hc0:l0.length≤c0) (h:laws_FnExactOneHolder.f k l0=some r) :
  Calls Try.prog 3 #[.slice A0 l0.length c0] w fun e w'=>e = .returned (.bool r)∧Below w.heap.size w w':=by
 have HR0:=Aside0.mk hr0
 have HC0:=Aside0.mk hc0
 clear hr0 hc0
 have HB:=Aside0.mk (Below.refl w.heap.size w)
 have H:((laws_szEventS.f l0 1048576).bind fun t154=>(if t154 < 0 then (some true) else ((laws_toEventS.f k l0).bind fun t155=>((spec_OneHolder.f k t155).bind fun t158=>((laws_toEventS.f k l0).bind fun t159=>((impl_OneHolder.f k t159).bind fun t162=>(if (t162 != t158)=true then (none) else ((laws_toEventS.f k l0).bind fun t163=>((laws_eqEventS.f k t159 t163).bind fun t166=>(if t166=true then (some true) else (none)))))))))))=some r:=h
 clear h
 replace H:=Option.bind_eq_some_iff.mp H
 obtain ⟨t154,A20,H⟩:=H
 have A2:=Aside0.mk A20
 clear A20
 by_cases c3:t154 < 0
 ·rw [if_pos c3] at H
  have c3b0:decide (t154 < 0)=true:=decide_eq_true c3
  clear c3
  obtain rfl:=Option.some.inj H
  go_enter Try.func3,Try.ntmps3
  go_wp2_with (first|((with_reducible refine gate_callee (f:=5) rfl ?_);refine gl (some 9) Try.func5 #[.slice A0 l0.length c0,.int .i64 1048576] ?_;(with_reducible refine (laws_szEventS.calls _ _ l0 1048576 t154 _ ?side1 ?side2 A2.out).mono ?_);(case side1=>repeat (first|exact HR0.out|(with_reducible refine Kd.C_alloc ?_ _)|(with_reducible refine Kd.C_drewN ?_ _)|(with_reducible refine Kd.C_drew ?_)));(case side2=>exact HC0.out);rintro e w' ⟨rfl,⟨nd,rfl⟩⟩;refine ⟨_,rfl,?_⟩))
  go_ret
  exact ⟨er,bl⟩
 ·rw [if_neg c3] at H
  have c3b0:decide (t154 < 0)=false:=decide_eq_false c3
  clear c3
  replace H:=Option.bind_eq_some_iff.mp H
  obtain ⟨t155,A40,H⟩:=H
  have A4:=Aside0.mk A40
  clear A40
  replace H:=Option.bind_eq_some_iff.mp H
  obtain ⟨t158,A50,H⟩:=H
  have A5:=Aside0.mk A50
  clear A50
  replace H:=Option.bind_eq_some_iff.mp H
  obtain ⟨t159,A60,H⟩:=H
  have A6:=Aside0.mk A60
  clear A60
  replace H:=Option.bind_eq_some_iff.mp H
  obtain ⟨t162,A70,H⟩:=H
  have A7:=Aside0.mk A70
  clear A70
  by_cases c8:(t162 != t158)=true
  ·rw [if_pos c8] at H
   exact absurd H (by simp)
  ·rw [if_neg c8] at H
   have c8b0:(t162 != t158)=false:=by simpa using c8
   (try (have c8b1:decide (t162=t158)=true:=by simpa using c8))
   (try (have c8b2:(t162 == t158)=true:=by simpa using c8))
   clear c8
   replace H:=Option.bind_eq_some_iff.mp H
   obtain ⟨t163,A90,H⟩:=H
   have A9:=Aside0.mk A90
   clear A90
   replace H:=Option.bind_eq_some_iff.mp H
   obtain ⟨t166,A100,H⟩:=H
   have A10:=Aside0.mk A100
   clear A100
   by_cases c11:t166=true
   ·subst c11
    rw [if_pos rfl] at H
    obtain rfl:=Option.some.inj H
    go_enter Try.func3,Try.ntmps3
    go_wp2_with (first|((with_reducible refine gate_callee (f:=5) rfl ?_);refine gl (some 9) Try.func5 #[.slice A0 l0.length c0,.int .i64 1048576] ?_;(with_reducible refine (laws_szEventS.calls _ _ l0 1048576 t154 _ ?side1 ?side2 A2.out).mono ?_);(case side1=>repeat (first|exact HR0.out|(with_reducible refine Kd.C_alloc ?_ _)|(with_reducible refine Kd.C_drewN ?_ _)|(with_reducible refine Kd.C_drew ?_)));(case side2=>exact HC0.out);rintro e w' ⟨rfl,⟨nd,rfl⟩⟩;refine ⟨_,rfl,?_⟩)|((with_reducible refine gate_callee (f:=7) rfl ?_);refine gl (some 13) Try.func7 #[.slice A0 l0.length c0] ?_;(with_reducible refine (laws_toEventS.calls k _ _ l0 t155 _ ?side1 ?side2 A4.out).mono ?_);(case side1=>repeat (first|exact HR0.out|(with_reducible refine Kd.C_alloc ?_ _)|(with_reducible refine Kd.C_drewN ?_ _)|(with_reducible refine Kd.C_drew ?_)));(case side2=>exact HC0.out);rintro e w12 ⟨v156,rfl,ho0,hb⟩;refine ⟨_,rfl,?_⟩;have HO157:=Aside0.mk (Kd.R_lower ho0 (below_size bl));replace HB:=Aside0.mk (below_step bl hb);(try clear hb);(try clear hb2);(try clear hk);(try clear hi);(try clear ho0);obtain ⟨Ao13,co13,eo13⟩:=Kd.R_slice HO157.out;subst eo13)|((with_reducible refine gate_callee (f:=6) rfl ?_);refine gl (some 14) Try.func6 #[.slice Ao13 t155.length co13] ?_;(with_reducible refine (spec_OneHolder.calls k _ _ t155 t158 _ ?side1 ?side2 A5.out).mono ?_);(case side1=>repeat (first|exact (Kd.R_reads' HO157.out).2.2|(with_reducible refine Kd.C_alloc ?_ _)|(with_reducible refine Kd.C_drewN ?_ _)|(with_reducible refine Kd.C_drew ?_)));(case side2=>exact (Kd.R_reads' HO157.out).2.1);rintro e w14 ⟨rfl,hb⟩;refine ⟨_,rfl,?_⟩;replace HO157:=Aside0.mk (Kd.R_below (kr HO157) hb);replace HB:=Aside0.mk (below_step bl hb);(try clear hb);(try clear hb2);(try clear hk);(try clear hi))|((with_reducible refine gate_callee (f:=7) rfl ?_);refine gl (some 16) Try.func7 #[.slice A0 l0.length c0] ?_;(with_reducible refine (laws_toEventS.calls k _ _ l0 t159 _ ?side1 ?side2 A6.out).mono ?_);(case side1=>exact kc HR0);(case side2=>exact HC0.out);rintro e w15 ⟨v160,rfl,ho0,hb⟩;refine ⟨_,rfl,?_⟩;have HO161:=Aside0.mk (Kd.R_lower (Kd.R_new' ho0 (Kd.R_lt (kr HO157))) (below_size bl));replace HO157:=Aside0.mk (Kd.R_elder' (kr HO157) (Kd.R_base ho0) hb);replace HB:=Aside0.mk (below_step bl hb);(try clear hb);(try clear hb2);(try clear hk);(try clear hi);(try clear ho0);obtain ⟨Ao16,co16,eo16⟩:=Kd.R_slice HO161.out;subst eo16)|((with_reducible refine gate_callee (f:=8) rfl ?_);refine gl (some 18) Try.func8 #[.slice Ao16 t159.length co16] ?_;(with_reducible refine (impl_OneHolder.calls k _ _ t159 t162 _ ?side1 ?side2 A7.out).mono ?_);(case side1=>repeat (first|exact (Kd.R_reads' HO161.out).2.2|(with_reducible refine Kd.C_alloc ?_ _)|(with_reducible refine Kd.C_drewN ?_ _)|(with_reducible refine Kd.C_drew ?_)));(case side2=>exact (Kd.R_reads' HO161.out).2.1);rintro e w17 ⟨rfl,hb⟩;refine ⟨_,rfl,?_⟩;replace HO157:=Aside0.mk (Kd.R_below (kr HO157) hb);replace HO161:=Aside0.mk (Kd.R_below (kr HO161) hb);replace HB:=Aside0.mk (below_step bl hb);(try clear hb);(try clear hb2);(try clear hk);(try clear hi))|((with_reducible refine gate_callee (f:=7) rfl ?_);refine gl (some 24) Try.func7 #[.slice A0 l0.length c0] ?_;(with_reducible refine (laws_toEventS.calls k _ _ l0 t163 _ ?side1 ?side2 A9.out).mono ?_);(case side1=>exact kc HR0);(case side2=>exact HC0.out);rintro e w18 ⟨v164,rfl,ho0,hb⟩;refine ⟨_,rfl,?_⟩;have HO165:=Aside0.mk (Kd.R_lower (Kd.R_new' (Kd.R_new' ho0 (Kd.R_lt (kr HO157))) (Kd.R_lt (kr HO161))) (below_size bl));replace HO157:=Aside0.mk (Kd.R_elder' (kr HO157) (Kd.R_base ho0) hb);replace HO161:=Aside0.mk (Kd.R_elder' (kr HO161) (Kd.R_base ho0) hb);replace HB:=Aside0.mk (below_step bl hb);(try clear hb);(try clear hb2);(try clear hk);(try clear hi);(try clear ho0);obtain ⟨Ao19,co19,eo19⟩:=Kd.R_slice HO165.out;subst eo19)|((with_reducible refine gate_callee (f:=9) rfl ?_);refine gl (some 25) Try.func9 #[.slice Ao16 t159.length co16,.slice Ao19 t163.length co19] ?_;(with_reducible refine (laws_eqEventS.calls k _ _ t159 _ _ t163 true _ ?side1 ?side2 ?side3 ?side4 A10.out).mono ?_);(case side1=>repeat (first|exact (Kd.R_reads' HO161.out).2.2|(with_reducible refine Kd.C_alloc ?_ _)|(with_reducible refine Kd.C_drewN ?_ _)|(with_reducible refine Kd.C_drew ?_)));(case side2=>exact (Kd.R_reads' HO161.out).2.1);(case side3=>repeat (first|exact (Kd.R_reads' HO165.out).2.2|(with_reducible refine Kd.C_alloc ?_ _)|(with_reducible refine Kd.C_drewN ?_ _)|(with_reducible refine Kd.C_drew ?_)));(case side4=>exact (Kd.R_reads' HO165.out).2.1);rintro e w20 ⟨rfl,hb⟩;refine ⟨_,rfl,?_⟩;replace HO157:=Aside0.mk (Kd.R_below (kr HO157) hb);replace HO161:=Aside0.mk (Kd.R_below (kr HO161) hb);replace HO165:=Aside0.mk (Kd.R_below (kr HO165) hb);replace HB:=Aside0.mk (below_step bl hb);(try clear hb);(try clear hb2);(try clear hk);(try clear hi)))
    go_ret
    exact ⟨er,bl⟩
   ·replace c11:=Bool.eq_false_iff.mpr c11
    subst c11
    rw [if_neg nft] at H
    exact absurd H (by simp)

end Go.Proofs.Ytciehpgbhfngiaa.PFnExactOneHolder
