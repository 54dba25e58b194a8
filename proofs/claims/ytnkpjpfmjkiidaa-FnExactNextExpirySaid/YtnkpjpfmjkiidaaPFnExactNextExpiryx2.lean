/- Contracts of functions of the given program: what each call answers. Written by a program of this session, out of the text of the functions. -/
import Derived.Test.YtnkpjpfmjkiidaaPFnExactNextExpiryx0
import Derived.Test.YtnkpjpfmjkiidaaPFnExactNextExpiryx1
import Derived.Test.YtnkpjpfmjkiidaaZFnExactNextExpiry
namespace Go.Proofs.Ytnkpjpfmjkiidaa.PFnExactNextExpiry
open Go.RowKit Go.Proofs.YtnkpjpfmjkiidaaW.PrintWords Go.Proofs.YtnkpjpfmjkiidaaW.PrintLast Go.Proofs.YtnkpjpfmjkiidaaW.PrintMore Go.Proofs.Ytnkpjpfmjkiidaa.Giv Go.Proofs.Ytnkpjpfmjkiidaa.Prs
attribute [local go_sem] max2_int min2_int max_two min_two max_three min_three max_four min_four   -- for this text's walks alone
set_option linter.unusedVariables false
set_option linter.unusedSimpArgs false

/-! ### laws_eqSlotS: function 56 -/
def laws_eqSlotS.l0:Nat→List (S97)→List (S97)→Int→Option (Bool)
 | 0,_,_,_=>none
 | k + 1,x0,x1,x5=>if x5 < (x0.length:Int) then (if 0≤x5 then (if x5 < (x1.length:Int) then ((laws_eqSlot.f ((rd_T97 x0 x5).f0) ((rd_T97 x0 x5).f1) ((rd_T97 x0 x5).f2) ((rd_T97 x0 x5).f3) ((rd_T97 x1 x5).f0) ((rd_T97 x1 x5).f1) ((rd_T97 x1 x5).f2) ((rd_T97 x1 x5).f3)).bind fun t161=>(if t161=true then (laws_eqSlotS.l0 k x0 x1 (wrap64 (x5 + 1))) else (none))) else (none)) else (none)) else (some true)
def laws_eqSlotS.f (k:Nat) (l0:List (S97)) (l1:List (S97)):Option (Bool):=if (l0.length:Int)=(l1.length:Int) then (laws_eqSlotS.l0 k l0 l1 0) else (none)
theorem laws_eqSlotS.mono_l:∀ k,(∀ y0 y1 y2,LeO (laws_eqSlotS.l0 k y0 y1 y2) (laws_eqSlotS.l0 (k + 1) y0 y1 y2))
 | 0=>fun _ _ _ r h=>by simp [laws_eqSlotS.l0] at h
 | k + 1=>by
  have ih0:=laws_eqSlotS.mono_l k
  ·intro y0 y1 y2
   unfold laws_eqSlotS.l0
   repeat' first
   | (with_reducible exact ih0 _ _ _)
   | (with_reducible exact LeO.refl _)
   | (with_reducible exact LeO.none _)
   | (with_reducible refine LeO.ite ?_ ?_)
   | (with_reducible refine LeO.bind ?_ (fun _=>?_))
   | exact ih0 _ _ _
   | exact LeO.none _
   | refine LeO.ite ?_ ?_
   | refine LeO.bind ?_ (fun _=>?_)
theorem laws_eqSlotS.mono:∀ a0 a1 k,LeO (laws_eqSlotS.f k a0 a1) (laws_eqSlotS.f (k + 1) a0 a1):=by
 intro a0 a1 k
 have ih0:=laws_eqSlotS.mono_l k
 unfold laws_eqSlotS.f
 repeat' first
   | (with_reducible exact ih0 _ _ _)
   | (with_reducible exact LeO.refl _)
   | (with_reducible exact LeO.none _)
   | (with_reducible refine LeO.ite ?_ ?_)
   | (with_reducible refine LeO.bind ?_ (fun _=>?_))
   | exact ih0 _ _ _
   | exact LeO.none _
   | refine LeO.ite ?_ ?_
   | refine LeO.bind ?_ (fun _=>?_)
def laws_eqSlotS.T6:Bool × List (List Nat × List Nat):=(true,[([],[]),([],[]),([0,1],[0,1]),([2],[2]),([],[]),([],[]),([4,5],[4,5]),([6],[6]),([3,7],[3,7]),([8],[8])])
def laws_eqSlotS.B6:List Nat:=[0,0,3,7,0,0,48,112,255,511]
theorem laws_eqSlotS.tab6:rtab .any (opsOf Try.f56 6)=laws_eqSlotS.T6:=by kernel_rfl
theorem laws_eqSlotS.bits6:waitsOk laws_eqSlotS.T6.2 laws_eqSlotS.B6=true:=by kernel_rfl
set_option maxHeartbeats 8000000 in
set_option maxRecDepth 100000 in
theorem laws_eqSlotS.calls (k:Nat) (A0:Option Addr) (c0:Nat) (l0:List (S97)) (A1:Option Addr) (c1:Nat) (l1:List (S97)) (r:Bool) (w:World) (hr0:Kd.C k97 w A0 l0.length l0) (hc0:l0.length≤c0) (hr1:Kd.C k97 w A1 l1.length l1) (hc1:l1.length≤c1) (h:laws_eqSlotS.f k l0 l1=some r) :
  Calls Try.prog 56 #[.slice A0 l0.length c0,.slice A1 l1.length c1] w fun e w'=>e = .returned (.bool r)∧Below w.heap.size w w':=by
 have hu97:=Try.underlying97
 have HR0:=Aside0.mk hr0
 have HC0:=Aside0.mk hc0
 clear hr0 hc0
 have HR1:=Aside0.mk hr1
 have HC1:=Aside0.mk hc1
 clear hr1 hc1
 have HB:=Aside0.mk (Below.refl w.heap.size w)
 have H:(if (l0.length:Int)=(l1.length:Int) then (laws_eqSlotS.l0 k l0 l1 0) else (none))=some r:=h
 clear h
 by_cases c3:(l0.length:Int)=(l1.length:Int)
 ·rw [if_pos c3] at H
  have c3b0:((l0.length:Int) == (l1.length:Int))=true:=beq_iff_eq.mpr c3
  have c3b1:((l0.length:Int) != (l1.length:Int))=false:=bne_eq_false_iff_eq.mpr c3
  have c3b2:(l0.length == l1.length)=true:=by first|simpa using c3|(simp at c3 ⊢;omega)
  clear c3
  have H':=Aside0.mk H
  clear H
  go_enter Try.func56,Try.ntmps56
  go_wp2
  go_loopg [5] k (fun kq v5 w'=>∃ (x5_1:Int),v5 = .int .i64 x5_1∧Aside0 (laws_eqSlotS.l0 kq l0 l1 x5_1=some r)∧Aside0 (kq≤k)∧Aside0 (Below w.heap.size w w'))
  case atStart=>exact ⟨(0),(by first|rfl|(simp;done)|(simp [*];done)),H',⟨Nat.le_refl _⟩,⟨bl⟩⟩
  case round =>
   clear H'
   try clear c1
   try clear p2
   try clear c3
   try clear c3b0
   try clear c3b1
   try clear c3b2
   obtain ⟨x5_1,rfl,HA,HK1,HB⟩:=hrel
   cases gk with
   | zero=>exact absurd HA.out (by simp [laws_eqSlotS.l0])
   | succ k1 =>
    have H:=HA.out
    clear HA
    simp only [laws_eqSlotS.l0] at H
    by_cases c4:x5_1 < (l0.length:Int)
    ·rw [if_pos c4] at H
     have c4b0:decide (x5_1 < (l0.length:Int))=true:=decide_eq_true c4
     clear c4
     by_cases c5:0≤x5_1
     case neg =>
      rw [if_neg c5] at H
      exact absurd H (by simp)
     rw [if_pos c5] at H
     have c5b0:decide (0≤x5_1)=true:=decide_eq_true c5
     clear c5
     by_cases c6:x5_1 < (l1.length:Int)
     case neg =>
      rw [if_neg c6] at H
      exact absurd H (by simp)
     rw [if_pos c6] at H
     have c6b0:decide (x5_1 < (l1.length:Int))=true:=decide_eq_true c6
     clear c6
     replace H:=Option.bind_eq_some_iff.mp H
     obtain ⟨t161,A70,H⟩:=H
     have A7:=Aside0.mk A70
     clear A70
     by_cases c8:t161=true
     ·subst c8
      rw [if_pos rfl] at H
      have H':=Aside0.mk H
      clear H
      try go_wp2
      replace HB:=Aside0.mk (below_drew1 HB.out)
      have p159:0≤(x5_1:Int):=od
      have q159:x5_1 < (l0.length:Int):=od
      obtain ⟨ad159,e159,hx159_0,hx159_1,hx159_2,hx159_3⟩:=at_T97 HR0.out x5_1 p159 q159
      have hw159_3:=hx159_3
      have hw159_2:=hx159_2
      have hw159_1:=hx159_1
      have hw159_0:=hx159_0
      cases e159
      replace hx159_0:=cl HB hx159_0
      replace hx159_1:=cl HB hx159_1
      replace hx159_2:=cl HB hx159_2
      replace hx159_3:=cl HB hx159_3
      replace p159:=eq_true p159
      replace q159:=eq_true q159
      have p160:0≤(x5_1:Int):=od
      have q160:x5_1 < (l1.length:Int):=od
      obtain ⟨ad160,e160,hx160_0,hx160_1,hx160_2,hx160_3⟩:=at_T97 HR1.out x5_1 p160 q160
      have hw160_3:=hx160_3
      have hw160_2:=hx160_2
      have hw160_1:=hx160_1
      have hw160_0:=hx160_0
      cases e160
      replace hx160_0:=cl HB hx160_0
      replace hx160_1:=cl HB hx160_1
      replace hx160_2:=cl HB hx160_2
      replace hx160_3:=cl HB hx160_3
      replace p160:=eq_true p160
      replace q160:=eq_true q160
      refine start_ (n:=10) (S:=fun w'=>w'.cell? (ad159.add ((x5_1).toNat * 4))=some (.int .i64 ((rd_T97 l0 x5_1).f0))∧w'.cell? ⟨(ad159.add ((x5_1).toNat * 4)).block,(ad159.add ((x5_1).toNat * 4)).off + 1,none⟩=some (.int .i64 ((rd_T97 l0 x5_1).f1))∧w'.cell? ⟨(ad159.add ((x5_1).toNat * 4)).block,(ad159.add ((x5_1).toNat * 4)).off + 2,none⟩=some (.int .i64 ((rd_T97 l0 x5_1).f2))∧w'.cell? ⟨(ad159.add ((x5_1).toNat * 4)).block,(ad159.add ((x5_1).toNat * 4)).off + 3,none⟩=some (.bool ((rd_T97 l0 x5_1).f3))∧w'.cell? (ad160.add ((x5_1).toNat * 4))=some (.int .i64 ((rd_T97 l1 x5_1).f0))∧w'.cell? ⟨(ad160.add ((x5_1).toNat * 4)).block,(ad160.add ((x5_1).toNat * 4)).off + 1,none⟩=some (.int .i64 ((rd_T97 l1 x5_1).f1))∧w'.cell? ⟨(ad160.add ((x5_1).toNat * 4)).block,(ad160.add ((x5_1).toNat * 4)).off + 2,none⟩=some (.int .i64 ((rd_T97 l1 x5_1).f2))∧w'.cell? ⟨(ad160.add ((x5_1).toNat * 4)).block,(ad160.add ((x5_1).toNat * 4)).off + 3,none⟩=some (.bool ((rd_T97 l1 x5_1).f3))) (ds:=[]) (bs 10 0) (by kernel_rfl) rfl rfl ⟨(cl HB hw159_0),(cl HB hw159_1),(cl HB hw159_2),(cl HB hw159_3),(cl HB hw160_0),(cl HB hw160_1),(cl HB hw160_2),(cl HB hw160_3)⟩ (fun hHeld=>?_);refine with_tabW laws_eqSlotS.tab6 laws_eqSlotS.bits6 (fun HT_ HW_=>?_)
      generalize wr.drew=w9 at HB hx159_0 hx159_1 hx159_2 hx159_3 hx160_0 hx160_1 hx160_2 hx160_3 hHeld ⊢
      refine pq 0 17 (bs 10 1) HT_ ?_
      refine pq 1 18 (bs 10 3) HT_ ?_
      refine pq 2 19 (bs 10 7) HT_ ?_
      refine pq 4 21 (bs 10 23) HT_ ?_
      refine pq 5 22 (bs 10 55) HT_ ?_
      refine pq 6 23 (bs 10 119) HT_ ?_
      refine tq 3 20 (bs 10 127) HT_ HW_ hHeld ?_
      refine tq 7 24 (bs 10 255) HT_ HW_ hHeld ?_
      refine one_ (i:=8) (N:=some 25) (bs 10 511) rfl rfl (one_of HT_.out (by kernel_rfl)) (by decide) (fun K hK=>?_)
      refine goes_ Try.func90 (by kernel_rfl) rfl #[.agg #[.int .i64 ((rd_T97 l0 x5_1).f0),.int .i64 ((rd_T97 l0 x5_1).f1),.int .i64 ((rd_T97 l0 x5_1).f2),.bool ((rd_T97 l0 x5_1).f3)],.agg #[.int .i64 ((rd_T97 l1 x5_1).f0),.int .i64 ((rd_T97 l1 x5_1).f1),.int .i64 ((rd_T97 l1 x5_1).f2),.bool ((rd_T97 l1 x5_1).f3)]] (by rfl) rfl rfl (by (try simp only [List.map_toArray,List.map_cons,List.map_nil]);first|done|rfl|(simp only [List.length_drop,List.length_take];rfl)) ?_
      with_reducible refine (laws_eqSlot.calls ((rd_T97 l0 x5_1).f0) ((rd_T97 l0 x5_1).f1) ((rd_T97 l0 x5_1).f2) ((rd_T97 l0 x5_1).f3) ((rd_T97 l1 x5_1).f0) ((rd_T97 l1 x5_1).f1) ((rd_T97 l1 x5_1).f2) ((rd_T97 l1 x5_1).f3) true _ A7.out).mono ?_
      rintro e w10 ⟨rfl,hb⟩
      refine ⟨_,rfl,?_⟩
      replace HB:=Aside0.mk (below_step bl hb)
      (try clear hb)
      (try clear hb2)
      (try clear hk)
      (try clear hi)
      refine hK.out _ _ ⟨(cl HB hw159_0),(cl HB hw159_1),(cl HB hw159_2),(cl HB hw159_3),(cl HB hw160_0),(cl HB hw160_1),(cl HB hw160_2),(cl HB hw160_3)⟩ (fun hHeld=>?_)
      clear hK K
      refine nrm ?_
      refine pq 9 26 (bs 10 1023) HT_ ?_
      refine done_ (done_of HT_.out (by kernel_rfl)) ?_
      try go_wp2
      go_roundg k1
      case measure=>have:=HK1.out;omega
      case rel=>exact ⟨(wrap64 (x5_1 + 1)),(by first|rfl|(simp;done)|(simp [*];done)),H',⟨by have:=HK1.out;omega⟩,⟨bl⟩⟩
     ·replace c8:=Bool.eq_false_iff.mpr c8
      subst c8
      rw [if_neg nft] at H
      exact absurd H (by simp)
    ·rw [if_neg c4] at H
     have c4b0:decide (x5_1 < (l0.length:Int))=false:=decide_eq_false c4
     clear c4
     obtain rfl:=Option.some.inj H
     go_wp2
     go_ret
     exact ⟨er,bl⟩
 ·rw [if_neg c3] at H
  exact absurd H (by simp)

/-! ### laws_eqQueue: function 16 -/
def laws_eqQueue.f (k:Nat) (l0_0:List (S97)) (a0_1:Int) (a0_2:Int) (a0_3:Int) (a0_4:Int) (l1_0:List (S97)) (a1_1:Int) (a1_2:Int) (a1_3:Int) (a1_4:Int):Option (Bool):=(laws_eqSlotS.f k l0_0 l1_0).bind fun t164=>(if t164=true then (if a0_1=a1_1 then (if a0_2=a1_2 then (if a0_3=a1_3 then (if a0_4=a1_4 then (some true) else (none)) else (none)) else (none)) else (none)) else (none))
theorem laws_eqQueue.mono:∀ a0 a1 a2 a3 a4 a5 a6 a7 a8 a9 k,LeO (laws_eqQueue.f k a0 a1 a2 a3 a4 a5 a6 a7 a8 a9) (laws_eqQueue.f (k + 1) a0 a1 a2 a3 a4 a5 a6 a7 a8 a9):=by
 intro a0 a1 a2 a3 a4 a5 a6 a7 a8 a9 k
 unfold laws_eqQueue.f
 repeat' first
   | (with_reducible exact laws_eqSlotS.mono _ _ _)
   | (with_reducible exact LeO.refl _)
   | (with_reducible exact LeO.none _)
   | (with_reducible refine LeO.ite ?_ ?_)
   | (with_reducible refine LeO.bind ?_ (fun _=>?_))
   | exact laws_eqSlotS.mono _ _ _
   | exact LeO.none _
   | refine LeO.ite ?_ ?_
   | refine LeO.bind ?_ (fun _=>?_)
set_option maxHeartbeats 8000000 in
set_option maxRecDepth 100000 in
theorem laws_eqQueue.calls (k:Nat) (A0_0:Option Addr) (c0_0:Nat) (l0_0:List (S97)) (a0_1:Int) (a0_2:Int) (a0_3:Int) (a0_4:Int) (A1_0:Option Addr) (c1_0:Nat) (l1_0:List (S97)) (a1_1:Int) (a1_2:Int) (a1_3:Int) (a1_4:Int) (r:Bool) (w:World) (hr0_0:Kd.C k97 w A0_0 l0_0.length l0_0) (hc0_0:l0_0.length≤c0_0) (hr1_0:Kd.C k97 w A1_0 l1_0.length l1_0) (hc1_0:l1_0.length≤c1_0) (h:laws_eqQueue.f k l0_0 a0_1 a0_2 a0_3 a0_4 l1_0 a1_1 a1_2 a1_3 a1_4=some r) :
  Calls Try.prog 16 #[.agg #[.slice A0_0 l0_0.length c0_0,.int .i64 a0_1,.int .i64 a0_2,.int .i64 a0_3,.int .i64 a0_4],.agg #[.slice A1_0 l1_0.length c1_0,.int .i64 a1_1,.int .i64 a1_2,.int .i64 a1_3,.int .i64 a1_4]] w fun e w'=>e = .returned (.bool r)∧Below w.heap.size w w':=by
 have hu28:=Try.underlying28
 have HR0_0:=Aside0.mk hr0_0
 have HC0_0:=Aside0.mk hc0_0
 clear hr0_0 hc0_0
 have HR1_0:=Aside0.mk hr1_0
 have HC1_0:=Aside0.mk hc1_0
 clear hr1_0 hc1_0
 have HB:=Aside0.mk (Below.refl w.heap.size w)
 have H:((laws_eqSlotS.f k l0_0 l1_0).bind fun t164=>(if t164=true then (if a0_1=a1_1 then (if a0_2=a1_2 then (if a0_3=a1_3 then (if a0_4=a1_4 then (some true) else (none)) else (none)) else (none)) else (none)) else (none)))=some r:=h
 clear h
 replace H:=Option.bind_eq_some_iff.mp H
 obtain ⟨t164,A30,H⟩:=H
 have A3:=Aside0.mk A30
 clear A30
 by_cases c4:t164=true
 ·subst c4
  rw [if_pos rfl] at H
  by_cases c5:a0_1=a1_1
  case neg =>
   rw [if_neg c5] at H
   exact absurd H (by simp)
  rw [if_pos c5] at H
  have c5b0:(a0_1 == a1_1)=true:=beq_iff_eq.mpr c5
  have c5b1:(a0_1 != a1_1)=false:=bne_eq_false_iff_eq.mpr c5
  clear c5
  by_cases c6:a0_2=a1_2
  case neg =>
   rw [if_neg c6] at H
   exact absurd H (by simp)
  rw [if_pos c6] at H
  have c6b0:(a0_2 == a1_2)=true:=beq_iff_eq.mpr c6
  have c6b1:(a0_2 != a1_2)=false:=bne_eq_false_iff_eq.mpr c6
  clear c6
  by_cases c7:a0_3=a1_3
  case neg =>
   rw [if_neg c7] at H
   exact absurd H (by simp)
  rw [if_pos c7] at H
  have c7b0:(a0_3 == a1_3)=true:=beq_iff_eq.mpr c7
  have c7b1:(a0_3 != a1_3)=false:=bne_eq_false_iff_eq.mpr c7
  clear c7
  by_cases c8:a0_4=a1_4
  case neg =>
   rw [if_neg c8] at H
   exact absurd H (by simp)
  rw [if_pos c8] at H
  have c8b0:(a0_4 == a1_4)=true:=beq_iff_eq.mpr c8
  have c8b1:(a0_4 != a1_4)=false:=bne_eq_false_iff_eq.mpr c8
  clear c8
  obtain rfl:=Option.some.inj H
  go_enter Try.func16,Try.ntmps16
  go_wp2_with (first|((with_reducible refine gate_dst (N:=2) rfl ?_);refine bx 2 #[.slice A0_0 l0_0.length c0_0,.int .i64 a0_1,.int .i64 a0_2,.int .i64 a0_3,.int .i64 a0_4] 28 ?_;intro gb162 hg w9 hbox hb;have BK162:=Aside0.mk (hbox);have GW162:=Aside0.mk (bz hg:w.heap.size≤gb162);have GE162:=GW162;replace HB:=Aside0.mk (below_step bl hb);clear hb hbox hg)|((with_reducible refine gate_dst (N:=3) rfl ?_);refine bx 3 #[.slice A1_0 l1_0.length c1_0,.int .i64 a1_1,.int .i64 a1_2,.int .i64 a1_3,.int .i64 a1_4] 28 ?_;intro gb163 hg w10 hbox hb;have BK163:=Aside0.mk (hbox);have GW163:=Aside0.mk (bz hg:w.heap.size≤gb163);have GE163:=GW163;replace HB:=Aside0.mk (below_step bl hb);have NB162_163:=Aside0.mk (nl hg BK162:gb162≠gb163);have NB163_162:=Aside0.mk (nr hg BK162:gb163≠gb162);replace BK162:=Aside0.mk (blk_below (bk BK162) hb);clear hb hbox hg;have hnb11:=NB162_163.out;have hnc11:=NB163_162.out;obtain ⟨hcz12_0,hcz12_1,hcz12_2,hcz12_3,hcz12_4,hfz12_0,hfz12_1,hfz12_2,hfz12_3,hfz12_4⟩:=ck5 BK162.out;obtain ⟨hcz13_0,hcz13_1,hcz13_2,hcz13_3,hcz13_4,hfz13_0,hfz13_1,hfz13_2,hfz13_3,hfz13_4⟩:=ck5 BK163.out)|((with_reducible refine gate_callee (f:=56) rfl ?_);refine gl (some 9) Try.func56 #[.slice A0_0 l0_0.length c0_0,.slice A1_0 l1_0.length c1_0] ?_;(with_reducible refine (laws_eqSlotS.calls k _ _ l0_0 _ _ l1_0 true _ ?side1 ?side2 ?side3 ?side4 A3.out).mono ?_);(case side1=>exact kc HR0_0);(case side2=>exact HC0_0.out);(case side3=>exact kc HR1_0);(case side4=>exact HC1_0.out);rintro e w14 ⟨rfl,hb⟩;refine ⟨_,rfl,?_⟩;replace BK162:=Aside0.mk (blk_below (bk BK162) hb);replace BK163:=Aside0.mk (blk_below (bk BK163) hb);replace HB:=Aside0.mk (below_step bl hb);(try clear hb);(try clear hb2);(try clear hk);(try clear hi);obtain ⟨hcz15_0,hcz15_1,hcz15_2,hcz15_3,hcz15_4,hfz15_0,hfz15_1,hfz15_2,hfz15_3,hfz15_4⟩:=ck5 BK162.out;obtain ⟨hcz16_0,hcz16_1,hcz16_2,hcz16_3,hcz16_4,hfz16_0,hfz16_1,hfz16_2,hfz16_3,hfz16_4⟩:=ck5 BK163.out))
  go_ret
  exact ⟨er,bl⟩
 ·replace c4:=Bool.eq_false_iff.mpr c4
  subst c4
  rw [if_neg nft] at H
  exact absurd H (by simp)

/-! ### laws_eqDue: function 114 -/
def laws_eqDue.f (a0_0:Int) (a0_1:Int) (a0_2:Int) (a1_0:Int) (a1_1:Int) (a1_2:Int):Option (Bool):=if a0_0=a1_0 then (if a0_1=a1_1 then (if a0_2=a1_2 then (some true) else (none)) else (none)) else (none)
set_option maxHeartbeats 8000000 in
set_option maxRecDepth 100000 in
theorem laws_eqDue.calls (a0_0:Int) (a0_1:Int) (a0_2:Int) (a1_0:Int) (a1_1:Int) (a1_2:Int) (r:Bool) (w:World) (h:laws_eqDue.f a0_0 a0_1 a0_2 a1_0 a1_1 a1_2=some r) :
  Calls Try.prog 114 #[.agg #[.int .i64 a0_0,.int .i64 a0_1,.int .i64 a0_2],.agg #[.int .i64 a1_0,.int .i64 a1_1,.int .i64 a1_2]] w fun e w'=>e = .returned (.bool r)∧Below w.heap.size w w':=by
 have hu86:=Try.underlying86
 have HB:=Aside0.mk (Below.refl w.heap.size w)
 have H:(if a0_0=a1_0 then (if a0_1=a1_1 then (if a0_2=a1_2 then (some true) else (none)) else (none)) else (none))=some r:=h
 clear h
 by_cases c3:a0_0=a1_0
 ·rw [if_pos c3] at H
  have c3b0:(a0_0 == a1_0)=true:=beq_iff_eq.mpr c3
  have c3b1:(a0_0 != a1_0)=false:=bne_eq_false_iff_eq.mpr c3
  clear c3
  by_cases c4:a0_1=a1_1
  case neg =>
   rw [if_neg c4] at H
   exact absurd H (by simp)
  rw [if_pos c4] at H
  have c4b0:(a0_1 == a1_1)=true:=beq_iff_eq.mpr c4
  have c4b1:(a0_1 != a1_1)=false:=bne_eq_false_iff_eq.mpr c4
  clear c4
  by_cases c5:a0_2=a1_2
  case neg =>
   rw [if_neg c5] at H
   exact absurd H (by simp)
  rw [if_pos c5] at H
  have c5b0:(a0_2 == a1_2)=true:=beq_iff_eq.mpr c5
  have c5b1:(a0_2 != a1_2)=false:=bne_eq_false_iff_eq.mpr c5
  clear c5
  obtain rfl:=Option.some.inj H
  go_enter Try.func114,Try.ntmps114
  go_wp2_with (first|((with_reducible refine gate_dst (N:=2) rfl ?_);refine bx 2 #[.int .i64 a0_0,.int .i64 a0_1,.int .i64 a0_2] 86 ?_;intro gb165 hg w6 hbox hb;have BK165:=Aside0.mk (hbox);have GW165:=Aside0.mk (bz hg:w.heap.size≤gb165);have GE165:=GW165;replace HB:=Aside0.mk (below_step bl hb);clear hb hbox hg)|((with_reducible refine gate_dst (N:=3) rfl ?_);refine bx 3 #[.int .i64 a1_0,.int .i64 a1_1,.int .i64 a1_2] 86 ?_;intro gb166 hg w7 hbox hb;have BK166:=Aside0.mk (hbox);have GW166:=Aside0.mk (bz hg:w.heap.size≤gb166);have GE166:=GW166;replace HB:=Aside0.mk (below_step bl hb);have NB165_166:=Aside0.mk (nl hg BK165:gb165≠gb166);have NB166_165:=Aside0.mk (nr hg BK165:gb166≠gb165);replace BK165:=Aside0.mk (blk_below (bk BK165) hb);clear hb hbox hg;have hnb8:=NB165_166.out;have hnc8:=NB166_165.out;obtain ⟨hcz9_0,hcz9_1,hcz9_2,hfz9_0,hfz9_1,hfz9_2⟩:=ck3 BK165.out;obtain ⟨hcz10_0,hcz10_1,hcz10_2,hfz10_0,hfz10_1,hfz10_2⟩:=ck3 BK166.out))
  go_ret
  exact ⟨er,bl⟩
 ·rw [if_neg c3] at H
  exact absurd H (by simp)

/-! ### laws_eqDueS: function 102 -/
def laws_eqDueS.l0:Nat→List (S86)→List (S86)→Int→Option (Bool)
 | 0,_,_,_=>none
 | k + 1,x0,x1,x5=>if x5 < (x0.length:Int) then (if 0≤x5 then (if x5 < (x1.length:Int) then ((laws_eqDue.f ((rd_T86 x0 x5).f0) ((rd_T86 x0 x5).f1) ((rd_T86 x0 x5).f2) ((rd_T86 x1 x5).f0) ((rd_T86 x1 x5).f1) ((rd_T86 x1 x5).f2)).bind fun t169=>(if t169=true then (laws_eqDueS.l0 k x0 x1 (wrap64 (x5 + 1))) else (none))) else (none)) else (none)) else (some true)
def laws_eqDueS.f (k:Nat) (l0:List (S86)) (l1:List (S86)):Option (Bool):=if (l0.length:Int)=(l1.length:Int) then (laws_eqDueS.l0 k l0 l1 0) else (none)
theorem laws_eqDueS.mono_l:∀ k,(∀ y0 y1 y2,LeO (laws_eqDueS.l0 k y0 y1 y2) (laws_eqDueS.l0 (k + 1) y0 y1 y2))
 | 0=>fun _ _ _ r h=>by simp [laws_eqDueS.l0] at h
 | k + 1=>by
  have ih0:=laws_eqDueS.mono_l k
  ·intro y0 y1 y2
   unfold laws_eqDueS.l0
   repeat' first
   | (with_reducible exact ih0 _ _ _)
   | (with_reducible exact LeO.refl _)
   | (with_reducible exact LeO.none _)
   | (with_reducible refine LeO.ite ?_ ?_)
   | (with_reducible refine LeO.bind ?_ (fun _=>?_))
   | exact ih0 _ _ _
   | exact LeO.none _
   | refine LeO.ite ?_ ?_
   | refine LeO.bind ?_ (fun _=>?_)
theorem laws_eqDueS.mono:∀ a0 a1 k,LeO (laws_eqDueS.f k a0 a1) (laws_eqDueS.f (k + 1) a0 a1):=by
 intro a0 a1 k
 have ih0:=laws_eqDueS.mono_l k
 unfold laws_eqDueS.f
 repeat' first
   | (with_reducible exact ih0 _ _ _)
   | (with_reducible exact LeO.refl _)
   | (with_reducible exact LeO.none _)
   | (with_reducible refine LeO.ite ?_ ?_)
   | (with_reducible refine LeO.bind ?_ (fun _=>?_))
   | exact ih0 _ _ _
   | exact LeO.none _
   | refine LeO.ite ?_ ?_
   | refine LeO.bind ?_ (fun _=>?_)
def laws_eqDueS.T6:Bool × List (List Nat × List Nat):=(true,[([],[]),([],[]),([0,1],[0,1]),([2],[2]),([],[]),([],[]),([4,5],[4,5]),([6],[6]),([3,7],[3,7]),([8],[8])])
def laws_eqDueS.B6:List Nat:=[0,0,3,7,0,0,48,112,255,511]
theorem laws_eqDueS.tab6:rtab .any (opsOf Try.f102 6)=laws_eqDueS.T6:=by kernel_rfl
theorem laws_eqDueS.bits6:waitsOk laws_eqDueS.T6.2 laws_eqDueS.B6=true:=by kernel_rfl
set_option maxHeartbeats 8000000 in
set_option maxRecDepth 100000 in
theorem laws_eqDueS.calls (k:Nat) (A0:Option Addr) (c0:Nat) (l0:List (S86)) (A1:Option Addr) (c1:Nat) (l1:List (S86)) (r:Bool) (w:World) (hr0:Kd.C k86 w A0 l0.length l0) (hc0:l0.length≤c0) (hr1:Kd.C k86 w A1 l1.length l1) (hc1:l1.length≤c1) (h:laws_eqDueS.f k l0 l1=some r) :
  Calls Try.prog 102 #[.slice A0 l0.length c0,.slice A1 l1.length c1] w fun e w'=>e = .returned (.bool r)∧Below w.heap.size w w':=by
 have hu86:=Try.underlying86
 have HR0:=Aside0.mk hr0
 have HC0:=Aside0.mk hc0
 clear hr0 hc0
 have HR1:=Aside0.mk hr1
 have HC1:=Aside0.mk hc1
 clear hr1 hc1
 have HB:=Aside0.mk (Below.refl w.heap.size w)
 have H:(if (l0.length:Int)=(l1.length:Int) then (laws_eqDueS.l0 k l0 l1 0) else (none))=some r:=h
 clear h
 by_cases c3:(l0.length:Int)=(l1.length:Int)
 ·rw [if_pos c3] at H
  have c3b0:((l0.length:Int) == (l1.length:Int))=true:=beq_iff_eq.mpr c3
  have c3b1:((l0.length:Int) != (l1.length:Int))=false:=bne_eq_false_iff_eq.mpr c3
  have c3b2:(l0.length == l1.length)=true:=by first|simpa using c3|(simp at c3 ⊢;omega)
  clear c3
  have H':=Aside0.mk H
  clear H
  go_enter Try.func102,Try.ntmps102
  go_wp2
  go_loopg [5] k (fun kq v5 w'=>∃ (x5_1:Int),v5 = .int .i64 x5_1∧Aside0 (laws_eqDueS.l0 kq l0 l1 x5_1=some r)∧Aside0 (kq≤k)∧Aside0 (Below w.heap.size w w'))
  case atStart=>exact ⟨(0),(by first|rfl|(simp;done)|(simp [*];done)),H',⟨Nat.le_refl _⟩,⟨bl⟩⟩
  case round =>
   clear H'
   try clear c1
   try clear p2
   try clear c3
   try clear c3b0
   try clear c3b1
   try clear c3b2
   obtain ⟨x5_1,rfl,HA,HK1,HB⟩:=hrel
   cases gk with
   | zero=>exact absurd HA.out (by simp [laws_eqDueS.l0])
   | succ k1 =>
    have H:=HA.out
    clear HA
    simp only [laws_eqDueS.l0] at H
    by_cases c4:x5_1 < (l0.length:Int)
    ·rw [if_pos c4] at H
     have c4b0:decide (x5_1 < (l0.length:Int))=true:=decide_eq_true c4
     clear c4
     by_cases c5:0≤x5_1
     case neg =>
      rw [if_neg c5] at H
      exact absurd H (by simp)
     rw [if_pos c5] at H
     have c5b0:decide (0≤x5_1)=true:=decide_eq_true c5
     clear c5
     by_cases c6:x5_1 < (l1.length:Int)
     case neg =>
      rw [if_neg c6] at H
      exact absurd H (by simp)
     rw [if_pos c6] at H
     have c6b0:decide (x5_1 < (l1.length:Int))=true:=decide_eq_true c6
     clear c6
     replace H:=Option.bind_eq_some_iff.mp H
     obtain ⟨t169,A70,H⟩:=H
     have A7:=Aside0.mk A70
     clear A70
     by_cases c8:t169=true
     ·subst c8
      rw [if_pos rfl] at H
      have H':=Aside0.mk H
      clear H
      try go_wp2
      replace HB:=Aside0.mk (below_drew1 HB.out)
      have p167:0≤(x5_1:Int):=od
      have q167:x5_1 < (l0.length:Int):=od
      obtain ⟨ad167,e167,hx167_0,hx167_1,hx167_2⟩:=at_T86 HR0.out x5_1 p167 q167
      have hw167_2:=hx167_2
      have hw167_1:=hx167_1
      have hw167_0:=hx167_0
      cases e167
      replace hx167_0:=cl HB hx167_0
      replace hx167_1:=cl HB hx167_1
      replace hx167_2:=cl HB hx167_2
      replace p167:=eq_true p167
      replace q167:=eq_true q167
      have p168:0≤(x5_1:Int):=od
      have q168:x5_1 < (l1.length:Int):=od
      obtain ⟨ad168,e168,hx168_0,hx168_1,hx168_2⟩:=at_T86 HR1.out x5_1 p168 q168
      have hw168_2:=hx168_2
      have hw168_1:=hx168_1
      have hw168_0:=hx168_0
      cases e168
      replace hx168_0:=cl HB hx168_0
      replace hx168_1:=cl HB hx168_1
      replace hx168_2:=cl HB hx168_2
      replace p168:=eq_true p168
      replace q168:=eq_true q168
      refine start_ (n:=10) (S:=fun w'=>w'.cell? (ad167.add ((x5_1).toNat * 3))=some (.int .i64 ((rd_T86 l0 x5_1).f0))∧w'.cell? ⟨(ad167.add ((x5_1).toNat * 3)).block,(ad167.add ((x5_1).toNat * 3)).off + 1,none⟩=some (.int .i64 ((rd_T86 l0 x5_1).f1))∧w'.cell? ⟨(ad167.add ((x5_1).toNat * 3)).block,(ad167.add ((x5_1).toNat * 3)).off + 2,none⟩=some (.int .i64 ((rd_T86 l0 x5_1).f2))∧w'.cell? (ad168.add ((x5_1).toNat * 3))=some (.int .i64 ((rd_T86 l1 x5_1).f0))∧w'.cell? ⟨(ad168.add ((x5_1).toNat * 3)).block,(ad168.add ((x5_1).toNat * 3)).off + 1,none⟩=some (.int .i64 ((rd_T86 l1 x5_1).f1))∧w'.cell? ⟨(ad168.add ((x5_1).toNat * 3)).block,(ad168.add ((x5_1).toNat * 3)).off + 2,none⟩=some (.int .i64 ((rd_T86 l1 x5_1).f2))) (ds:=[]) (bs 10 0) (by kernel_rfl) rfl rfl ⟨(cl HB hw167_0),(cl HB hw167_1),(cl HB hw167_2),(cl HB hw168_0),(cl HB hw168_1),(cl HB hw168_2)⟩ (fun hHeld=>?_);refine with_tabW laws_eqDueS.tab6 laws_eqDueS.bits6 (fun HT_ HW_=>?_)
      generalize wr.drew=w9 at HB hx167_0 hx167_1 hx167_2 hx168_0 hx168_1 hx168_2 hHeld ⊢
      refine pq 0 17 (bs 10 1) HT_ ?_
      refine pq 1 18 (bs 10 3) HT_ ?_
      refine pq 2 19 (bs 10 7) HT_ ?_
      refine pq 4 21 (bs 10 23) HT_ ?_
      refine pq 5 22 (bs 10 55) HT_ ?_
      refine pq 6 23 (bs 10 119) HT_ ?_
      refine tq 3 20 (bs 10 127) HT_ HW_ hHeld ?_
      refine tq 7 24 (bs 10 255) HT_ HW_ hHeld ?_
      refine one_ (i:=8) (N:=some 25) (bs 10 511) rfl rfl (one_of HT_.out (by kernel_rfl)) (by decide) (fun K hK=>?_)
      refine goes_ Try.func114 (by kernel_rfl) rfl #[.agg #[.int .i64 ((rd_T86 l0 x5_1).f0),.int .i64 ((rd_T86 l0 x5_1).f1),.int .i64 ((rd_T86 l0 x5_1).f2)],.agg #[.int .i64 ((rd_T86 l1 x5_1).f0),.int .i64 ((rd_T86 l1 x5_1).f1),.int .i64 ((rd_T86 l1 x5_1).f2)]] (by rfl) rfl rfl (by (try simp only [List.map_toArray,List.map_cons,List.map_nil]);first|done|rfl|(simp only [List.length_drop,List.length_take];rfl)) ?_
      with_reducible refine (laws_eqDue.calls ((rd_T86 l0 x5_1).f0) ((rd_T86 l0 x5_1).f1) ((rd_T86 l0 x5_1).f2) ((rd_T86 l1 x5_1).f0) ((rd_T86 l1 x5_1).f1) ((rd_T86 l1 x5_1).f2) true _ A7.out).mono ?_
      rintro e w10 ⟨rfl,hb⟩
      refine ⟨_,rfl,?_⟩
      replace HB:=Aside0.mk (below_step bl hb)
      (try clear hb)
      (try clear hb2)
      (try clear hk)
      (try clear hi)
      refine hK.out _ _ ⟨(cl HB hw167_0),(cl HB hw167_1),(cl HB hw167_2),(cl HB hw168_0),(cl HB hw168_1),(cl HB hw168_2)⟩ (fun hHeld=>?_)
      clear hK K
      refine nrm ?_
      refine pq 9 26 (bs 10 1023) HT_ ?_
      refine done_ (done_of HT_.out (by kernel_rfl)) ?_
      try go_wp2
      go_roundg k1
      case measure=>have:=HK1.out;omega
      case rel=>exact ⟨(wrap64 (x5_1 + 1)),(by first|rfl|(simp;done)|(simp [*];done)),H',⟨by have:=HK1.out;omega⟩,⟨bl⟩⟩
     ·replace c8:=Bool.eq_false_iff.mpr c8
      subst c8
      rw [if_neg nft] at H
      exact absurd H (by simp)
    ·rw [if_neg c4] at H
     have c4b0:decide (x5_1 < (l0.length:Int))=false:=decide_eq_false c4
     clear c4
     obtain rfl:=Option.some.inj H
     go_wp2
     go_ret
     exact ⟨er,bl⟩
 ·rw [if_neg c3] at H
  exact absurd H (by simp)

/-! ### laws_eqHeap: function 69 -/
def laws_eqHeap.f (k:Nat) (l0_0:List (S86)) (a0_1:Int) (l1_0:List (S86)) (a1_1:Int):Option (Bool):=(laws_eqDueS.f k l0_0 l1_0).bind fun t172=>(if t172=true then (if a0_1=a1_1 then (some true) else (none)) else (none))
theorem laws_eqHeap.mono:∀ a0 a1 a2 a3 k,LeO (laws_eqHeap.f k a0 a1 a2 a3) (laws_eqHeap.f (k + 1) a0 a1 a2 a3):=by
 intro a0 a1 a2 a3 k
 unfold laws_eqHeap.f
 repeat' first
   | (with_reducible exact laws_eqDueS.mono _ _ _)
   | (with_reducible exact LeO.refl _)
   | (with_reducible exact LeO.none _)
   | (with_reducible refine LeO.ite ?_ ?_)
   | (with_reducible refine LeO.bind ?_ (fun _=>?_))
   | exact laws_eqDueS.mono _ _ _
   | exact LeO.none _
   | refine LeO.ite ?_ ?_
   | refine LeO.bind ?_ (fun _=>?_)
set_option maxHeartbeats 8000000 in
set_option maxRecDepth 100000 in
theorem laws_eqHeap.calls (k:Nat) (A0_0:Option Addr) (c0_0:Nat) (l0_0:List (S86)) (a0_1:Int) (A1_0:Option Addr) (c1_0:Nat) (l1_0:List (S86)) (a1_1:Int) (r:Bool) (w:World) (hr0_0:Kd.C k86 w A0_0 l0_0.length l0_0) (hc0_0:l0_0.length≤c0_0) (hr1_0:Kd.C k86 w A1_0 l1_0.length l1_0) (hc1_0:l1_0.length≤c1_0) (h:laws_eqHeap.f k l0_0 a0_1 l1_0 a1_1=some r) :
  Calls Try.prog 69 #[.agg #[.slice A0_0 l0_0.length c0_0,.int .i64 a0_1],.agg #[.slice A1_0 l1_0.length c1_0,.int .i64 a1_1]] w fun e w'=>e = .returned (.bool r)∧Below w.heap.size w w':=by
 have hu44:=Try.underlying44
 have HR0_0:=Aside0.mk hr0_0
 have HC0_0:=Aside0.mk hc0_0
 clear hr0_0 hc0_0
 have HR1_0:=Aside0.mk hr1_0
 have HC1_0:=Aside0.mk hc1_0
 clear hr1_0 hc1_0
 have HB:=Aside0.mk (Below.refl w.heap.size w)
 have H:((laws_eqDueS.f k l0_0 l1_0).bind fun t172=>(if t172=true then (if a0_1=a1_1 then (some true) else (none)) else (none)))=some r:=h
 clear h
 replace H:=Option.bind_eq_some_iff.mp H
 obtain ⟨t172,A30,H⟩:=H
 have A3:=Aside0.mk A30
 clear A30
 by_cases c4:t172=true
 ·subst c4
  rw [if_pos rfl] at H
  by_cases c5:a0_1=a1_1
  case neg =>
   rw [if_neg c5] at H
   exact absurd H (by simp)
  rw [if_pos c5] at H
  have c5b0:(a0_1 == a1_1)=true:=beq_iff_eq.mpr c5
  have c5b1:(a0_1 != a1_1)=false:=bne_eq_false_iff_eq.mpr c5
  clear c5
  obtain rfl:=Option.some.inj H
  go_enter Try.func69,Try.ntmps69
  go_wp2_with (first|((with_reducible refine gate_dst (N:=2) rfl ?_);refine bx 2 #[.slice A0_0 l0_0.length c0_0,.int .i64 a0_1] 44 ?_;intro gb170 hg w6 hbox hb;have BK170:=Aside0.mk (hbox);have GW170:=Aside0.mk (bz hg:w.heap.size≤gb170);have GE170:=GW170;replace HB:=Aside0.mk (below_step bl hb);clear hb hbox hg)|((with_reducible refine gate_dst (N:=3) rfl ?_);refine bx 3 #[.slice A1_0 l1_0.length c1_0,.int .i64 a1_1] 44 ?_;intro gb171 hg w7 hbox hb;have BK171:=Aside0.mk (hbox);have GW171:=Aside0.mk (bz hg:w.heap.size≤gb171);have GE171:=GW171;replace HB:=Aside0.mk (below_step bl hb);have NB170_171:=Aside0.mk (nl hg BK170:gb170≠gb171);have NB171_170:=Aside0.mk (nr hg BK170:gb171≠gb170);replace BK170:=Aside0.mk (blk_below (bk BK170) hb);clear hb hbox hg;have hnb8:=NB170_171.out;have hnc8:=NB171_170.out;obtain ⟨hcz9_0,hcz9_1,hfz9_0,hfz9_1⟩:=ck2 BK170.out;obtain ⟨hcz10_0,hcz10_1,hfz10_0,hfz10_1⟩:=ck2 BK171.out)|((with_reducible refine gate_callee (f:=102) rfl ?_);refine gl (some 9) Try.func102 #[.slice A0_0 l0_0.length c0_0,.slice A1_0 l1_0.length c1_0] ?_;(with_reducible refine (laws_eqDueS.calls k _ _ l0_0 _ _ l1_0 true _ ?side1 ?side2 ?side3 ?side4 A3.out).mono ?_);(case side1=>exact kc HR0_0);(case side2=>exact HC0_0.out);(case side3=>exact kc HR1_0);(case side4=>exact HC1_0.out);rintro e w11 ⟨rfl,hb⟩;refine ⟨_,rfl,?_⟩;replace BK170:=Aside0.mk (blk_below (bk BK170) hb);replace BK171:=Aside0.mk (blk_below (bk BK171) hb);replace HB:=Aside0.mk (below_step bl hb);(try clear hb);(try clear hb2);(try clear hk);(try clear hi);obtain ⟨hcz12_0,hcz12_1,hfz12_0,hfz12_1⟩:=ck2 BK170.out;obtain ⟨hcz13_0,hcz13_1,hfz13_0,hfz13_1⟩:=ck2 BK171.out))
  go_ret
  exact ⟨er,bl⟩
 ·replace c4:=Bool.eq_false_iff.mpr c4
  subst c4
  rw [if_neg nft] at H
  exact absurd H (by simp)

/-! ### laws_eqLine: function 23 -/
def laws_eqLine.f (k:Nat) (l0_0:List (S97)) (a0_1:Int) (a0_2:Int) (a0_3:Int) (a0_4:Int) (l0_5:List (S86)) (a0_6:Int) (l1_0:List (S97)) (a1_1:Int) (a1_2:Int) (a1_3:Int) (a1_4:Int) (l1_5:List (S86)) (a1_6:Int):Option (Bool):=(laws_eqQueue.f k l0_0 a0_1 a0_2 a0_3 a0_4 l1_0 a1_1 a1_2 a1_3 a1_4).bind fun t175=>(if t175=true then ((laws_eqHeap.f k l0_5 a0_6 l1_5 a1_6).bind fun t176=>(if t176=true then (some true) else (none))) else (none))
theorem laws_eqLine.mono:∀ a0 a1 a2 a3 a4 a5 a6 a7 a8 a9 a10 a11 a12 a13 k,LeO (laws_eqLine.f k a0 a1 a2 a3 a4 a5 a6 a7 a8 a9 a10 a11 a12 a13) (laws_eqLine.f (k + 1) a0 a1 a2 a3 a4 a5 a6 a7 a8 a9 a10 a11 a12 a13):=by
 intro a0 a1 a2 a3 a4 a5 a6 a7 a8 a9 a10 a11 a12 a13 k
 unfold laws_eqLine.f
 repeat' first
   | (with_reducible exact laws_eqHeap.mono _ _ _ _ _)
   | (with_reducible exact laws_eqQueue.mono _ _ _ _ _ _ _ _ _ _ _)
   | (with_reducible exact LeO.refl _)
   | (with_reducible exact LeO.none _)
   | (with_reducible refine LeO.ite ?_ ?_)
   | (with_reducible refine LeO.bind ?_ (fun _=>?_))
   | exact laws_eqHeap.mono _ _ _ _ _
   | exact laws_eqQueue.mono _ _ _ _ _ _ _ _ _ _ _
   | exact LeO.none _
   | refine LeO.ite ?_ ?_
   | refine LeO.bind ?_ (fun _=>?_)
set_option maxHeartbeats 8000000 in
set_option maxRecDepth 100000 in
theorem laws_eqLine.calls (k:Nat) (A0_0:Option Addr) (c0_0:Nat) (l0_0:List (S97)) (a0_1:Int) (a0_2:Int) (a0_3:Int) (a0_4:Int) (A0_5:Option Addr) (c0_5:Nat) (l0_5:List (S86)) (a0_6:Int) (A1_0:Option Addr) (c1_0:Nat) (l1_0:List (S97)) (a1_1:Int) (a1_2:Int) (a1_3:Int) (a1_4:Int) (A1_5:Option Addr) (c1_5:Nat) (l1_5:List (S86)) (a1_6:Int) (r:Bool) (w:World) (hr0_0:Kd.C k97 w A0_0 l0_0.length l0_0) (hc0_0:l0_0.length≤c0_0) (hr0_5:Kd.C k86 w A0_5 l0_5.length l0_5) (hc0_5:l0_5.length≤c0_5) (hr1_0:Kd.C k97 w A1_0 l1_0.length l1_0) (hc1_0:l1_0.length≤c1_0) (hr1_5:Kd.C k86 w A1_5 l1_5.length l1_5) (hc1_5:l1_5.length≤c1_5) (h:laws_eqLine.f k l0_0 a0_1 a0_2 a0_3 a0_4 l0_5 a0_6 l1_0 a1_1 a1_2 a1_3 a1_4 l1_5 a1_6=some r) :
  Calls Try.prog 23 #[.agg #[.slice A0_0 l0_0.length c0_0,.int .i64 a0_1,.int .i64 a0_2,.int .i64 a0_3,.int .i64 a0_4,.slice A0_5 l0_5.length c0_5,.int .i64 a0_6],.agg #[.slice A1_0 l1_0.length c1_0,.int .i64 a1_1,.int .i64 a1_2,.int .i64 a1_3,.int .i64 a1_4,.slice A1_5 l1_5.length c1_5,.int .i64 a1_6]] w fun e w'=>e = .returned (.bool r)∧Below w.heap.size w w':=by
 have hu46:=Try.underlying46
 have hu28:=Try.underlying28
 have hu44:=Try.underlying44
 have HR0_0:=Aside0.mk hr0_0
 have HC0_0:=Aside0.mk hc0_0
 clear hr0_0 hc0_0
 have HR0_5:=Aside0.mk hr0_5
 have HC0_5:=Aside0.mk hc0_5
 clear hr0_5 hc0_5
 have HR1_0:=Aside0.mk hr1_0
 have HC1_0:=Aside0.mk hc1_0
 clear hr1_0 hc1_0
 have HR1_5:=Aside0.mk hr1_5
 have HC1_5:=Aside0.mk hc1_5
 clear hr1_5 hc1_5
 have HB:=Aside0.mk (Below.refl w.heap.size w)
 have H:((laws_eqQueue.f k l0_0 a0_1 a0_2 a0_3 a0_4 l1_0 a1_1 a1_2 a1_3 a1_4).bind fun t175=>(if t175=true then ((laws_eqHeap.f k l0_5 a0_6 l1_5 a1_6).bind fun t176=>(if t176=true then (some true) else (none))) else (none)))=some r:=h
 clear h
 replace H:=Option.bind_eq_some_iff.mp H
 obtain ⟨t175,A30,H⟩:=H
 have A3:=Aside0.mk A30
 clear A30
 by_cases c4:t175=true
 ·subst c4
  rw [if_pos rfl] at H
  replace H:=Option.bind_eq_some_iff.mp H
  obtain ⟨t176,A50,H⟩:=H
  have A5:=Aside0.mk A50
  clear A50
  by_cases c6:t176=true
  ·subst c6
   rw [if_pos rfl] at H
   obtain rfl:=Option.some.inj H
   go_enter Try.func23,Try.ntmps23
   go_wp2_with (first|((with_reducible refine gate_dst (N:=2) rfl ?_);refine bx 2 #[.slice A0_0 l0_0.length c0_0,.int .i64 a0_1,.int .i64 a0_2,.int .i64 a0_3,.int .i64 a0_4,.slice A0_5 l0_5.length c0_5,.int .i64 a0_6] 46 ?_;intro gb173 hg w7 hbox hb;have BK173:=Aside0.mk (hbox);have GW173:=Aside0.mk (bz hg:w.heap.size≤gb173);have GE173:=GW173;replace HB:=Aside0.mk (below_step bl hb);clear hb hbox hg)|((with_reducible refine gate_dst (N:=3) rfl ?_);refine bx 3 #[.slice A1_0 l1_0.length c1_0,.int .i64 a1_1,.int .i64 a1_2,.int .i64 a1_3,.int .i64 a1_4,.slice A1_5 l1_5.length c1_5,.int .i64 a1_6] 46 ?_;intro gb174 hg w8 hbox hb;have BK174:=Aside0.mk (hbox);have GW174:=Aside0.mk (bz hg:w.heap.size≤gb174);have GE174:=GW174;replace HB:=Aside0.mk (below_step bl hb);have NB173_174:=Aside0.mk (nl hg BK173:gb173≠gb174);have NB174_173:=Aside0.mk (nr hg BK173:gb174≠gb173);replace BK173:=Aside0.mk (blk_below (bk BK173) hb);clear hb hbox hg;have hnb9:=NB173_174.out;have hnc9:=NB174_173.out;obtain ⟨hcz10_0,hcz10_1,hcz10_2,hcz10_3,hcz10_4,hcz10_5,hcz10_6,hfz10_0,hfz10_1,hfz10_2,hfz10_3,hfz10_4,hfz10_5,hfz10_6⟩:=ck7 BK173.out;obtain ⟨hcz11_0,hcz11_1,hcz11_2,hcz11_3,hcz11_4,hcz11_5,hcz11_6,hfz11_0,hfz11_1,hfz11_2,hfz11_3,hfz11_4,hfz11_5,hfz11_6⟩:=ck7 BK174.out)|((with_reducible refine gate_callee (f:=16) rfl ?_);refine gl (some 9) Try.func16 #[.agg #[.slice A0_0 l0_0.length c0_0,.int .i64 a0_1,.int .i64 a0_2,.int .i64 a0_3,.int .i64 a0_4],.agg #[.slice A1_0 l1_0.length c1_0,.int .i64 a1_1,.int .i64 a1_2,.int .i64 a1_3,.int .i64 a1_4]] ?_;(with_reducible refine (laws_eqQueue.calls k _ _ l0_0 a0_1 a0_2 a0_3 a0_4 _ _ l1_0 a1_1 a1_2 a1_3 a1_4 true _ ?side1 ?side2 ?side3 ?side4 A3.out).mono ?_);(case side1=>exact kc HR0_0);(case side2=>exact HC0_0.out);(case side3=>exact kc HR1_0);(case side4=>exact HC1_0.out);rintro e w12 ⟨rfl,hb⟩;refine ⟨_,rfl,?_⟩;replace BK173:=Aside0.mk (blk_below (bk BK173) hb);replace BK174:=Aside0.mk (blk_below (bk BK174) hb);replace HB:=Aside0.mk (below_step bl hb);(try clear hb);(try clear hb2);(try clear hk);(try clear hi);obtain ⟨hcz13_0,hcz13_1,hcz13_2,hcz13_3,hcz13_4,hcz13_5,hcz13_6,hfz13_0,hfz13_1,hfz13_2,hfz13_3,hfz13_4,hfz13_5,hfz13_6⟩:=ck7 BK173.out;obtain ⟨hcz14_0,hcz14_1,hcz14_2,hcz14_3,hcz14_4,hcz14_5,hcz14_6,hfz14_0,hfz14_1,hfz14_2,hfz14_3,hfz14_4,hfz14_5,hfz14_6⟩:=ck7 BK174.out)|((with_reducible refine gate_callee (f:=69) rfl ?_);refine gl (some 15) Try.func69 #[.agg #[.slice A0_5 l0_5.length c0_5,.int .i64 a0_6],.agg #[.slice A1_5 l1_5.length c1_5,.int .i64 a1_6]] ?_;(with_reducible refine (laws_eqHeap.calls k _ _ l0_5 a0_6 _ _ l1_5 a1_6 true _ ?side1 ?side2 ?side3 ?side4 A5.out).mono ?_);(case side1=>exact kc HR0_5);(case side2=>exact HC0_5.out);(case side3=>exact kc HR1_5);(case side4=>exact HC1_5.out);rintro e w15 ⟨rfl,hb⟩;refine ⟨_,rfl,?_⟩;replace BK173:=Aside0.mk (blk_below (bk BK173) hb);replace BK174:=Aside0.mk (blk_below (bk BK174) hb);replace HB:=Aside0.mk (below_step bl hb);(try clear hb);(try clear hb2);(try clear hk);(try clear hi)))
   go_ret
   exact ⟨er,bl⟩
  ·replace c6:=Bool.eq_false_iff.mpr c6
   subst c6
   rw [if_neg nft] at H
   exact absurd H (by simp)
 ·replace c4:=Bool.eq_false_iff.mpr c4
  subst c4
  rw [if_neg nft] at H
  exact absurd H (by simp)

/-! ### spec_l01In: function 83 -/
def spec_l01In.f (a0:Int) (a1:Int) (a2:Int):Option (Bool):=if a1≤a0 then (some (decide (a0≤a2))) else (some false)
set_option maxHeartbeats 8000000 in
set_option maxRecDepth 100000 in
theorem spec_l01In.calls (a0:Int) (a1:Int) (a2:Int) (r:Bool) (w:World) (h:spec_l01In.f a0 a1 a2=some r) :
  Calls Try.prog 83 #[.int .i64 a0,.int .i64 a1,.int .i64 a2] w fun e w'=>e = .returned (.bool r)∧Drawn0 w w':=by
 have H:(if a1≤a0 then (some (decide (a0≤a2))) else (some false))=some r:=h
 clear h
 by_cases c4:a1≤a0
 ·rw [if_pos c4] at H
  have c4b0:decide (a1≤a0)=true:=decide_eq_true c4
  clear c4
  obtain rfl:=Option.some.inj H
  go_enter Try.func83,Try.ntmps83
  go_wp2
  go_ret
  exact ⟨by first|rfl|(simp;done)|(simp [*];done),by repeat (first|exact Drawn0.refl _|apply Drawn0.step)⟩
 ·rw [if_neg c4] at H
  have c4b0:decide (a1≤a0)=false:=decide_eq_false c4
  clear c4
  obtain rfl:=Option.some.inj H
  go_enter Try.func83,Try.ntmps83
  go_wp2
  go_ret
  exact ⟨by first|rfl|(simp;done)|(simp [*];done),by repeat (first|exact Drawn0.refl _|apply Drawn0.step)⟩

/-! ### spec_l01Has: function 92 -/
def spec_l01Has.l0:Nat→List Int→Int→Int→Option (Bool)
 | 0,_,_,_=>none
 | k + 1,x0,x1,x5=>if x5 < (x0.length:Int) then (if 0≤x5 then (if (rd x0 x5)=x1 then (some true) else (spec_l01Has.l0 k x0 x1 (wrap64 (x5 + 1)))) else (none)) else (some false)
def spec_l01Has.f (k:Nat) (l0:List Int) (a1:Int):Option (Bool):=spec_l01Has.l0 k l0 a1 0
theorem spec_l01Has.mono_l:∀ k,(∀ y0 y1 y2,LeO (spec_l01Has.l0 k y0 y1 y2) (spec_l01Has.l0 (k + 1) y0 y1 y2))
 | 0=>fun _ _ _ r h=>by simp [spec_l01Has.l0] at h
 | k + 1=>by
  have ih0:=spec_l01Has.mono_l k
  ·intro y0 y1 y2
   unfold spec_l01Has.l0
   repeat' first
   | (with_reducible exact ih0 _ _ _)
   | (with_reducible exact LeO.refl _)
   | (with_reducible exact LeO.none _)
   | (with_reducible refine LeO.ite ?_ ?_)
   | (with_reducible refine LeO.bind ?_ (fun _=>?_))
   | exact ih0 _ _ _
   | exact LeO.none _
   | refine LeO.ite ?_ ?_
   | refine LeO.bind ?_ (fun _=>?_)
theorem spec_l01Has.mono:∀ a0 a1 k,LeO (spec_l01Has.f k a0 a1) (spec_l01Has.f (k + 1) a0 a1):=by
 intro a0 a1 k
 have ih0:=spec_l01Has.mono_l k
 unfold spec_l01Has.f
 repeat' first
   | (with_reducible exact ih0 _ _ _)
   | (with_reducible exact LeO.refl _)
   | (with_reducible exact LeO.none _)
   | (with_reducible refine LeO.ite ?_ ?_)
   | (with_reducible refine LeO.bind ?_ (fun _=>?_))
   | exact ih0 _ _ _
   | exact LeO.none _
   | refine LeO.ite ?_ ?_
   | refine LeO.bind ?_ (fun _=>?_)
set_option maxHeartbeats 8000000 in
set_option maxRecDepth 100000 in
theorem spec_l01Has.calls (k:Nat) (A0:Option Addr) (c0:Nat) (l0:List Int) (a1:Int) (r:Bool) (w:World) (hr0:Kd.C (Kd.int .i64) w A0 l0.length l0) (hc0:l0.length≤c0) (h:spec_l01Has.f k l0 a1=some r) :
  Calls Try.prog 92 #[.slice A0 l0.length c0,.int .i64 a1] w fun e w'=>e = .returned (.bool r)∧Drawn0 w w':=by
 have HR0:=Aside0.mk hr0
 have HC0:=Aside0.mk hc0
 clear hr0 hc0
 have H:(spec_l01Has.l0 k l0 a1 0)=some r:=h
 clear h
 have H':=Aside0.mk H
 clear H
 go_enter Try.func92,Try.ntmps92
 go_wp2
 go_loopg [5] k (fun kq v5 w'=>∃ (x5_1:Int),v5 = .int .i64 x5_1∧Aside0 (spec_l01Has.l0 kq l0 a1 x5_1=some r)∧Aside0 (kq≤k)∧Drawn0 w w')
 case atStart=>exact ⟨(0),(by first|rfl|(simp;done)|(simp [*];done)),H',⟨Nat.le_refl _⟩,by repeat (first|exact Drawn0.refl _|apply Drawn0.step)⟩
 case round =>
  clear H'
  try clear p2
  obtain ⟨x5_1,rfl,HA,HK1,⟨m1,rfl⟩⟩:=hrel
  cases gk with
  | zero=>exact absurd HA.out (by simp [spec_l01Has.l0])
  | succ k1 =>
   have H:=HA.out
   clear HA
   simp only [spec_l01Has.l0] at H
   by_cases c3:x5_1 < (l0.length:Int)
   ·rw [if_pos c3] at H
    have c3b0:decide (x5_1 < (l0.length:Int))=true:=decide_eq_true c3
    clear c3
    by_cases c4:0≤x5_1
    case neg =>
     rw [if_neg c4] at H
     exact absurd H (by simp)
    rw [if_pos c4] at H
    have c4b0:decide (0≤x5_1)=true:=decide_eq_true c4
    clear c4
    by_cases c5:(rd l0 x5_1)=a1
    ·rw [if_pos c5] at H
     have c5b0:((rd l0 x5_1) == a1)=true:=beq_iff_eq.mpr c5
     have c5b1:((rd l0 x5_1) != a1)=false:=bne_eq_false_iff_eq.mpr c5
     clear c5
     obtain rfl:=Option.some.inj H
     have p177:0≤(x5_1:Int):=od
     have q177:x5_1 < (l0.length:Int):=od
     obtain ⟨ad177,e177,hx177_0⟩:=Kd.at_int HR0.out x5_1 p177 q177
     cases e177
     replace p177:=eq_true p177
     replace q177:=eq_true q177
     go_wp2
     go_ret
     exact ⟨by first|rfl|(simp;done)|(simp [*];done),by repeat (first|exact Drawn0.refl _|apply Drawn0.step)⟩
    ·rw [if_neg c5] at H
     have c5b0:((rd l0 x5_1) == a1)=false:=beq_eq_false_iff_ne.mpr c5
     have c5b1:((rd l0 x5_1) != a1)=true:=bne_iff_ne.mpr c5
     have H':=Aside0.mk H
     clear H
     have p177:0≤(x5_1:Int):=od
     have q177:x5_1 < (l0.length:Int):=od
     obtain ⟨ad177,e177,hx177_0⟩:=Kd.at_int HR0.out x5_1 p177 q177
     cases e177
     replace p177:=eq_true p177
     replace q177:=eq_true q177
     go_wp2
     go_roundg k1
     case measure=>have:=HK1.out;omega
     case rel=>exact ⟨(wrap64 (x5_1 + 1)),(by first|rfl|(simp;done)|(simp [*];done)),H',⟨by have:=HK1.out;omega⟩,by repeat (first|exact Drawn0.refl _|apply Drawn0.step)⟩
   ·rw [if_neg c3] at H
    have c3b0:decide (x5_1 < (l0.length:Int))=false:=decide_eq_false c3
    clear c3
    obtain rfl:=Option.some.inj H
    go_wp2
    go_ret
    exact ⟨by first|rfl|(simp;done)|(simp [*];done),by repeat (first|exact Drawn0.refl _|apply Drawn0.step)⟩

end Go.Proofs.Ytnkpjpfmjkiidaa.PFnExactNextExpiry
