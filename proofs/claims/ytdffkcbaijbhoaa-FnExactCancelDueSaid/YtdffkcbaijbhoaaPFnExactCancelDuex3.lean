/- Contracts of functions of the given program: what each call answers. Written by a program of this session, out of the text of the functions. -/
import Derived.Test.YtdffkcbaijbhoaaPFnExactCancelDuex0
import Derived.Test.YtdffkcbaijbhoaaPrs
namespace Go.Proofs.Ytdffkcbaijbhoaa.PFnExactCancelDue
open Go.RowKit Go.Proofs.YtdffkcbaijbhoaaW.PrintWords Go.Proofs.YtdffkcbaijbhoaaW.PrintLast Go.Proofs.YtdffkcbaijbhoaaW.PrintMore Go.Proofs.Ytdffkcbaijbhoaa.Giv Go.Proofs.Ytdffkcbaijbhoaa.Prs
attribute [local go_sem] max2_int min2_int max_two min_two max_three min_three max_four min_four   -- for this text's walks alone
set_option linter.unusedVariables false
set_option linter.unusedSimpArgs false

/-! ### spec_l03Copy: function 39 -/
def spec_l03Copy.l0:Nat→Int→List (S56)→Int→List (S56)→Int→Option ((List (S56)) × Int)
 | 0,_,_,_,_,_=>none
 | k + 1,x4,x118000,x118001,x120000,x120001=>if x4 < (x118000.length:Int) then (if 0≤x4 then (if x120000.length < 5864062014805 then (spec_l03Copy.l0 k (wrap64 (x4 + 1)) x118000 x118001 (x120000 ++ [(⟨(rd_T56 x118000 x4).f0,(rd_T56 x118000 x4).f1,(rd_T56 x118000 x4).f2⟩:S56)]) x120001) else (none)) else (none)) else (some (x120000,x120001))
def spec_l03Copy.f (k:Nat) (l0_0:List (S56)) (a0_1:Int):Option ((List (S56)) × Int):=spec_l03Copy.l0 k 0 l0_0 a0_1 ([]:List (S56)) a0_1
theorem spec_l03Copy.mono_l:∀ k,(∀ y0 y1 y2 y3 y4,LeO (spec_l03Copy.l0 k y0 y1 y2 y3 y4) (spec_l03Copy.l0 (k + 1) y0 y1 y2 y3 y4))
 | 0=>fun _ _ _ _ _ r h=>by simp [spec_l03Copy.l0] at h
 | k + 1=>by
  have ih0:=spec_l03Copy.mono_l k
  ·intro y0 y1 y2 y3 y4
   unfold spec_l03Copy.l0
   repeat' first
   | (with_reducible exact ih0 _ _ _ _ _)
   | (with_reducible exact LeO.refl _)
   | (with_reducible exact LeO.none _)
   | (with_reducible refine LeO.ite ?_ ?_)
   | (with_reducible refine LeO.bind ?_ (fun _=>?_))
   | exact ih0 _ _ _ _ _
   | exact LeO.none _
   | refine LeO.ite ?_ ?_
   | refine LeO.bind ?_ (fun _=>?_)
theorem spec_l03Copy.mono:∀ a0 a1 k,LeO (spec_l03Copy.f k a0 a1) (spec_l03Copy.f (k + 1) a0 a1):=by
 intro a0 a1 k
 have ih0:=spec_l03Copy.mono_l k
 unfold spec_l03Copy.f
 repeat' first
   | (with_reducible exact ih0 _ _ _ _ _)
   | (with_reducible exact LeO.refl _)
   | (with_reducible exact LeO.none _)
   | (with_reducible refine LeO.ite ?_ ?_)
   | (with_reducible refine LeO.bind ?_ (fun _=>?_))
   | exact ih0 _ _ _ _ _
   | exact LeO.none _
   | refine LeO.ite ?_ ?_
   | refine LeO.bind ?_ (fun _=>?_)
def spec_l03Copy.T5:Bool × List (List Nat × List Nat):=(true,[([],[]),([0],[0]),([],[]),([2],[2]),([],[]),([3,4],[3,4]),([5],[5]),([6],[6]),([1,7],[1,7]),([0,1,2,3,4,5,6,7,8],[]),([9,8,8,0,1,2,3,4,5,6,7,8],[8,9])])
def spec_l03Copy.B5:List Nat:=[0,1,0,4,0,28,60,124,255,511,1023]
theorem spec_l03Copy.tab5:rtab .any (opsOf Try.f39 5)=spec_l03Copy.T5:=by kernel_rfl
theorem spec_l03Copy.bits5:waitsOk spec_l03Copy.T5.2 spec_l03Copy.B5=true:=by kernel_rfl
set_option maxHeartbeats 8000000 in
set_option maxRecDepth 100000 in
theorem spec_l03Copy.calls (k:Nat) (A0_0:Option Addr) (c0_0:Nat) (l0_0:List (S56)) (a0_1:Int) (r1:List (S56)) (r2:Int) (w:World) (hr0_0:Kd.C k56 w A0_0 l0_0.length l0_0) (hc0_0:l0_0.length≤c0_0) (h:spec_l03Copy.f k l0_0 a0_1=some (r1,r2)) :
  Calls Try.prog 39 #[.agg #[.slice A0_0 l0_0.length c0_0,.int .i64 a0_1]] w fun e w'=>∃ v0_:Value,e = .returned (.agg #[v0_,.int .i64 r2])∧Kd.R k56 56 w' w.heap.size (fun _=>True) v0_ r1∧Below w.heap.size w w':=by
 have hu28:=Try.underlying28
 have hu56:=Try.underlying56
 have HR0_0:=Aside0.mk hr0_0
 have HC0_0:=Aside0.mk hc0_0
 clear hr0_0 hc0_0
 have HB:=Aside0.mk (Below.refl w.heap.size w)
 have H:(spec_l03Copy.l0 k 0 l0_0 a0_1 ([]:List (S56)) a0_1)=some (r1,r2):=h
 clear h
 have H':=Aside0.mk H
 clear H
 go_enter Try.func39,Try.ntmps39
 go_wp2_with (first|((with_reducible refine gate_dst (N:=1) rfl ?_);refine bx 1 #[.slice A0_0 l0_0.length c0_0,.int .i64 a0_1] 28 ?_;intro gb117 hg w2 hbox hb;have BK117:=Aside0.mk (hbox);have GW117:=Aside0.mk (bz hg:w.heap.size≤gb117);have GE117:=GW117;replace HB:=Aside0.mk (below_step bl hb);clear hb hbox hg)|((with_reducible refine gate_dst (N:=2) rfl ?_);refine bx 2 #[.slice none 0 0,.int .i64 0] 28 ?_;intro gb118 hg w3 hbox hb;have BK118:=Aside0.mk (hbox);have GW118:=Aside0.mk (bz hg:w.heap.size≤gb118);have GE118:=GW118;replace HB:=Aside0.mk (below_step bl hb);have NB117_118:=Aside0.mk (nl hg BK117:gb117≠gb118);have NB118_117:=Aside0.mk (nr hg BK117:gb118≠gb117);replace BK117:=Aside0.mk (blk_below (bk BK117) hb);clear hb hbox hg;have hnb4:=NB117_118.out;have hnc4:=NB118_117.out;obtain ⟨hcz5_0,hcz5_1,hfz5_0,hfz5_1⟩:=ck2 BK117.out)|((with_reducible refine gate_dst (N:=3) rfl ?_);refine bx 3 #[.slice none 0 0,.int .i64 0] 28 ?_;intro gb119 hg w6 hbox hb;have BK119:=Aside0.mk (hbox);have GW119:=Aside0.mk (bz hg:w.heap.size≤gb119);have GE119:=GW119;replace HB:=Aside0.mk (below_step bl hb);have NB117_119:=Aside0.mk (nl hg BK117:gb117≠gb119);have NB119_117:=Aside0.mk (nr hg BK117:gb119≠gb117);replace BK117:=Aside0.mk (blk_below (bk BK117) hb);have NB118_119:=Aside0.mk (nl hg BK118:gb118≠gb119);have NB119_118:=Aside0.mk (nr hg BK118:gb119≠gb118);replace BK118:=Aside0.mk (blk_below (bk BK118) hb);clear hb hbox hg;have hnb7:=NB119_117.out;have hnc7:=NB117_119.out;have hnb8:=NB119_118.out;have hnc8:=NB118_119.out;obtain ⟨hcz9_0,hcz9_1,hfz9_0,hfz9_1⟩:=ck2 BK119.out))
 (try simp only [Act.put,List.setIfInBounds_toArray,List.set_cons_zero,List.set_cons_succ])
 go_loopg [4] k (fun kq v4 w'=>∃ (x4_1:Int) (x120000_1:List (S56)) (u120000:Value),v4 = .int .i64 x4_1∧Aside0 (spec_l03Copy.l0 kq x4_1 l0_0 a0_1 x120000_1 a0_1=some (r1,r2))∧Aside0 (kq≤k)∧Aside0 (Kd.R k56 56 w' w.heap.size (fun _=>True) u120000 x120000_1)∧Aside0 (w'.heap[gb117]? = some (.cells #[(.slice A0_0 l0_0.length c0_0),.int .i64 a0_1] 28 (0,0)))∧Aside0 (w'.heap[gb118]? = some (.cells #[(.slice none 0 0),.int .i64 0] 28 (0,0)))∧Aside0 (w'.heap[gb119]? = some (.cells #[u120000,.int .i64 a0_1] 28 (0,0)))∧Aside0 (Below w.heap.size w w'))
 case atStart=>exact ⟨(0),(([]:List (S56))),(.slice none 0 0),(by first|rfl|(simp;done)|(simp [*];done)),H',⟨Nat.le_refl _⟩,⟨by first|exact Kd.R_nil _ _ _ _ _|exact Kd.N_nil _ _ _ _ _|exact Kd.V_nil _ _ _ _ _|exact Kd.Q_nil _ _ _ _ _|exact Kd.S_nil _ _ _ _ _⟩,⟨bf BK117⟩,⟨bf BK118⟩,⟨by (with_reducible repeat (first|refine blk_drewN ?_ _|refine blk_drew ?_|refine blk_alloc ?_ _));refine blk_put (cs:=#[.slice none 0 0,.int .i64 0]) ?_ 1 _ rfl;(with_reducible repeat (first|refine blk_drewN ?_ _|refine blk_drew ?_|refine blk_alloc ?_ _));refine blk_put (cs:=#[.slice none 0 0,.int .i64 0]) ?_ 0 _ rfl;(with_reducible repeat (first|refine blk_drewN ?_ _|refine blk_drew ?_|refine blk_alloc ?_ _));exact BK119.out⟩,⟨bl⟩⟩
 case round =>
  clear H'
  try clear p2
  try clear c3
  try clear c4
  try clear c7
  try clear c8
  try clear hcz5_0
  try clear hcz5_1
  try clear hcz9_0
  try clear hcz9_1
  try clear hfz5_0
  try clear hfz5_1
  try clear hfz9_0
  try clear hfz9_1
  obtain ⟨x4_1,x120000_1,u120000,rfl,HA,HK1,HO_120000,BK117,BK118,BK119,HB⟩:=hrel
  cases gk with
  | zero=>exact absurd HA.out (by simp [spec_l03Copy.l0])
  | succ k1 =>
   have H:=HA.out
   clear HA
   simp only [spec_l03Copy.l0] at H
   by_cases c10:x4_1 < (l0_0.length:Int)
   ·rw [if_pos c10] at H
    have c10b0:decide (x4_1 < (l0_0.length:Int))=true:=decide_eq_true c10
    clear c10
    by_cases c11:0≤x4_1
    case neg =>
     rw [if_neg c11] at H
     exact absurd H (by simp)
    rw [if_pos c11] at H
    have c11b0:decide (0≤x4_1)=true:=decide_eq_true c11
    clear c11
    by_cases c12:x120000_1.length < 5864062014805
    case neg =>
     rw [if_neg c12] at H
     exact absurd H (by simp)
    rw [if_pos c12] at H
    have LMc12:=Aside0.mk c12
    clear c12
    obtain ⟨y121,hy121⟩:∃ y_:List (S56),y_=(x120000_1 ++ [(⟨(rd_T56 l0_0 x4_1).f0,(rd_T56 l0_0 x4_1).f1,(rd_T56 l0_0 x4_1).f2⟩:S56)]):=⟨_,rfl⟩
    replace H:(spec_l03Copy.l0 k1 (wrap64 (x4_1 + 1)) l0_0 a0_1 y121 a0_1)=some (r1,r2):=by first|(rw [hy121];with_reducible exact H)|(have H2_:=(Option.bind_some _ _).symm.trans H;rw [hy121];with_reducible exact H2_)|(have H2_:=(Option.bind_some _ _).symm.trans H;with_reducible exact H2_)|with_reducible exact H|(rw [hy121];exact H)|exact H
    have Ny121:=Aside0.mk hy121
    clear hy121
    have H':=Aside0.mk H
    clear H
    have hnb13:=NB117_118.out
    have hnc13:=NB118_117.out
    have hnb14:=NB117_119.out
    have hnc14:=NB119_117.out
    obtain ⟨hcz15_0,hcz15_1,hfz15_0,hfz15_1⟩:=ck2 BK117.out
    try go_wp2
    replace HO_120000:=Aside0.mk (Kd.R_drew HO_120000.out)
    replace BK117:=Aside0.mk (blk_drew BK117.out)
    replace BK118:=Aside0.mk (blk_drew BK118.out)
    replace BK119:=Aside0.mk (blk_drew BK119.out)
    replace HB:=Aside0.mk (below_drew1 HB.out)
    have p120:0≤(x4_1:Int):=od
    have q120:x4_1 < (l0_0.length:Int):=od
    obtain ⟨ad120,e120,hx120_0,hx120_1,hx120_2⟩:=at_T56 HR0_0.out x4_1 p120 q120
    have hw120_2:=hx120_2
    have hw120_1:=hx120_1
    have hw120_0:=hx120_0
    cases e120
    replace hx120_0:=cl HB hx120_0
    replace hx120_1:=cl HB hx120_1
    replace hx120_2:=cl HB hx120_2
    replace p120:=eq_true p120
    replace q120:=eq_true q120
    refine start_ (n:=11) (S:=fun w'=>w'.cell? ⟨gb119,0,none⟩=some (u120000)∧w'.cell? ⟨gb119,1,none⟩=some (.int .i64 a0_1)∧w'.cell? ⟨gb117,0,none⟩=some (.slice (some ad120) l0_0.length c0_0)∧w'.cell? ⟨gb117,1,none⟩=some (.int .i64 a0_1)∧w'.cell? (ad120.add ((x4_1).toNat * 3))=some (.int .i64 ((rd_T56 l0_0 x4_1).f0))∧w'.cell? ⟨(ad120.add ((x4_1).toNat * 3)).block,(ad120.add ((x4_1).toNat * 3)).off + 1,none⟩=some (.int .i64 ((rd_T56 l0_0 x4_1).f1))∧w'.cell? ⟨(ad120.add ((x4_1).toNat * 3)).block,(ad120.add ((x4_1).toNat * 3)).off + 2,none⟩=some (.int .i64 ((rd_T56 l0_0 x4_1).f2))) (ds:=[10]) (bs 11 0) (by kernel_rfl) rfl rfl ⟨bc BK119 0,bc BK119 1,bc BK117 0,bc BK117 1,(cl HB hw120_0),(cl HB hw120_1),(cl HB hw120_2)⟩ (fun hHeld=>?_);refine with_tabW spec_l03Copy.tab5 spec_l03Copy.bits5 (fun HT_ HW_=>?_)
    generalize wr.drew=w16 at HO_120000 BK117 BK118 BK119 HB hx120_0 hx120_1 hx120_2 hHeld ⊢
    refine pq 0 15 (bs 11 1) HT_ ?_
    refine pq 2 17 (bs 11 5) HT_ ?_
    refine pq 4 19 (bs 11 21) HT_ ?_
    refine tq 1 16 (bs 11 23) HT_ HW_ hHeld ?_
    refine tq 3 18 (bs 11 31) HT_ HW_ hHeld ?_
    refine pq 5 20 (bs 11 63) HT_ ?_
    refine tq 6 21 (bs 11 127) HT_ HW_ hHeld ?_
    refine one_ (i:=7) (N:=some 22) (bs 11 255) rfl rfl (one_of HT_.out (by kernel_rfl)) (by decide) (fun K hK=>?_)
    refine value_ (w1:=?_) (v:=?_) (by rfl) rfl ?_ ?_
    rotate_left 2
    ·go_simp
     constructor
     ·rfl
     ·rfl
    refine hK.out _ _ ⟨(blk_cell (blk_alloc BK119.out _) 0).trans rfl,(blk_cell (blk_alloc BK119.out _) 1).trans rfl,(blk_cell (blk_alloc BK117.out _) 0).trans rfl,(blk_cell (blk_alloc BK117.out _) 1).trans rfl,(World.cell?_alloc_lt _ _ _ (World.block_lt_of_cell? _ _ ((cl HB hw120_0)))).trans ((cl HB hw120_0)),(World.cell?_alloc_lt _ _ _ (World.block_lt_of_cell? _ _ ((cl HB hw120_1)))).trans ((cl HB hw120_1)),(World.cell?_alloc_lt _ _ _ (World.block_lt_of_cell? _ _ ((cl HB hw120_2)))).trans ((cl HB hw120_2))⟩ (fun hHeld=>?_)
    clear hK K
    refine nrm ?_
    refine one_ (i:=8) (N:=some 23) (bs 11 511) rfl rfl (one_of HT_.out (by kernel_rfl)) (by decide) (fun K hK=>?_)
    refine Kd.R_append_step k56 (w0:=w) w.heap.size (by rfl) (.tmp 16) (.tmp 22) 26 56 (.agg #[(.int .i64 0),(.int .i64 0),(.int .i64 0)]) 24 rfl Try.underlying26 info56 rfl (by decide) (by omega) u120000 x120000_1 (⟨(rd_T56 l0_0 x4_1).f0,(rd_T56 l0_0 x4_1).f1,(rd_T56 l0_0 x4_1).f2⟩:S56) [.int .i64 ((rd_T56 l0_0 x4_1).f0),.int .i64 ((rd_T56 l0_0 x4_1).f1),.int .i64 ((rd_T56 l0_0 x4_1).f2)] (fun _=>True) (fun _=>False) rfl rfl ?aP (fun _ hk=>hk.elim) ?aF ?aO ?aB ?aS ?aL ?_
    (case aP=>exact k56_mkM _ _ _ (⟨(rd_T56 l0_0 x4_1).f0,(rd_T56 l0_0 x4_1).f1,(rd_T56 l0_0 x4_1).f2⟩:S56))
    (case aB=>exact bl)
    (case aF=>exact (fun _ _=>trivial))
    (case aO=>exact (kr HO_120000))
    (case aS=>exact (below_size bl))
    (case aL=>have:=LMc12.out;omega)
    intro v122 w17 ho hb hg hat
    rw [← Ny121.out] at ho
    replace BK117:=Aside0.mk (blk_grown (bk BK117) hg (Kd.R_ne HO_120000.out BK117.out (by decide)))
    replace BK118:=Aside0.mk (blk_grown (bk BK118) hg (Kd.R_ne HO_120000.out BK118.out (by decide)))
    replace BK119:=Aside0.mk (blk_grown (bk BK119) hg (Kd.R_ne HO_120000.out BK119.out (by decide)))
    replace HB:=Aside0.mk (hb)
    have HO123:=Aside0.mk (ho)
    clear HO_120000
    clear ho hb hg hat
    obtain ⟨Ao18,co18,eo18⟩:=Kd.R_slice HO123.out
    (first|subst eo18|(injection eo18 with f1_ f2_ f3_;have f4_:=f1_.symm;have f5_:=f3_.symm;clear f1_ f2_ f3_;subst f4_;subst f5_))
    refine hK.out _ _ ⟨bc BK119 0,bc BK119 1,bc BK117 0,bc BK117 1,(cl HB hw120_0),(cl HB hw120_1),(cl HB hw120_2)⟩ (fun hHeld=>?_)
    clear hK K
    refine nrm ?_
    refine pq 9 24 (bs 11 1023) HT_ ?_
    refine last_ (i:=10) (N:=none) (bs 11 2047) rfl rfl (one_of HT_.out (by kernel_rfl)) (by decide) (fun K hK=>?_)
    have hs19:w17.cell? ⟨gb119,0,none⟩=some (u120000):=(blk_cell BK119.out 0).trans rfl
    have hfs19:=blk_frozen BK119.out 0
    have hns19_0:=NB117_119.out
    have hns19_1:=NB118_119.out
    have hms19_0:=NB119_117.out
    have hms19_1:=NB119_118.out
    refine skip_ (w1:=?_) (by rfl) rfl ?_ ?_
    rotate_left
    ·go_simp
     rfl
    refine hK.out _ _ ?_
    clear hK K
    refine done_ (done_of HT_.out (by kernel_rfl)) ?_
    try go_wp2
    go_roundg k1
    case measure=>have:=HK1.out;omega
    case rel=>exact ⟨(wrap64 (x4_1 + 1)),(y121),(.slice Ao18 y121.length co18),(by first|rfl|(simp;done)|(simp [*];done)),H',⟨by have:=HK1.out;omega⟩,⟨by (with_reducible repeat (first|apply Kd.R_alloc|apply Kd.R_drewN|apply Kd.R_drew));exact Kd.R_mono (Kd.R_far (p:=⟨gb119,0,none⟩) (Kd.R_types HO123.out BK119.out (by decide)) (fun _ hk=>hk.2) (.slice Ao18 y121.length co18)) (fun _ hk=>trivial)⟩,⟨bf BK117⟩,⟨bf BK118⟩,⟨by (with_reducible repeat (first|refine blk_drewN ?_ _|refine blk_drew ?_|refine blk_alloc ?_ _));refine blk_put (cs:=#[u120000,.int .i64 a0_1]) ?_ 0 _ rfl;(with_reducible repeat (first|refine blk_drewN ?_ _|refine blk_drew ?_|refine blk_alloc ?_ _));exact BK119.out⟩,⟨bl⟩⟩
   ·rw [if_neg c10] at H
    have c10b0:decide (x4_1 < (l0_0.length:Int))=false:=decide_eq_false c10
    clear c10
    simp only [Option.some.injEq,Prod.mk.injEq] at H
    obtain ⟨rfl,rfl⟩:=H
    have hnb20:=NB117_118.out
    have hnc20:=NB118_117.out
    have hnb21:=NB117_119.out
    have hnc21:=NB119_117.out
    obtain ⟨hcz22_0,hcz22_1,hfz22_0,hfz22_1⟩:=ck2 BK117.out
    have hnb23:=NB119_118.out
    have hnc23:=NB118_119.out
    obtain ⟨hcz24_0,hcz24_1,hfz24_0,hfz24_1⟩:=ck2 BK119.out
    obtain ⟨Ao25,co25,eo25⟩:=Kd.R_slice HO_120000.out
    subst eo25
    obtain ⟨hcz26_0,hcz26_1,hfz26_0,hfz26_1⟩:=ck2 BK118.out
    go_wp2
    refine bodyPost_ret (results_cell_row rfl _ _ gb118 28 #[.slice Ao25 x120000_1.length co25,.int .i64 a0_1] (0,0) _ rfl (by (with_reducible repeat (first|refine blk_drewN ?_ _|refine blk_drew ?_|refine blk_alloc ?_ _));refine blk_put (cs:=#[.slice Ao25 x120000_1.length co25,.int .i64 0]) ?_ 1 _ rfl;(with_reducible repeat (first|refine blk_drewN ?_ _|refine blk_drew ?_|refine blk_alloc ?_ _));refine blk_put (cs:=#[.slice none 0 0,.int .i64 0]) ?_ 0 _ rfl;(with_reducible repeat (first|refine blk_drewN ?_ _|refine blk_drew ?_|refine blk_alloc ?_ _));exact BK118.out) Try.underlying28 rfl (by kernel_rfl)) rfl ?_
    exact ⟨_,er,by (with_reducible repeat (first|apply Kd.R_alloc|apply Kd.R_drewN|apply Kd.R_drew));exact Kd.R_mono (Kd.R_far (p:=⟨gb118,1,none⟩) (Kd.R_far (p:=⟨gb118,0,none⟩) (Kd.R_types HO_120000.out BK118.out (by decide)) (fun _ hk=>hk.2) (.slice Ao25 x120000_1.length co25)) (fun _ hk=>hk.2) (.int .i64 a0_1)) (fun _ hk=>trivial),bl⟩

/-! ### spec_l03Find: function 40 -/
def spec_l03Find.l0:Nat→Int→Int→List (S56)→Int→Option (Int)
 | 0,_,_,_,_=>none
 | k + 1,x1,x5,x125000,x125001=>if x5 < (x125000.length:Int) then (if 0≤x5 then (if ((rd_T56 x125000 x5).f2)=x1 then (some x5) else (spec_l03Find.l0 k x1 (wrap64 (x5 + 1)) x125000 x125001)) else (none)) else (some (-1))
def spec_l03Find.f (k:Nat) (l0_0:List (S56)) (a0_1:Int) (a1:Int):Option (Int):=spec_l03Find.l0 k a1 0 l0_0 a0_1
theorem spec_l03Find.mono_l:∀ k,(∀ y0 y1 y2 y3,LeO (spec_l03Find.l0 k y0 y1 y2 y3) (spec_l03Find.l0 (k + 1) y0 y1 y2 y3))
 | 0=>fun _ _ _ _ r h=>by simp [spec_l03Find.l0] at h
 | k + 1=>by
  have ih0:=spec_l03Find.mono_l k
  ·intro y0 y1 y2 y3
   unfold spec_l03Find.l0
   repeat' first
   | (with_reducible exact ih0 _ _ _ _)
   | (with_reducible exact LeO.refl _)
   | (with_reducible exact LeO.none _)
   | (with_reducible refine LeO.ite ?_ ?_)
   | (with_reducible refine LeO.bind ?_ (fun _=>?_))
   | exact ih0 _ _ _ _
   | exact LeO.none _
   | refine LeO.ite ?_ ?_
   | refine LeO.bind ?_ (fun _=>?_)
theorem spec_l03Find.mono:∀ a0 a1 a2 k,LeO (spec_l03Find.f k a0 a1 a2) (spec_l03Find.f (k + 1) a0 a1 a2):=by
 intro a0 a1 a2 k
 have ih0:=spec_l03Find.mono_l k
 unfold spec_l03Find.f
 repeat' first
   | (with_reducible exact ih0 _ _ _ _)
   | (with_reducible exact LeO.refl _)
   | (with_reducible exact LeO.none _)
   | (with_reducible refine LeO.ite ?_ ?_)
   | (with_reducible refine LeO.bind ?_ (fun _=>?_))
   | exact ih0 _ _ _ _
   | exact LeO.none _
   | refine LeO.ite ?_ ?_
   | refine LeO.bind ?_ (fun _=>?_)
set_option maxHeartbeats 8000000 in
set_option maxRecDepth 100000 in
theorem spec_l03Find.calls (k:Nat) (A0_0:Option Addr) (c0_0:Nat) (l0_0:List (S56)) (a0_1:Int) (a1:Int) (r:Int) (w:World) (hr0_0:Kd.C k56 w A0_0 l0_0.length l0_0) (hc0_0:l0_0.length≤c0_0) (h:spec_l03Find.f k l0_0 a0_1 a1=some r) :
  Calls Try.prog 40 #[.agg #[.slice A0_0 l0_0.length c0_0,.int .i64 a0_1],.int .i64 a1] w fun e w'=>e = .returned (.int .i64 r)∧Below w.heap.size w w':=by
 have hu28:=Try.underlying28
 have HR0_0:=Aside0.mk hr0_0
 have HC0_0:=Aside0.mk hc0_0
 clear hr0_0 hc0_0
 have HB:=Aside0.mk (Below.refl w.heap.size w)
 have H:(spec_l03Find.l0 k a1 0 l0_0 a0_1)=some r:=h
 clear h
 have H':=Aside0.mk H
 clear H
 go_enter Try.func40,Try.ntmps40
 go_wp2_with (first|((with_reducible refine gate_dst (N:=2) rfl ?_);refine bx 2 #[.slice A0_0 l0_0.length c0_0,.int .i64 a0_1] 28 ?_;intro gb124 hg w3 hbox hb;have BK124:=Aside0.mk (hbox);have GW124:=Aside0.mk (bz hg:w.heap.size≤gb124);have GE124:=GW124;replace HB:=Aside0.mk (below_step bl hb);clear hb hbox hg))
 (try simp only [Act.put,List.setIfInBounds_toArray,List.set_cons_zero,List.set_cons_succ])
 go_loopg [5] k (fun kq v5 w'=>∃ (x5_1:Int),v5 = .int .i64 x5_1∧Aside0 (spec_l03Find.l0 kq a1 x5_1 l0_0 a0_1=some r)∧Aside0 (kq≤k)∧Aside0 (w'.heap[gb124]? = some (.cells #[(.slice A0_0 l0_0.length c0_0),.int .i64 a0_1] 28 (0,0)))∧Aside0 (Below w.heap.size w w'))
 case atStart=>exact ⟨(0),(by first|rfl|(simp;done)|(simp [*];done)),H',⟨Nat.le_refl _⟩,⟨bk BK124⟩,⟨bl⟩⟩
 case round =>
  clear H'
  try clear p2
  obtain ⟨x5_1,rfl,HA,HK1,BK124,HB⟩:=hrel
  cases gk with
  | zero=>exact absurd HA.out (by simp [spec_l03Find.l0])
  | succ k1 =>
   have H:=HA.out
   clear HA
   simp only [spec_l03Find.l0] at H
   by_cases c4:x5_1 < (l0_0.length:Int)
   ·rw [if_pos c4] at H
    have c4b0:decide (x5_1 < (l0_0.length:Int))=true:=decide_eq_true c4
    clear c4
    by_cases c5:0≤x5_1
    case neg =>
     rw [if_neg c5] at H
     exact absurd H (by simp)
    rw [if_pos c5] at H
    have c5b0:decide (0≤x5_1)=true:=decide_eq_true c5
    clear c5
    by_cases c6:((rd_T56 l0_0 x5_1).f2)=a1
    ·rw [if_pos c6] at H
     have c6b0:(((rd_T56 l0_0 x5_1).f2) == a1)=true:=beq_iff_eq.mpr c6
     have c6b1:(((rd_T56 l0_0 x5_1).f2) != a1)=false:=bne_eq_false_iff_eq.mpr c6
     clear c6
     obtain rfl:=Option.some.inj H
     obtain ⟨hcz7_0,hcz7_1,hfz7_0,hfz7_1⟩:=ck2 BK124.out
     have p125:0≤(x5_1:Int):=od
     have q125:x5_1 < (l0_0.length:Int):=od
     obtain ⟨ad125,e125,hx125_0,hx125_1,hx125_2⟩:=at_T56 HR0_0.out x5_1 p125 q125
     cases e125
     replace hx125_0:=cl HB hx125_0
     replace hx125_1:=cl HB hx125_1
     replace hx125_2:=cl HB hx125_2
     replace p125:=eq_true p125
     replace q125:=eq_true q125
     go_wp2
     go_ret
     exact ⟨er,bl⟩
    ·rw [if_neg c6] at H
     have c6b0:(((rd_T56 l0_0 x5_1).f2) == a1)=false:=beq_eq_false_iff_ne.mpr c6
     have c6b1:(((rd_T56 l0_0 x5_1).f2) != a1)=true:=bne_iff_ne.mpr c6
     have H':=Aside0.mk H
     clear H
     obtain ⟨hcz8_0,hcz8_1,hfz8_0,hfz8_1⟩:=ck2 BK124.out
     have p125:0≤(x5_1:Int):=od
     have q125:x5_1 < (l0_0.length:Int):=od
     obtain ⟨ad125,e125,hx125_0,hx125_1,hx125_2⟩:=at_T56 HR0_0.out x5_1 p125 q125
     cases e125
     replace hx125_0:=cl HB hx125_0
     replace hx125_1:=cl HB hx125_1
     replace hx125_2:=cl HB hx125_2
     replace p125:=eq_true p125
     replace q125:=eq_true q125
     go_wp2
     go_roundg k1
     case measure=>have:=HK1.out;omega
     case rel=>exact ⟨(wrap64 (x5_1 + 1)),(by first|rfl|(simp;done)|(simp [*];done)),H',⟨by have:=HK1.out;omega⟩,⟨bk BK124⟩,⟨bl⟩⟩
   ·rw [if_neg c4] at H
    have c4b0:decide (x5_1 < (l0_0.length:Int))=false:=decide_eq_false c4
    clear c4
    obtain rfl:=Option.some.inj H
    obtain ⟨hcz9_0,hcz9_1,hfz9_0,hfz9_1⟩:=ck2 BK124.out
    go_wp2
    go_ret
    exact ⟨er,bl⟩

end Go.Proofs.Ytdffkcbaijbhoaa.PFnExactCancelDue
