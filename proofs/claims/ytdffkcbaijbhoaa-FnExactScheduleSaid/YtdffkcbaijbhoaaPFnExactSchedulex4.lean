/- Contracts of functions of the given program: what each call answers. Written by a program of this session, out of the text of the functions. -/
import Derived.Test.YtdffkcbaijbhoaaPFnExactSchedulex0
import Derived.Test.YtdffkcbaijbhoaaPrs
namespace Go.Proofs.Ytdffkcbaijbhoaa.PFnExactSchedule
open Go.RowKit Go.Proofs.YtdffkcbaijbhoaaW.PrintWords Go.Proofs.YtdffkcbaijbhoaaW.PrintLast Go.Proofs.YtdffkcbaijbhoaaW.PrintMore Go.Proofs.Ytdffkcbaijbhoaa.Giv Go.Proofs.Ytdffkcbaijbhoaa.Prs
attribute [local go_sem] max2_int min2_int max_two min_two max_three min_three max_four min_four   -- for this text's walks alone
set_option linter.unusedVariables false
set_option linter.unusedSimpArgs false

/-! ### spec_l03Copy: function 39 -/
def spec_l03Copy.l0:Nat→Int→List (S56)→Int→List (S56)→Int→Option ((List (S56)) × Int)
 | 0,_,_,_,_,_=>none
 | k + 1,x4,x154000,x154001,x156000,x156001=>if x4 < (x154000.length:Int) then (if 0≤x4 then (if x156000.length < 5864062014805 then (spec_l03Copy.l0 k (wrap64 (x4 + 1)) x154000 x154001 (x156000 ++ [(⟨(rd_T56 x154000 x4).f0,(rd_T56 x154000 x4).f1,(rd_T56 x154000 x4).f2⟩:S56)]) x156001) else (none)) else (none)) else (some (x156000,x156001))
def spec_l03Copy.f (k:Nat) (l0_0:List (S56)) (a0_1:Int):Option ((List (S56)) × Int):=spec_l03Copy.l0 k 0 l0_0 a0_1 ([]:List (S56)) a0_1
theorem spec_l03Copy.mono_l:∀ k,(∀ y0 y1 y2 y3 y4,LeO (spec_l03Copy.l0 k y0 y1 y2 y3 y4) (spec_l03Copy.l0 (k + 1) y0 y1 y2 y3 y4))
 | 0=>fun _ _ _ _ _ r h=>by simp [spec_l03Copy.l0] at h
 | k + 1=>by
  have ih0:=spec_l03Copy.mono_l k
  ·intro y0 y1 y2 y3 y4
   unfold spec_l03Copy.l0
   repeat' first
   | (with_reducible exact ih0 _ _ _ _ _)
   | (with_reducible exact LeO.refl _)
   | (with_reducible exact LeO.none _)
   | (with_reducible refine LeO.ite ?_ ?_)
   | (with_reducible refine LeO.bind ?_ (fun _=>?_))
   | exact ih0 _ _ _ _ _
   | exact LeO.none _
   | refine LeO.ite ?_ ?_
   | refine LeO.bind ?_ (fun _=>?_)
theorem spec_l03Copy.mono:∀ a0 a1 k,LeO (spec_l03Copy.f k a0 a1) (spec_l03Copy.f (k + 1) a0 a1):=by
 intro a0 a1 k
 have ih0:=spec_l03Copy.mono_l k
 unfold spec_l03Copy.f
 repeat' first
   | (with_reducible exact ih0 _ _ _ _ _)
   | (with_reducible exact LeO.refl _)
   | (with_reducible exact LeO.none _)
   | (with_reducible refine LeO.ite ?_ ?_)
   | (with_reducible refine LeO.bind ?_ (fun _=>?_))
   | exact ih0 _ _ _ _ _
   | exact LeO.none _
   | refine LeO.ite ?_ ?_
   | refine LeO.bind ?_ (fun _=>?_)
def spec_l03Copy.T5:Bool × List (List Nat × List Nat):=(true,[([],[]),([0],[0]),([],[]),([2],[2]),([],[]),([3,4],[3,4]),([5],[5]),([6],[6]),([1,7],[1,7]),([0,1,2,3,4,5,6,7,8],[]),([9,8,8,0,1,2,3,4,5,6,7,8],[8,9])])
def spec_l03Copy.B5:List Nat:=[0,1,0,4,0,28,60,124,255,511,1023]
theorem spec_l03Copy.tab5:rtab .any (opsOf Try.f39 5)=spec_l03Copy.T5:=by kernel_rfl
theorem spec_l03Copy.bits5:waitsOk spec_l03Copy.T5.2 spec_l03Copy.B5=true:=by kernel_rfl
set_option maxHeartbeats 8000000 in
set_option maxRecDepth 100000 in
theorem spec_l03Copy.calls (k:Nat) (A0_0:Option Addr) (c0_0:Nat) (l0_0:List (S56)) (a0_1:Int) (r1:List (S56)) (r2:Int) (w:World) (hr0_0:Kd.C k56 w A0_0 l0_0.length l0_0) (hc0_0:l0_0.length≤c0_0) (h:spec_l03Copy.f k l0_0 a0_1=some (r1,r2)) :
  Calls Try.prog 39 #[.agg #[.slice A0_0 l0_0.length c0_0,.int .i64 a0_1]] w fun e w'=>∃ v0_:Value,e = .returned (.agg #[v0_,.int .i64 r2])∧Kd.R k56 56 w' w.heap.size (fun _=>True) v0_ r1∧Below w.heap.size w w':=by
 have hu28:=Try.underlying28
 have hu56:=Try.underlying56
 have HR0_0:=Aside0.mk hr0_0
 have HC0_0:=Aside0.mk hc0_0
 clear hr0_0 hc0_0
 have HB:=Aside0.mk (Below.refl w.heap.size w)
 have H:(spec_l03Copy.l0 k 0 l0_0 a0_1 ([]:List (S56)) a0_1)=some (r1,r2):=h
 clear h
 have H':=Aside0.mk H
 clear H
 go_enter Try.func39,Try.ntmps39
 go_wp2_with (first|((with_reducible refine gate_dst (N:=1) rfl ?_);refine bx 1 #[.slice A0_0 l0_0.length c0_0,.int .i64 a0_1] 28 ?_;intro gb153 hg w2 hbox hb;have BK153:=Aside0.mk (hbox);have GW153:=Aside0.mk (bz hg:w.heap.size≤gb153);have GE153:=GW153;replace HB:=Aside0.mk (below_step bl hb);clear hb hbox hg)|((with_reducible refine gate_dst (N:=2) rfl ?_);refine bx 2 #[.slice none 0 0,.int .i64 0] 28 ?_;intro gb154 hg w3 hbox hb;have BK154:=Aside0.mk (hbox);have GW154:=Aside0.mk (bz hg:w.heap.size≤gb154);have GE154:=GW154;replace HB:=Aside0.mk (below_step bl hb);have NB153_154:=Aside0.mk (nl hg BK153:gb153≠gb154);have NB154_153:=Aside0.mk (nr hg BK153:gb154≠gb153);replace BK153:=Aside0.mk (blk_below (bk BK153) hb);clear hb hbox hg;have hnb4:=NB153_154.out;have hnc4:=NB154_153.out;obtain ⟨hcz5_0,hcz5_1,hfz5_0,hfz5_1⟩:=ck2 BK153.out)|((with_reducible refine gate_dst (N:=3) rfl ?_);refine bx 3 #[.slice none 0 0,.int .i64 0] 28 ?_;intro gb155 hg w6 hbox hb;have BK155:=Aside0.mk (hbox);have GW155:=Aside0.mk (bz hg:w.heap.size≤gb155);have GE155:=GW155;replace HB:=Aside0.mk (below_step bl hb);have NB153_155:=Aside0.mk (nl hg BK153:gb153≠gb155);have NB155_153:=Aside0.mk (nr hg BK153:gb155≠gb153);replace BK153:=Aside0.mk (blk_below (bk BK153) hb);have NB154_155:=Aside0.mk (nl hg BK154:gb154≠gb155);have NB155_154:=Aside0.mk (nr hg BK154:gb155≠gb154);replace BK154:=Aside0.mk (blk_below (bk BK154) hb);clear hb hbox hg;have hnb7:=NB155_153.out;have hnc7:=NB153_155.out;have hnb8:=NB155_154.out;have hnc8:=NB154_155.out;obtain ⟨hcz9_0,hcz9_1,hfz9_0,hfz9_1⟩:=ck2 BK155.out))
 (try simp only [Act.put,List.setIfInBounds_toArray,List.set_cons_zero,List.set_cons_succ])
 go_loopg [4] k (fun kq v4 w'=>∃ (x4_1:Int) (x156000_1:List (S56)) (u156000:Value),v4 = .int .i64 x4_1∧Aside0 (spec_l03Copy.l0 kq x4_1 l0_0 a0_1 x156000_1 a0_1=some (r1,r2))∧Aside0 (kq≤k)∧Aside0 (Kd.R k56 56 w' w.heap.size (fun _=>True) u156000 x156000_1)∧Aside0 (w'.heap[gb153]? = some (.cells #[(.slice A0_0 l0_0.length c0_0),.int .i64 a0_1] 28 (0,0)))∧Aside0 (w'.heap[gb154]? = some (.cells #[(.slice none 0 0),.int .i64 0] 28 (0,0)))∧Aside0 (w'.heap[gb155]? = some (.cells #[u156000,.int .i64 a0_1] 28 (0,0)))∧Aside0 (Below w.heap.size w w'))
 case atStart=>exact ⟨(0),(([]:List (S56))),(.slice none 0 0),(by first|rfl|(simp;done)|(simp [*];done)),H',⟨Nat.le_refl _⟩,⟨by first|exact Kd.R_nil _ _ _ _ _|exact Kd.N_nil _ _ _ _ _|exact Kd.V_nil _ _ _ _ _|exact Kd.Q_nil _ _ _ _ _|exact Kd.S_nil _ _ _ _ _⟩,⟨bf BK153⟩,⟨bf BK154⟩,⟨by (with_reducible repeat (first|refine blk_drewN ?_ _|refine blk_drew ?_|refine blk_alloc ?_ _));refine blk_put (cs:=#[.slice none 0 0,.int .i64 0]) ?_ 1 _ rfl;(with_reducible repeat (first|refine blk_drewN ?_ _|refine blk_drew ?_|refine blk_alloc ?_ _));refine blk_put (cs:=#[.slice none 0 0,.int .i64 0]) ?_ 0 _ rfl;(with_reducible repeat (first|refine blk_drewN ?_ _|refine blk_drew ?_|refine blk_alloc ?_ _));exact BK155.out⟩,⟨bl⟩⟩
 case round =>
  clear H'
  try clear p2
  try clear c3
  try clear c4
  try clear c7
  try clear c8
  try clear hcz5_0
  try clear hcz5_1
  try clear hcz9_0
  try clear hcz9_1
  try clear hfz5_0
  try clear hfz5_1
  try clear hfz9_0
  try clear hfz9_1
  obtain ⟨x4_1,x156000_1,u156000,rfl,HA,HK1,HO_156000,BK153,BK154,BK155,HB⟩:=hrel
  cases gk with
  | zero=>exact absurd HA.out (by simp [spec_l03Copy.l0])
  | succ k1 =>
   have H:=HA.out
   clear HA
   simp only [spec_l03Copy.l0] at H
   by_cases c10:x4_1 < (l0_0.length:Int)
   ·rw [if_pos c10] at H
    have c10b0:decide (x4_1 < (l0_0.length:Int))=true:=decide_eq_true c10
    clear c10
    by_cases c11:0≤x4_1
    case neg =>
     rw [if_neg c11] at H
     exact absurd H (by simp)
    rw [if_pos c11] at H
    have c11b0:decide (0≤x4_1)=true:=decide_eq_true c11
    clear c11
    by_cases c12:x156000_1.length < 5864062014805
    case neg =>
     rw [if_neg c12] at H
     exact absurd H (by simp)
    rw [if_pos c12] at H
    have LMc12:=Aside0.mk c12
    clear c12
    obtain ⟨y157,hy157⟩:∃ y_:List (S56),y_=(x156000_1 ++ [(⟨(rd_T56 l0_0 x4_1).f0,(rd_T56 l0_0 x4_1).f1,(rd_T56 l0_0 x4_1).f2⟩:S56)]):=⟨_,rfl⟩
    replace H:(spec_l03Copy.l0 k1 (wrap64 (x4_1 + 1)) l0_0 a0_1 y157 a0_1)=some (r1,r2):=by first|(rw [hy157];with_reducible exact H)|(have H2_:=(Option.bind_some _ _).symm.trans H;rw [hy157];with_reducible exact H2_)|(have H2_:=(Option.bind_some _ _).symm.trans H;with_reducible exact H2_)|with_reducible exact H|(rw [hy157];exact H)|exact H
    have Ny157:=Aside0.mk hy157
    clear hy157
    have H':=Aside0.mk H
    clear H
    have hnb13:=NB153_154.out
    have hnc13:=NB154_153.out
    have hnb14:=NB153_155.out
    have hnc14:=NB155_153.out
    obtain ⟨hcz15_0,hcz15_1,hfz15_0,hfz15_1⟩:=ck2 BK153.out
    try go_wp2
    replace HO_156000:=Aside0.mk (Kd.R_drew HO_156000.out)
    replace BK153:=Aside0.mk (blk_drew BK153.out)
    replace BK154:=Aside0.mk (blk_drew BK154.out)
    replace BK155:=Aside0.mk (blk_drew BK155.out)
    replace HB:=Aside0.mk (below_drew1 HB.out)
    have p156:0≤(x4_1:Int):=od
    have q156:x4_1 < (l0_0.length:Int):=od
    obtain ⟨ad156,e156,hx156_0,hx156_1,hx156_2⟩:=at_T56 HR0_0.out x4_1 p156 q156
    have hw156_2:=hx156_2
    have hw156_1:=hx156_1
    have hw156_0:=hx156_0
    cases e156
    replace hx156_0:=cl HB hx156_0
    replace hx156_1:=cl HB hx156_1
    replace hx156_2:=cl HB hx156_2
    replace p156:=eq_true p156
    replace q156:=eq_true q156
    refine start_ (n:=11) (S:=fun w'=>w'.cell? ⟨gb155,0,none⟩=some (u156000)∧w'.cell? ⟨gb155,1,none⟩=some (.int .i64 a0_1)∧w'.cell? ⟨gb153,0,none⟩=some (.slice (some ad156) l0_0.length c0_0)∧w'.cell? ⟨gb153,1,none⟩=some (.int .i64 a0_1)∧w'.cell? (ad156.add ((x4_1).toNat * 3))=some (.int .i64 ((rd_T56 l0_0 x4_1).f0))∧w'.cell? ⟨(ad156.add ((x4_1).toNat * 3)).block,(ad156.add ((x4_1).toNat * 3)).off + 1,none⟩=some (.int .i64 ((rd_T56 l0_0 x4_1).f1))∧w'.cell? ⟨(ad156.add ((x4_1).toNat * 3)).block,(ad156.add ((x4_1).toNat * 3)).off + 2,none⟩=some (.int .i64 ((rd_T56 l0_0 x4_1).f2))) (ds:=[10]) (bs 11 0) (by kernel_rfl) rfl rfl ⟨bc BK155 0,bc BK155 1,bc BK153 0,bc BK153 1,(cl HB hw156_0),(cl HB hw156_1),(cl HB hw156_2)⟩ (fun hHeld=>?_);refine with_tabW spec_l03Copy.tab5 spec_l03Copy.bits5 (fun HT_ HW_=>?_)
    generalize wr.drew=w16 at HO_156000 BK153 BK154 BK155 HB hx156_0 hx156_1 hx156_2 hHeld ⊢
    refine pq 0 15 (bs 11 1) HT_ ?_
    refine pq 2 17 (bs 11 5) HT_ ?_
    refine pq 4 19 (bs 11 21) HT_ ?_
    refine tq 1 16 (bs 11 23) HT_ HW_ hHeld ?_
    refine tq 3 18 (bs 11 31) HT_ HW_ hHeld ?_
    refine pq 5 20 (bs 11 63) HT_ ?_
    refine tq 6 21 (bs 11 127) HT_ HW_ hHeld ?_
    refine one_ (i:=7) (N:=some 22) (bs 11 255) rfl rfl (one_of HT_.out (by kernel_rfl)) (by decide) (fun K hK=>?_)
    refine value_ (w1:=?_) (v:=?_) (by rfl) rfl ?_ ?_
    rotate_left 2
    ·go_simp
     constructor
     ·rfl
     ·rfl
    refine hK.out _ _ ⟨(blk_cell (blk_alloc BK155.out _) 0).trans rfl,(blk_cell (blk_alloc BK155.out _) 1).trans rfl,(blk_cell (blk_alloc BK153.out _) 0).trans rfl,(blk_cell (blk_alloc BK153.out _) 1).trans rfl,(World.cell?_alloc_lt _ _ _ (World.block_lt_of_cell? _ _ ((cl HB hw156_0)))).trans ((cl HB hw156_0)),(World.cell?_alloc_lt _ _ _ (World.block_lt_of_cell? _ _ ((cl HB hw156_1)))).trans ((cl HB hw156_1)),(World.cell?_alloc_lt _ _ _ (World.block_lt_of_cell? _ _ ((cl HB hw156_2)))).trans ((cl HB hw156_2))⟩ (fun hHeld=>?_)
    clear hK K
    refine nrm ?_
    refine one_ (i:=8) (N:=some 23) (bs 11 511) rfl rfl (one_of HT_.out (by kernel_rfl)) (by decide) (fun K hK=>?_)
    refine Kd.R_append_step k56 (w0:=w) w.heap.size (by rfl) (.tmp 16) (.tmp 22) 26 56 (.agg #[(.int .i64 0),(.int .i64 0),(.int .i64 0)]) 24 rfl Try.underlying26 info56 rfl (by decide) (by omega) u156000 x156000_1 (⟨(rd_T56 l0_0 x4_1).f0,(rd_T56 l0_0 x4_1).f1,(rd_T56 l0_0 x4_1).f2⟩:S56) [.int .i64 ((rd_T56 l0_0 x4_1).f0),.int .i64 ((rd_T56 l0_0 x4_1).f1),.int .i64 ((rd_T56 l0_0 x4_1).f2)] (fun _=>True) (fun _=>False) rfl rfl ?aP (fun _ hk=>hk.elim) ?aF ?aO ?aB ?aS ?aL ?_
    (case aP=>exact k56_mkM _ _ _ (⟨(rd_T56 l0_0 x4_1).f0,(rd_T56 l0_0 x4_1).f1,(rd_T56 l0_0 x4_1).f2⟩:S56))
    (case aB=>exact bl)
    (case aF=>exact (fun _ _=>trivial))
    (case aO=>exact (kr HO_156000))
    (case aS=>exact (below_size bl))
    (case aL=>have:=LMc12.out;omega)
    intro v158 w17 ho hb hg hat
    rw [← Ny157.out] at ho
    replace BK153:=Aside0.mk (blk_grown (bk BK153) hg (Kd.R_ne HO_156000.out BK153.out (by decide)))
    replace BK154:=Aside0.mk (blk_grown (bk BK154) hg (Kd.R_ne HO_156000.out BK154.out (by decide)))
    replace BK155:=Aside0.mk (blk_grown (bk BK155) hg (Kd.R_ne HO_156000.out BK155.out (by decide)))
    replace HB:=Aside0.mk (hb)
    have HO159:=Aside0.mk (ho)
    clear HO_156000
    clear ho hb hg hat
    obtain ⟨Ao18,co18,eo18⟩:=Kd.R_slice HO159.out
    (first|subst eo18|(injection eo18 with f1_ f2_ f3_;have f4_:=f1_.symm;have f5_:=f3_.symm;clear f1_ f2_ f3_;subst f4_;subst f5_))
    refine hK.out _ _ ⟨bc BK155 0,bc BK155 1,bc BK153 0,bc BK153 1,(cl HB hw156_0),(cl HB hw156_1),(cl HB hw156_2)⟩ (fun hHeld=>?_)
    clear hK K
    refine nrm ?_
    refine pq 9 24 (bs 11 1023) HT_ ?_
    refine last_ (i:=10) (N:=none) (bs 11 2047) rfl rfl (one_of HT_.out (by kernel_rfl)) (by decide) (fun K hK=>?_)
    have hs19:w17.cell? ⟨gb155,0,none⟩=some (u156000):=(blk_cell BK155.out 0).trans rfl
    have hfs19:=blk_frozen BK155.out 0
    have hns19_0:=NB153_155.out
    have hns19_1:=NB154_155.out
    have hms19_0:=NB155_153.out
    have hms19_1:=NB155_154.out
    refine skip_ (w1:=?_) (by rfl) rfl ?_ ?_
    rotate_left
    ·go_simp
     rfl
    refine hK.out _ _ ?_
    clear hK K
    refine done_ (done_of HT_.out (by kernel_rfl)) ?_
    try go_wp2
    go_roundg k1
    case measure=>have:=HK1.out;omega
    case rel=>exact ⟨(wrap64 (x4_1 + 1)),(y157),(.slice Ao18 y157.length co18),(by first|rfl|(simp;done)|(simp [*];done)),H',⟨by have:=HK1.out;omega⟩,⟨by (with_reducible repeat (first|apply Kd.R_alloc|apply Kd.R_drewN|apply Kd.R_drew));exact Kd.R_mono (Kd.R_far (p:=⟨gb155,0,none⟩) (Kd.R_types HO159.out BK155.out (by decide)) (fun _ hk=>hk.2) (.slice Ao18 y157.length co18)) (fun _ hk=>trivial)⟩,⟨bf BK153⟩,⟨bf BK154⟩,⟨by (with_reducible repeat (first|refine blk_drewN ?_ _|refine blk_drew ?_|refine blk_alloc ?_ _));refine blk_put (cs:=#[u156000,.int .i64 a0_1]) ?_ 0 _ rfl;(with_reducible repeat (first|refine blk_drewN ?_ _|refine blk_drew ?_|refine blk_alloc ?_ _));exact BK155.out⟩,⟨bl⟩⟩
   ·rw [if_neg c10] at H
    have c10b0:decide (x4_1 < (l0_0.length:Int))=false:=decide_eq_false c10
    clear c10
    simp only [Option.some.injEq,Prod.mk.injEq] at H
    obtain ⟨rfl,rfl⟩:=H
    have hnb20:=NB153_154.out
    have hnc20:=NB154_153.out
    have hnb21:=NB153_155.out
    have hnc21:=NB155_153.out
    obtain ⟨hcz22_0,hcz22_1,hfz22_0,hfz22_1⟩:=ck2 BK153.out
    have hnb23:=NB155_154.out
    have hnc23:=NB154_155.out
    obtain ⟨hcz24_0,hcz24_1,hfz24_0,hfz24_1⟩:=ck2 BK155.out
    obtain ⟨Ao25,co25,eo25⟩:=Kd.R_slice HO_156000.out
    subst eo25
    obtain ⟨hcz26_0,hcz26_1,hfz26_0,hfz26_1⟩:=ck2 BK154.out
    go_wp2
    refine bodyPost_ret (results_cell_row rfl _ _ gb154 28 #[.slice Ao25 x156000_1.length co25,.int .i64 a0_1] (0,0) _ rfl (by (with_reducible repeat (first|refine blk_drewN ?_ _|refine blk_drew ?_|refine blk_alloc ?_ _));refine blk_put (cs:=#[.slice Ao25 x156000_1.length co25,.int .i64 0]) ?_ 1 _ rfl;(with_reducible repeat (first|refine blk_drewN ?_ _|refine blk_drew ?_|refine blk_alloc ?_ _));refine blk_put (cs:=#[.slice none 0 0,.int .i64 0]) ?_ 0 _ rfl;(with_reducible repeat (first|refine blk_drewN ?_ _|refine blk_drew ?_|refine blk_alloc ?_ _));exact BK154.out) Try.underlying28 rfl (by kernel_rfl)) rfl ?_
    exact ⟨_,er,by (with_reducible repeat (first|apply Kd.R_alloc|apply Kd.R_drewN|apply Kd.R_drew));exact Kd.R_mono (Kd.R_far (p:=⟨gb154,1,none⟩) (Kd.R_far (p:=⟨gb154,0,none⟩) (Kd.R_types HO_156000.out BK154.out (by decide)) (fun _ hk=>hk.2) (.slice Ao25 x156000_1.length co25)) (fun _ hk=>hk.2) (.int .i64 a0_1)) (fun _ hk=>trivial),bl⟩

/-! ### spec_l03Find: function 40 -/
def spec_l03Find.l0:Nat→Int→Int→List (S56)→Int→Option (Int)
 | 0,_,_,_,_=>none
 | k + 1,x1,x5,x161000,x161001=>if x5 < (x161000.length:Int) then (if 0≤x5 then (if ((rd_T56 x161000 x5).f2)=x1 then (some x5) else (spec_l03Find.l0 k x1 (wrap64 (x5 + 1)) x161000 x161001)) else (none)) else (some (-1))
def spec_l03Find.f (k:Nat) (l0_0:List (S56)) (a0_1:Int) (a1:Int):Option (Int):=spec_l03Find.l0 k a1 0 l0_0 a0_1
theorem spec_l03Find.mono_l:∀ k,(∀ y0 y1 y2 y3,LeO (spec_l03Find.l0 k y0 y1 y2 y3) (spec_l03Find.l0 (k + 1) y0 y1 y2 y3))
 | 0=>fun _ _ _ _ r h=>by simp [spec_l03Find.l0] at h
 | k + 1=>by
  have ih0:=spec_l03Find.mono_l k
  ·intro y0 y1 y2 y3
   unfold spec_l03Find.l0
   repeat' first
   | (with_reducible exact ih0 _ _ _ _)
   | (with_reducible exact LeO.refl _)
   | (with_reducible exact LeO.none _)
   | (with_reducible refine LeO.ite ?_ ?_)
   | (with_reducible refine LeO.bind ?_ (fun _=>?_))
   | exact ih0 _ _ _ _
   | exact LeO.none _
   | refine LeO.ite ?_ ?_
   | refine LeO.bind ?_ (fun _=>?_)
theorem spec_l03Find.mono:∀ a0 a1 a2 k,LeO (spec_l03Find.f k a0 a1 a2) (spec_l03Find.f (k + 1) a0 a1 a2):=by
 intro a0 a1 a2 k
 have ih0:=spec_l03Find.mono_l k
 unfold spec_l03Find.f
 repeat' first
   | (with_reducible exact ih0 _ _ _ _)
   | (with_reducible exact LeO.refl _)
   | (with_reducible exact LeO.none _)
   | (with_reducible refine LeO.ite ?_ ?_)
   | (with_reducible refine LeO.bind ?_ (fun _=>?_))
   | exact ih0 _ _ _ _
   | exact LeO.none _
   | refine LeO.ite ?_ ?_
   | refine LeO.bind ?_ (fun _=>?_)
set_option maxHeartbeats 8000000 in
set_option maxRecDepth 100000 in
theorem spec_l03Find.calls (k:Nat) (A0_0:Option Addr) (c0_0:Nat) (l0_0:List (S56)) (a0_1:Int) (a1:Int) (r:Int) (w:World) (hr0_0:Kd.C k56 w A0_0 l0_0.length l0_0) (hc0_0:l0_0.length≤c0_0) (h:spec_l03Find.f k l0_0 a0_1 a1=some r) :
  Calls Try.prog 40 #[.agg #[.slice A0_0 l0_0.length c0_0,.int .i64 a0_1],.int .i64 a1] w fun e w'=>e = .returned (.int .i64 r)∧Below w.heap.size w w':=by
 have hu28:=Try.underlying28
 have HR0_0:=Aside0.mk hr0_0
 have HC0_0:=Aside0.mk hc0_0
 clear hr0_0 hc0_0
 have HB:=Aside0.mk (Below.refl w.heap.size w)
 have H:(spec_l03Find.l0 k a1 0 l0_0 a0_1)=some r:=h
 clear h
 have H':=Aside0.mk H
 clear H
 go_enter Try.func40,Try.ntmps40
 go_wp2_with (first|((with_reducible refine gate_dst (N:=2) rfl ?_);refine bx 2 #[.slice A0_0 l0_0.length c0_0,.int .i64 a0_1] 28 ?_;intro gb160 hg w3 hbox hb;have BK160:=Aside0.mk (hbox);have GW160:=Aside0.mk (bz hg:w.heap.size≤gb160);have GE160:=GW160;replace HB:=Aside0.mk (below_step bl hb);clear hb hbox hg))
 (try simp only [Act.put,List.setIfInBounds_toArray,List.set_cons_zero,List.set_cons_succ])
 go_loopg [5] k (fun kq v5 w'=>∃ (x5_1:Int),v5 = .int .i64 x5_1∧Aside0 (spec_l03Find.l0 kq a1 x5_1 l0_0 a0_1=some r)∧Aside0 (kq≤k)∧Aside0 (w'.heap[gb160]? = some (.cells #[(.slice A0_0 l0_0.length c0_0),.int .i64 a0_1] 28 (0,0)))∧Aside0 (Below w.heap.size w w'))
 case atStart=>exact ⟨(0),(by first|rfl|(simp;done)|(simp [*];done)),H',⟨Nat.le_refl _⟩,⟨bk BK160⟩,⟨bl⟩⟩
 case round =>
  clear H'
  try clear p2
  obtain ⟨x5_1,rfl,HA,HK1,BK160,HB⟩:=hrel
  cases gk with
  | zero=>exact absurd HA.out (by simp [spec_l03Find.l0])
  | succ k1 =>
   have H:=HA.out
   clear HA
   simp only [spec_l03Find.l0] at H
   by_cases c4:x5_1 < (l0_0.length:Int)
   ·rw [if_pos c4] at H
    have c4b0:decide (x5_1 < (l0_0.length:Int))=true:=decide_eq_true c4
    clear c4
    by_cases c5:0≤x5_1
    case neg =>
     rw [if_neg c5] at H
     exact absurd H (by simp)
    rw [if_pos c5] at H
    have c5b0:decide (0≤x5_1)=true:=decide_eq_true c5
    clear c5
    by_cases c6:((rd_T56 l0_0 x5_1).f2)=a1
    ·rw [if_pos c6] at H
     have c6b0:(((rd_T56 l0_0 x5_1).f2) == a1)=true:=beq_iff_eq.mpr c6
     have c6b1:(((rd_T56 l0_0 x5_1).f2) != a1)=false:=bne_eq_false_iff_eq.mpr c6
     clear c6
     obtain rfl:=Option.some.inj H
     obtain ⟨hcz7_0,hcz7_1,hfz7_0,hfz7_1⟩:=ck2 BK160.out
     have p161:0≤(x5_1:Int):=od
     have q161:x5_1 < (l0_0.length:Int):=od
     obtain ⟨ad161,e161,hx161_0,hx161_1,hx161_2⟩:=at_T56 HR0_0.out x5_1 p161 q161
     cases e161
     replace hx161_0:=cl HB hx161_0
     replace hx161_1:=cl HB hx161_1
     replace hx161_2:=cl HB hx161_2
     replace p161:=eq_true p161
     replace q161:=eq_true q161
     go_wp2
     go_ret
     exact ⟨er,bl⟩
    ·rw [if_neg c6] at H
     have c6b0:(((rd_T56 l0_0 x5_1).f2) == a1)=false:=beq_eq_false_iff_ne.mpr c6
     have c6b1:(((rd_T56 l0_0 x5_1).f2) != a1)=true:=bne_iff_ne.mpr c6
     have H':=Aside0.mk H
     clear H
     obtain ⟨hcz8_0,hcz8_1,hfz8_0,hfz8_1⟩:=ck2 BK160.out
     have p161:0≤(x5_1:Int):=od
     have q161:x5_1 < (l0_0.length:Int):=od
     obtain ⟨ad161,e161,hx161_0,hx161_1,hx161_2⟩:=at_T56 HR0_0.out x5_1 p161 q161
     cases e161
     replace hx161_0:=cl HB hx161_0
     replace hx161_1:=cl HB hx161_1
     replace hx161_2:=cl HB hx161_2
     replace p161:=eq_true p161
     replace q161:=eq_true q161
     go_wp2
     go_roundg k1
     case measure=>have:=HK1.out;omega
     case rel=>exact ⟨(wrap64 (x5_1 + 1)),(by first|rfl|(simp;done)|(simp [*];done)),H',⟨by have:=HK1.out;omega⟩,⟨bk BK160⟩,⟨bl⟩⟩
   ·rw [if_neg c4] at H
    have c4b0:decide (x5_1 < (l0_0.length:Int))=false:=decide_eq_false c4
    clear c4
    obtain rfl:=Option.some.inj H
    obtain ⟨hcz9_0,hcz9_1,hfz9_0,hfz9_1⟩:=ck2 BK160.out
    go_wp2
    go_ret
    exact ⟨er,bl⟩

end Go.Proofs.Ytdffkcbaijbhoaa.PFnExactSchedule
