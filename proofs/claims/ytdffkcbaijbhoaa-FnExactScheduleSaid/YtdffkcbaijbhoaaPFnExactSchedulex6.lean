/- Contracts of functions of the given program: what each call answers. Written by a program of this session, out of the text of the functions. -/
import Derived.Test.YtdffkcbaijbhoaaPFnExactSchedulex0
import Derived.Test.YtdffkcbaijbhoaaPFnExactSchedulex2
import Derived.Test.YtdffkcbaijbhoaaPrs
namespace Go.Proofs.Ytdffkcbaijbhoaa.PFnExactSchedule
open Go.RowKit Go.Proofs.YtdffkcbaijbhoaaW.PrintWords Go.Proofs.YtdffkcbaijbhoaaW.PrintLast Go.Proofs.YtdffkcbaijbhoaaW.PrintMore Go.Proofs.Ytdffkcbaijbhoaa.Giv Go.Proofs.Ytdffkcbaijbhoaa.Prs
attribute [local go_sem] max2_int min2_int max_two min_two max_three min_three max_four min_four   -- for this text's walks alone
set_option linter.unusedVariables false
set_option linter.unusedSimpArgs false

/-! ### spec_l03Down: function 42 -/
mutual
def spec_l03Down.l0:Nat→List (S56)→Int→Option ((List (S56)))
 | 0,_,_=>none
 | k + 1,x0,x1=>if (wrap64 ((wrap64 (2 * x1)) + 1)) ≥ (x0.length:Int) then (some x0) else (if (wrap64 ((wrap64 ((wrap64 (2 * x1)) + 1)) + 1)) < (x0.length:Int) then (if 0≤(wrap64 ((wrap64 ((wrap64 (2 * x1)) + 1)) + 1)) then (if 0≤(wrap64 ((wrap64 (2 * x1)) + 1)) then (if (wrap64 ((wrap64 (2 * x1)) + 1)) < (x0.length:Int) then ((spec_l03Before.f ((rd_T56 x0 (wrap64 ((wrap64 ((wrap64 (2 * x1)) + 1)) + 1))).f0) ((rd_T56 x0 (wrap64 ((wrap64 ((wrap64 (2 * x1)) + 1)) + 1))).f1) ((rd_T56 x0 (wrap64 ((wrap64 ((wrap64 (2 * x1)) + 1)) + 1))).f2) ((rd_T56 x0 (wrap64 ((wrap64 (2 * x1)) + 1))).f0) ((rd_T56 x0 (wrap64 ((wrap64 (2 * x1)) + 1))).f1) ((rd_T56 x0 (wrap64 ((wrap64 (2 * x1)) + 1))).f2)).bind fun t172=>(spec_l03Down.j1 k x0 x1 (wrap64 ((wrap64 (2 * x1)) + 1)) t172)) else (none)) else (none)) else (none)) else (spec_l03Down.j1 k x0 x1 (wrap64 ((wrap64 (2 * x1)) + 1)) false))
def spec_l03Down.j1:Nat→List (S56)→Int→Int→Bool→Option ((List (S56)))
 | 0,_,_,_,_=>none
 | k + 1,x0,x1,x4,x29=>if x29=true then (if 0≤(wrap64 (x4 + 1)) then (if (wrap64 (x4 + 1)) < (x0.length:Int) then (if 0≤x1 then (if x1 < (x0.length:Int) then ((spec_l03Before.f ((rd_T56 x0 (wrap64 (x4 + 1))).f0) ((rd_T56 x0 (wrap64 (x4 + 1))).f1) ((rd_T56 x0 (wrap64 (x4 + 1))).f2) ((rd_T56 x0 x1).f0) ((rd_T56 x0 x1).f1) ((rd_T56 x0 x1).f2)).bind fun t175=>(if t175=true then (spec_l03Down.l0 k ((x0.set (x1:Int).toNat (⟨(rd_T56 x0 (wrap64 (x4 + 1))).f0,(rd_T56 x0 (wrap64 (x4 + 1))).f1,(rd_T56 x0 (wrap64 (x4 + 1))).f2⟩:S56)).set ((wrap64 (x4 + 1)):Int).toNat (⟨(rd_T56 x0 x1).f0,(rd_T56 x0 x1).f1,(rd_T56 x0 x1).f2⟩:S56)) (wrap64 (x4 + 1))) else (some x0))) else (none)) else (none)) else (none)) else (none)) else (if 0≤x4 then (if x4 < (x0.length:Int) then (if 0≤x1 then (if x1 < (x0.length:Int) then ((spec_l03Before.f ((rd_T56 x0 x4).f0) ((rd_T56 x0 x4).f1) ((rd_T56 x0 x4).f2) ((rd_T56 x0 x1).f0) ((rd_T56 x0 x1).f1) ((rd_T56 x0 x1).f2)).bind fun t183=>(if t183=true then (spec_l03Down.l0 k ((x0.set (x1:Int).toNat (⟨(rd_T56 x0 x4).f0,(rd_T56 x0 x4).f1,(rd_T56 x0 x4).f2⟩:S56)).set (x4:Int).toNat (⟨(rd_T56 x0 x1).f0,(rd_T56 x0 x1).f1,(rd_T56 x0 x1).f2⟩:S56)) x4) else (some x0))) else (none)) else (none)) else (none)) else (none))
end
def spec_l03Down.f (k:Nat) (l0:List (S56)) (a1:Int):Option ((List (S56))):=spec_l03Down.l0 k l0 a1
theorem spec_l03Down.mono_l:∀ k,(∀ y0 y1,LeO (spec_l03Down.l0 k y0 y1) (spec_l03Down.l0 (k + 1) y0 y1))∧(∀ y0 y1 y2 y3,LeO (spec_l03Down.j1 k y0 y1 y2 y3) (spec_l03Down.j1 (k + 1) y0 y1 y2 y3))
 | 0=>⟨fun _ _ r h=>by simp [spec_l03Down.l0] at h,fun _ _ _ _ r h=>by simp [spec_l03Down.j1] at h⟩
 | k + 1=>by
  obtain ⟨ih0,ih1⟩:=spec_l03Down.mono_l k
  refine ⟨?_,?_⟩
  ·intro y0 y1
   unfold spec_l03Down.l0
   repeat' first
   | (with_reducible exact ih0 _ _)
   | (with_reducible exact ih1 _ _ _ _)
   | (with_reducible exact LeO.refl _)
   | (with_reducible exact LeO.none _)
   | (with_reducible refine LeO.ite ?_ ?_)
   | (with_reducible refine LeO.bind ?_ (fun _=>?_))
   | exact ih0 _ _
   | exact ih1 _ _ _ _
   | exact LeO.none _
   | refine LeO.ite ?_ ?_
   | refine LeO.bind ?_ (fun _=>?_)
  ·intro y0 y1 y2 y3
   unfold spec_l03Down.j1
   repeat' first
   | (with_reducible exact ih0 _ _)
   | (with_reducible exact ih1 _ _ _ _)
   | (with_reducible exact LeO.refl _)
   | (with_reducible exact LeO.none _)
   | (with_reducible refine LeO.ite ?_ ?_)
   | (with_reducible refine LeO.bind ?_ (fun _=>?_))
   | exact ih0 _ _
   | exact ih1 _ _ _ _
   | exact LeO.none _
   | refine LeO.ite ?_ ?_
   | refine LeO.bind ?_ (fun _=>?_)
theorem spec_l03Down.mono:∀ a0 a1 k,LeO (spec_l03Down.f k a0 a1) (spec_l03Down.f (k + 1) a0 a1):=by
 intro a0 a1 k
 obtain ⟨ih0,ih1⟩:=spec_l03Down.mono_l k
 unfold spec_l03Down.f
 repeat' first
   | (with_reducible exact ih0 _ _)
   | (with_reducible exact ih1 _ _ _ _)
   | (with_reducible exact LeO.refl _)
   | (with_reducible exact LeO.none _)
   | (with_reducible refine LeO.ite ?_ ?_)
   | (with_reducible refine LeO.bind ?_ (fun _=>?_))
   | exact ih0 _ _
   | exact ih1 _ _ _ _
   | exact LeO.none _
   | refine LeO.ite ?_ ?_
   | refine LeO.bind ?_ (fun _=>?_)
def spec_l03Down.T2:Bool × List (List Nat × List Nat):=(true,[([],[]),([0],[0]),([],[]),([2],[2]),([1,3],[1,3]),([4],[4]),([5],[5]),([5],[5]),([7,5],[5,7]),([6,8,5],[5,6,8]),([9,5],[5,9]),([5],[5]),([5],[5]),([11,12,5],[5,11,12]),([13,5],[5,13]),([10,14,5,5],[5,10,14]),([5,15],[5,15])])
def spec_l03Down.B2:List Nat:=[0,1,0,4,15,31,63,63,191,511,1023,63,63,6207,14399,32767,65535]
theorem spec_l03Down.tab2:rtab .any (opsOf Try.f42 2)=spec_l03Down.T2:=by kernel_rfl
theorem spec_l03Down.bits2:waitsOk spec_l03Down.T2.2 spec_l03Down.B2=true:=by kernel_rfl
def spec_l03Down.T4:Bool × List (List Nat × List Nat):=(true,[([],[]),([],[]),([0,1],[0,1]),([2],[2]),([],[]),([],[]),([4,5],[4,5]),([6],[6]),([3,7],[3,7]),([8],[8])])
def spec_l03Down.B4:List Nat:=[0,0,3,7,0,0,48,112,255,511]
theorem spec_l03Down.tab4:rtab .any (opsOf Try.f42 4)=spec_l03Down.T4:=by kernel_rfl
theorem spec_l03Down.bits4:waitsOk spec_l03Down.T4.2 spec_l03Down.B4=true:=by kernel_rfl
set_option maxHeartbeats 8000000 in
set_option maxRecDepth 100000 in
theorem spec_l03Down.calls (k:Nat) (P0_:Nat→Prop) (u9000_:Value) (l0:List (S56)) (a1:Int) (r:List (S56)) (w0 w:World) (hB:Below w0.heap.size w0 w) (ho0:Kd.R k56 56 w w0.heap.size P0_ u9000_ l0) (h:spec_l03Down.f k l0 a1=some r) :
  Calls Try.prog 42 #[u9000_,.int .i64 a1] w fun e w'=>e = .returned (.tuple #[])∧Kd.R k56 56 w' w0.heap.size (fun k_=>(P0_ k_∨w.heap.size≤k_)) u9000_ r∧Below w0.heap.size w0 w'∧Kept w w' (fun k_=>P0_ k_):=by
 have hu56:=Try.underlying56
 have HO0:=Aside0.mk (show Kd.R k56 56 w w0.heap.size (fun k_=>(P0_ k_∨w.heap.size≤k_)) u9000_ l0 from Kd.R_mono ho0 (fun k_ hk=>(.inl hk)))
 have HK:=Aside0.mk (Kept.refl w (fun k_=>P0_ k_))
 have HW0:=Aside0.mk hB.size
 have HB:=Aside0.mk hB
 clear hB
 have H:(spec_l03Down.l0 k l0 a1)=some r:=h
 clear h
 have H':=Aside0.mk H
 clear H
 go_enter Try.func42,Try.ntmps42
 go_wp2
 go_loopg [1] k (fun kq v1 w'=>∃ (x0_1:List (S56)) (x1_1:Int),v1 = .int .i64 x1_1∧Aside0 (spec_l03Down.l0 kq x0_1 x1_1=some r)∧Aside0 (kq≤k)∧Aside0 (Kd.R k56 56 w' w0.heap.size (fun k_=>(P0_ k_∨w.heap.size≤k_)) u9000_ x0_1)∧Aside0 (Kept w w' (fun k_=>P0_ k_))∧Aside0 (Below w0.heap.size w0 w'))
 case atStart=>exact ⟨(l0),(a1),(by first|rfl|(simp;done)|(simp [*];done)),H',⟨Nat.le_refl _⟩,⟨kr HO0⟩,⟨by repeat (first|(with_reducible first|exact HK.out|apply Kept.alloc|apply Kept.drewN|apply Kept.drew)|exact HK.out)⟩,⟨bl⟩⟩
 case round =>
  clear H'
  try clear p2
  obtain ⟨x0_1,x1_1,rfl,HA,HK1,HO_0,HK,HB⟩:=hrel
  cases gk with
  | zero=>exact absurd HA.out (by simp [spec_l03Down.l0])
  | succ k1 =>
   have H:=HA.out
   clear HA
   simp only [spec_l03Down.l0] at H
   by_cases c3:(wrap64 ((wrap64 (2 * x1_1)) + 1)) ≥ (x0_1.length:Int)
   ·rw [if_pos c3] at H
    have c3b0:decide ((x0_1.length:Int)≤(wrap64 ((wrap64 (2 * x1_1)) + 1)))=true:=decide_eq_true c3
    clear c3
    obtain rfl:=Option.some.inj H
    obtain ⟨Ao4,co4,eo4⟩:=Kd.R_slice HO_0.out
    subst eo4
    go_wp2
    first|go_end0|((try simp only [Exit.inBlock,Exit.then]);refine bodyPost_ret (results_none rfl _ _ _) rfl ?_)
    exact ⟨er,kr HO_0,bl,by repeat (first|(with_reducible first|exact HK.out|apply Kept.alloc|apply Kept.drewN|apply Kept.drew)|exact HK.out)⟩
   ·rw [if_neg c3] at H
    have c3b0:decide ((x0_1.length:Int)≤(wrap64 ((wrap64 (2 * x1_1)) + 1)))=false:=decide_eq_false c3
    clear c3
    have HC5:=Aside0.mk H
    clear H
    obtain ⟨Ao6,co6,eo6⟩:=Kd.R_slice HO_0.out
    subst eo6
    go_upto_region 2 with (fail)
    go_cut [29] (fun v29 wc=>∃ (kq:Nat) (x29_4:Bool),v29 = .bool x29_4∧Aside0 (spec_l03Down.j1 kq x0_1 x1_1 (wrap64 ((wrap64 (2 * x1_1)) + 1)) x29_4=some r)∧Aside0 (kq≤k1)∧Aside0 (Kd.R k56 56 wc w0.heap.size (fun k_=>(P0_ k_∨w.heap.size≤k_)) (.slice Ao6 x0_1.length co6) x0_1)∧Aside0 (Kept w wc (fun k_=>P0_ k_))∧Aside0 (Below w0.heap.size w0 wc))
    case first =>
     have H:=HC5.out
     clear HC5
     by_cases c7:(wrap64 ((wrap64 ((wrap64 (2 * x1_1)) + 1)) + 1)) < (x0_1.length:Int)
     ·rw [if_pos c7] at H
      have c7b0:decide ((wrap64 ((wrap64 ((wrap64 (2 * x1_1)) + 1)) + 1)) < (x0_1.length:Int))=true:=decide_eq_true c7
      clear c7
      (first|rw [c7b0]|(simp only [i64_w,i32_w];rw [c7b0])|skip)
      obtain ⟨ji8,hji8⟩:∃ j_:Int,(wrap64 ((wrap64 ((wrap64 (2 * x1_1)) + 1)) + 1))=j_:=⟨_,rfl⟩
      first|rw [hji8] at H|simp only [hji8] at H
      (try rw [hji8] at c7b0)
      have hji8w:(IntKind.i64.wrap ((wrap64 ((wrap64 (2 * x1_1)) + 1)) + 1))=ji8:=(i64_w _).trans hji8
      by_cases c9:0≤(ji8)
      case neg =>
       rw [if_neg c9] at H
       exact absurd H (by simp)
      rw [if_pos c9] at H
      have c9b0:decide (0≤(ji8))=true:=decide_eq_true c9
      clear c9
      obtain ⟨ji10,hji10⟩:∃ j_:Int,(wrap64 ((wrap64 (2 * x1_1)) + 1))=j_:=⟨_,rfl⟩
      (try (have hnji8ji10:(wrap64 (ji10 + 1))=ji8:=by rw [← hji10];exact hji8))
      (try (have hnji8ji10w:(IntKind.i64.wrap (ji10 + 1))=ji8:=(i64_w _).trans hnji8ji10))
      first|rw [hji10] at H|simp only [hji10] at H
      (try rw [hji10] at c3b0)
      (try rw [hji10] at c7b0)
      have hji10w:(IntKind.i64.wrap ((wrap64 (2 * x1_1)) + 1))=ji10:=(i64_w _).trans hji10
      by_cases c11:0≤(ji10)
      case neg =>
       rw [if_neg c11] at H
       exact absurd H (by simp)
      rw [if_pos c11] at H
      have c11b0:decide (0≤(ji10))=true:=decide_eq_true c11
      clear c11
      by_cases c12:(ji10) < (x0_1.length:Int)
      case neg =>
       rw [if_neg c12] at H
       exact absurd H (by simp)
      rw [if_pos c12] at H
      have c12b0:decide ((ji10) < (x0_1.length:Int))=true:=decide_eq_true c12
      clear c12
      replace H:=Option.bind_eq_some_iff.mp H
      obtain ⟨t172,A130,H⟩:=H
      have A13:=Aside0.mk A130
      clear A130
      have H':=Aside0.mk H
      clear H
      try go_wp2
      replace HO_0:=Aside0.mk (Kd.R_drew HO_0.out)
      replace HK:=Aside0.mk (Kept.drew HK.out)
      replace HB:=Aside0.mk (below_drew1 HB.out)
      have p170:0≤((ji8):Int):=od
      have q170:(ji8) < (x0_1.length:Int):=od
      obtain ⟨ad170,e170,hx170_0,hx170_1,hx170_2⟩:=at_T56 (Kd.R_reads' HO_0.out).2.2 (ji8) p170 q170
      cases e170
      replace p170:=eq_true p170
      replace q170:=eq_true q170
      have p171:0≤((ji10):Int):=od
      have q171:(ji10) < (x0_1.length:Int):=od
      obtain ⟨ad171,e171,hx171_0,hx171_1,hx171_2⟩:=at_T56 (Kd.R_reads' HO_0.out).2.2 (ji10) p171 q171
      obtain rfl:ad170=ad171:=(by injection e171)
      replace p171:=eq_true p171
      replace q171:=eq_true q171
      refine start_ (n:=17) (S:=fun w'=>w'.cell? (ad170.add (((ji8)).toNat * 3))=some (.int .i64 ((rd_T56 x0_1 (ji8)).f0))∧w'.cell? ⟨(ad170.add (((ji8)).toNat * 3)).block,(ad170.add (((ji8)).toNat * 3)).off + 1,none⟩=some (.int .i64 ((rd_T56 x0_1 (ji8)).f1))∧w'.cell? ⟨(ad170.add (((ji8)).toNat * 3)).block,(ad170.add (((ji8)).toNat * 3)).off + 2,none⟩=some (.int .i64 ((rd_T56 x0_1 (ji8)).f2))∧w'.cell? (ad170.add (((ji10)).toNat * 3))=some (.int .i64 ((rd_T56 x0_1 (ji10)).f0))∧w'.cell? ⟨(ad170.add (((ji10)).toNat * 3)).block,(ad170.add (((ji10)).toNat * 3)).off + 1,none⟩=some (.int .i64 ((rd_T56 x0_1 (ji10)).f1))∧w'.cell? ⟨(ad170.add (((ji10)).toNat * 3)).block,(ad170.add (((ji10)).toNat * 3)).off + 2,none⟩=some (.int .i64 ((rd_T56 x0_1 (ji10)).f2))) (ds:=[]) (bs 17 0) (by kernel_rfl) rfl rfl ⟨hx170_0,hx170_1,hx170_2,hx171_0,hx171_1,hx171_2⟩ (fun hHeld=>?_);refine with_tabW spec_l03Down.tab2 spec_l03Down.bits2 (fun HT_ HW_=>?_)
      generalize wr.drew=w14 at HO_0 HK HB hx170_0 hx170_1 hx170_2 hx171_0 hx171_1 hx171_2 hHeld ⊢
      refine pq 0 13 (bs 17 1) HT_ ?_
      refine pq 1 14 (bs 17 3) HT_ ?_
      refine pq 2 15 (bs 17 7) HT_ ?_
      refine pq 3 16 (bs 17 15) HT_ ?_
      refine pq 4 17 (bs 17 31) HT_ ?_
      refine pq 5 18 (bs 17 63) HT_ ?_
      refine pq 6 19 (bs 17 127) HT_ ?_
      refine pq 7 20 (bs 17 255) HT_ ?_
      refine pq 8 21 (bs 17 511) HT_ ?_
      refine pq 9 22 (bs 17 1023) HT_ ?_
      refine pq 11 24 (bs 17 3071) HT_ ?_
      refine pq 12 25 (bs 17 7167) HT_ ?_
      refine pq 13 26 (bs 17 15359) HT_ ?_
      refine tq 10 23 (bs 17 16383) HT_ HW_ hHeld ?_
      refine tq 14 27 (bs 17 32767) HT_ HW_ hHeld ?_
      refine one_ (i:=15) (N:=some 28) (bs 17 65535) rfl rfl (one_of HT_.out (by kernel_rfl)) (by decide) (fun K hK=>?_)
      refine goes_ Try.func68 (by kernel_rfl) rfl #[.agg #[.int .i64 ((rd_T56 x0_1 (ji8)).f0),.int .i64 ((rd_T56 x0_1 (ji8)).f1),.int .i64 ((rd_T56 x0_1 (ji8)).f2)],.agg #[.int .i64 ((rd_T56 x0_1 (ji10)).f0),.int .i64 ((rd_T56 x0_1 (ji10)).f1),.int .i64 ((rd_T56 x0_1 (ji10)).f2)]] (by rfl) rfl rfl (by (try simp only [List.map_toArray,List.map_cons,List.map_nil]);first|done|(simp only [hji10,hji8];rfl)|rfl|(simp only [List.length_drop,List.length_take];rfl)) ?_
      with_reducible refine (spec_l03Before.calls ((rd_T56 x0_1 (ji8)).f0) ((rd_T56 x0_1 (ji8)).f1) ((rd_T56 x0_1 (ji8)).f2) ((rd_T56 x0_1 (ji10)).f0) ((rd_T56 x0_1 (ji10)).f1) ((rd_T56 x0_1 (ji10)).f2) t172 _ A13.out).mono ?_
      rintro e w15 ⟨rfl,hb⟩
      have HS0_:=(hb.cell (World.block_lt_of_cell? _ _ (hHeld.1))).trans (hHeld.1)
      have HS1_:=(hb.cell (World.block_lt_of_cell? _ _ (hHeld.2.1))).trans (hHeld.2.1)
      have HS2_:=(hb.cell (World.block_lt_of_cell? _ _ (hHeld.2.2.1))).trans (hHeld.2.2.1)
      have HS3_:=(hb.cell (World.block_lt_of_cell? _ _ (hHeld.2.2.2.1))).trans (hHeld.2.2.2.1)
      have HS4_:=(hb.cell (World.block_lt_of_cell? _ _ (hHeld.2.2.2.2.1))).trans (hHeld.2.2.2.2.1)
      have HS5_:=(hb.cell (World.block_lt_of_cell? _ _ (hHeld.2.2.2.2.2))).trans (hHeld.2.2.2.2.2)
      refine ⟨_,rfl,?_⟩
      replace HO_0:=Aside0.mk (Kd.R_below (kr HO_0) hb)
      replace HK:=Aside0.mk (Kept.below (S:=(fun k_=>P0_ k_)) (by repeat (first|(with_reducible first|exact HK.out|apply Kept.alloc|apply Kept.drewN|apply Kept.drew)|exact HK.out)) hb)
      replace HB:=Aside0.mk (below_step bl hb)
      (try clear hb)
      (try clear hb2)
      (try clear hk)
      (try clear hi)
      refine hK.out _ _ ⟨HS0_,HS1_,HS2_,HS3_,HS4_,HS5_⟩ (fun hHeld=>?_)
      clear hK K
      refine nrm ?_
      refine pq 16 29 (bs 17 131071) HT_ ?_
      refine done_ (done_of HT_.out (by kernel_rfl)) ?_
      try go_wp2
      (try subst hji10)
      (try subst hji8)
      go_meet
      case rel=>exact ⟨_,(t172),(by first|rfl|(simp;done)|(simp [*];done)),H',⟨by have:=HK1.out;first|omega|exact Nat.le_refl _⟩,⟨kr HO_0⟩,⟨by repeat (first|(with_reducible first|exact HK.out|apply Kept.alloc|apply Kept.drewN|apply Kept.drew)|exact HK.out)⟩,⟨bl⟩⟩
     ·rw [if_neg c7] at H
      have c7b0:decide ((wrap64 ((wrap64 ((wrap64 (2 * x1_1)) + 1)) + 1)) < (x0_1.length:Int))=false:=decide_eq_false c7
      clear c7
      (first|rw [c7b0]|(simp only [i64_w,i32_w];rw [c7b0])|skip)
      have H':=Aside0.mk H
      clear H
      try go_wp2
      replace HO_0:=Aside0.mk (Kd.R_drew HO_0.out)
      replace HK:=Aside0.mk (Kept.drew HK.out)
      replace HB:=Aside0.mk (below_drew1 HB.out)
      refine start_ (n:=17) (S:=fun w'=>True) (ds:=[]) (bs 17 0) (by kernel_rfl) rfl rfl trivial (fun hHeld=>?_);refine with_tabW spec_l03Down.tab2 spec_l03Down.bits2 (fun HT_ HW_=>?_)
      generalize wr.drew=w16 at HO_0 HK HB hHeld ⊢
      refine pq 0 13 (bs 17 1) HT_ ?_
      refine pq 1 14 (bs 17 3) HT_ ?_
      refine pq 2 15 (bs 17 7) HT_ ?_
      refine pq 3 16 (bs 17 15) HT_ ?_
      refine pq 4 17 (bs 17 31) HT_ ?_
      refine pq 5 18 (bs 17 63) HT_ ?_
      refine uq 6 19 (bs 17 127) HT_ ?_
      refine uq 7 20 (bs 17 255) HT_ ?_
      refine uq 8 21 (bs 17 511) HT_ ?_
      refine uq 9 22 (bs 17 1023) HT_ ?_
      refine uq 10 23 (bs 17 2047) HT_ ?_
      refine uq 11 24 (bs 17 4095) HT_ ?_
      refine uq 12 25 (bs 17 8191) HT_ ?_
      refine uq 13 26 (bs 17 16383) HT_ ?_
      refine uq 14 27 (bs 17 32767) HT_ ?_
      refine uq 15 28 (bs 17 65535) HT_ ?_
      refine pq 16 29 (bs 17 131071) HT_ ?_
      refine done_ (done_of HT_.out (by kernel_rfl)) ?_
      try go_wp2
      go_meet
      case rel=>exact ⟨_,(false),(by first|rfl|(simp;done)|(simp [*];done)),H',⟨by have:=HK1.out;first|omega|exact Nat.le_refl _⟩,⟨kr HO_0⟩,⟨by repeat (first|(with_reducible first|exact HK.out|apply Kept.alloc|apply Kept.drewN|apply Kept.drew)|exact HK.out)⟩,⟨bl⟩⟩
    case rest =>
     clear HC5
     try clear c1
     try clear p1
     try clear q1
     try clear hx1
     try clear p2
     try clear c3
     try clear c3b0
     try clear c4
     try clear c6
     try clear p6
     try clear c7
     try clear c7b0
     try clear c9
     try clear c9b0
     try clear c11
     try clear c11b0
     try clear c12
     try clear c12b0
     try clear hx170_0
     try clear hx170_1
     try clear hx170_2
     try clear hx171_0
     try clear hx171_1
     try clear hx171_2
     try clear p170
     try clear p171
     try clear p2
     try clear q170
     try clear q171
     obtain ⟨kq,x29_4,rfl,HA,HJ4,HO_0,HK,HB⟩:=hcut
     cases kq with
     | zero=>exact absurd HA.out (by simp [spec_l03Down.j1])
     | succ kj4 =>
      have H:=HA.out
      clear HA
      simp only [spec_l03Down.j1] at H
      by_cases c17:x29_4=true
      ·subst c17
       rw [if_pos rfl] at H
       obtain ⟨ji18,hji18⟩:∃ j_:Int,(wrap64 ((wrap64 ((wrap64 (2 * x1_1)) + 1)) + 1))=j_:=⟨_,rfl⟩
       first|rw [hji18] at H|simp only [hji18] at H
       have hji18w:(IntKind.i64.wrap ((wrap64 ((wrap64 (2 * x1_1)) + 1)) + 1))=ji18:=(i64_w _).trans hji18
       by_cases c19:0≤(ji18)
       case neg =>
        rw [if_neg c19] at H
        exact absurd H (by simp)
       rw [if_pos c19] at H
       have c19b0:decide (0≤(ji18))=true:=decide_eq_true c19
       clear c19
       by_cases c20:(ji18) < (x0_1.length:Int)
       case neg =>
        rw [if_neg c20] at H
        exact absurd H (by simp)
       rw [if_pos c20] at H
       have c20b0:decide ((ji18) < (x0_1.length:Int))=true:=decide_eq_true c20
       clear c20
       by_cases c21:0≤x1_1
       case neg =>
        rw [if_neg c21] at H
        exact absurd H (by simp)
       rw [if_pos c21] at H
       have c21b0:decide (0≤x1_1)=true:=decide_eq_true c21
       clear c21
       by_cases c22:x1_1 < (x0_1.length:Int)
       case neg =>
        rw [if_neg c22] at H
        exact absurd H (by simp)
       rw [if_pos c22] at H
       have c22b0:decide (x1_1 < (x0_1.length:Int))=true:=decide_eq_true c22
       clear c22
       replace H:=Option.bind_eq_some_iff.mp H
       obtain ⟨t175,A230,H⟩:=H
       have A23:=Aside0.mk A230
       clear A230
       by_cases c24:t175=true
       ·subst c24
        rw [if_pos rfl] at H
        obtain ⟨y179,hy179⟩:∃ y_:List (S56),y_=(x0_1.set (x1_1:Int).toNat (⟨(rd_T56 x0_1 (ji18)).f0,(rd_T56 x0_1 (ji18)).f1,(rd_T56 x0_1 (ji18)).f2⟩:S56)):=⟨_,rfl⟩
        replace H:(spec_l03Down.l0 kj4 (y179.set ((ji18):Int).toNat (⟨(rd_T56 x0_1 x1_1).f0,(rd_T56 x0_1 x1_1).f1,(rd_T56 x0_1 x1_1).f2⟩:S56)) ji18)=some r:=by first|(rw [hy179];with_reducible exact H)|(have H2_:=(Option.bind_some _ _).symm.trans H;rw [hy179];with_reducible exact H2_)|(have H2_:=(Option.bind_some _ _).symm.trans H;with_reducible exact H2_)|with_reducible exact H|(rw [hy179];exact H)|exact H
        have Ny179:=Aside0.mk hy179
        clear hy179
        obtain ⟨y180,hy180⟩:∃ y_:List (S56),y_=(y179.set ((ji18):Int).toNat (⟨(rd_T56 x0_1 x1_1).f0,(rd_T56 x0_1 x1_1).f1,(rd_T56 x0_1 x1_1).f2⟩:S56)):=⟨_,rfl⟩
        replace H:(spec_l03Down.l0 kj4 y180 ji18)=some r:=by first|(rw [hy180];with_reducible exact H)|(have H2_:=(Option.bind_some _ _).symm.trans H;rw [hy180];with_reducible exact H2_)|(have H2_:=(Option.bind_some _ _).symm.trans H;with_reducible exact H2_)|with_reducible exact H|(rw [hy180];exact H)|exact H
        have Ny180:=Aside0.mk hy180
        clear hy180
        have H':=Aside0.mk H
        clear H
        try go_wp2
        replace HO_0:=Aside0.mk (Kd.R_drew HO_0.out)
        replace HK:=Aside0.mk (Kept.drew HK.out)
        replace HB:=Aside0.mk (below_drew1 HB.out)
        have p173:0≤((ji18):Int):=od
        have q173:(ji18) < (x0_1.length:Int):=od
        obtain ⟨ad173,e173,hx173_0,hx173_1,hx173_2⟩:=at_T56 (Kd.R_reads' HO_0.out).2.2 (ji18) p173 q173
        cases e173
        replace p173:=eq_true p173
        replace q173:=eq_true q173
        have p174:0≤(x1_1:Int):=od
        have q174:x1_1 < (x0_1.length:Int):=od
        obtain ⟨ad174,e174,hx174_0,hx174_1,hx174_2⟩:=at_T56 (Kd.R_reads' HO_0.out).2.2 x1_1 p174 q174
        obtain rfl:ad173=ad174:=(by injection e174)
        replace p174:=eq_true p174
        replace q174:=eq_true q174
        refine start_ (n:=10) (S:=fun w'=>w'.cell? (ad173.add (((ji18)).toNat * 3))=some (.int .i64 ((rd_T56 x0_1 (ji18)).f0))∧w'.cell? ⟨(ad173.add (((ji18)).toNat * 3)).block,(ad173.add (((ji18)).toNat * 3)).off + 1,none⟩=some (.int .i64 ((rd_T56 x0_1 (ji18)).f1))∧w'.cell? ⟨(ad173.add (((ji18)).toNat * 3)).block,(ad173.add (((ji18)).toNat * 3)).off + 2,none⟩=some (.int .i64 ((rd_T56 x0_1 (ji18)).f2))∧w'.cell? (ad173.add ((x1_1).toNat * 3))=some (.int .i64 ((rd_T56 x0_1 x1_1).f0))∧w'.cell? ⟨(ad173.add ((x1_1).toNat * 3)).block,(ad173.add ((x1_1).toNat * 3)).off + 1,none⟩=some (.int .i64 ((rd_T56 x0_1 x1_1).f1))∧w'.cell? ⟨(ad173.add ((x1_1).toNat * 3)).block,(ad173.add ((x1_1).toNat * 3)).off + 2,none⟩=some (.int .i64 ((rd_T56 x0_1 x1_1).f2))) (ds:=[]) (bs 10 0) (by kernel_rfl) rfl rfl ⟨hx173_0,hx173_1,hx173_2,hx174_0,hx174_1,hx174_2⟩ (fun hHeld=>?_);refine with_tabW spec_l03Down.tab4 spec_l03Down.bits4 (fun HT_ HW_=>?_)
        generalize wc.drew=w27 at HO_0 HK HB hx173_0 hx173_1 hx173_2 hx174_0 hx174_1 hx174_2 hHeld ⊢
        refine pq 0 32 (bs 10 1) HT_ ?_
        refine pq 1 33 (bs 10 3) HT_ ?_
        refine pq 2 34 (bs 10 7) HT_ ?_
        refine pq 4 36 (bs 10 23) HT_ ?_
        refine pq 5 37 (bs 10 55) HT_ ?_
        refine pq 6 38 (bs 10 119) HT_ ?_
        refine tq 3 35 (bs 10 127) HT_ HW_ hHeld ?_
        refine tq 7 39 (bs 10 255) HT_ HW_ hHeld ?_
        refine one_ (i:=8) (N:=some 40) (bs 10 511) rfl rfl (one_of HT_.out (by kernel_rfl)) (by decide) (fun K hK=>?_)
        refine goes_ Try.func68 (by kernel_rfl) rfl #[.agg #[.int .i64 ((rd_T56 x0_1 (ji18)).f0),.int .i64 ((rd_T56 x0_1 (ji18)).f1),.int .i64 ((rd_T56 x0_1 (ji18)).f2)],.agg #[.int .i64 ((rd_T56 x0_1 x1_1).f0),.int .i64 ((rd_T56 x0_1 x1_1).f1),.int .i64 ((rd_T56 x0_1 x1_1).f2)]] (by rfl) rfl rfl (by (try simp only [List.map_toArray,List.map_cons,List.map_nil]);first|done|(simp only [hji18];rfl)|rfl|(simp only [List.length_drop,List.length_take];rfl)) ?_
        with_reducible refine (spec_l03Before.calls ((rd_T56 x0_1 (ji18)).f0) ((rd_T56 x0_1 (ji18)).f1) ((rd_T56 x0_1 (ji18)).f2) ((rd_T56 x0_1 x1_1).f0) ((rd_T56 x0_1 x1_1).f1) ((rd_T56 x0_1 x1_1).f2) true _ A23.out).mono ?_
        rintro e w28 ⟨rfl,hb⟩
        have HS0_:=(hb.cell (World.block_lt_of_cell? _ _ (hHeld.1))).trans (hHeld.1)
        have HS1_:=(hb.cell (World.block_lt_of_cell? _ _ (hHeld.2.1))).trans (hHeld.2.1)
        have HS2_:=(hb.cell (World.block_lt_of_cell? _ _ (hHeld.2.2.1))).trans (hHeld.2.2.1)
        have HS3_:=(hb.cell (World.block_lt_of_cell? _ _ (hHeld.2.2.2.1))).trans (hHeld.2.2.2.1)
        have HS4_:=(hb.cell (World.block_lt_of_cell? _ _ (hHeld.2.2.2.2.1))).trans (hHeld.2.2.2.2.1)
        have HS5_:=(hb.cell (World.block_lt_of_cell? _ _ (hHeld.2.2.2.2.2))).trans (hHeld.2.2.2.2.2)
        refine ⟨_,rfl,?_⟩
        replace HO_0:=Aside0.mk (Kd.R_below (kr HO_0) hb)
        replace HK:=Aside0.mk (Kept.below (S:=(fun k_=>P0_ k_)) (by repeat (first|(with_reducible first|exact HK.out|apply Kept.alloc|apply Kept.drewN|apply Kept.drew)|exact HK.out)) hb)
        replace HB:=Aside0.mk (below_step bl hb)
        (try clear hb)
        (try clear hb2)
        (try clear hk)
        (try clear hi)
        refine hK.out _ _ ⟨HS0_,HS1_,HS2_,HS3_,HS4_,HS5_⟩ (fun hHeld=>?_)
        clear hK K
        refine nrm ?_
        refine pq 9 41 (bs 10 1023) HT_ ?_
        refine done_ (done_of HT_.out (by kernel_rfl)) ?_
        have p176:0≤(x1_1:Int):=od
        have q176:x1_1 < (x0_1.length:Int):=od
        obtain ⟨ad176,e176,hx176_0,hx176_1,hx176_2⟩:=at_T56 (Kd.R_reads' HO_0.out).2.2 x1_1 p176 q176
        obtain rfl:ad173=ad176:=(by injection e176)
        replace p176:=eq_true p176
        replace q176:=eq_true q176
        try go_wp2_with (first|((with_reducible refine gate_dst (N:=5) rfl ?_);refine bx 5 #[.int .i64 0,.int .i64 0,.int .i64 0] 56 ?_;intro gb177 hg w29 hbox hb;replace HO_0:=Aside0.mk (Kd.R_below (Kd.R_elderB (kr HO_0) gb177 (Nat.le_of_eq hg.symm)) hb);have BK177:=Aside0.mk (hbox);have GW177:=Aside0.mk ((by rw [hg];exact (by first|exact HK.out.1|exact (show Kept w _ (fun k_=>P0_ k_) from by repeat (first|(with_reducible first|exact HK.out|apply Kept.alloc|apply Kept.drewN|apply Kept.drew)|exact HK.out)).1):w.heap.size≤gb177));replace HK:=Aside0.mk (Kept.below (S:=(fun k_=>P0_ k_)) (by repeat (first|(with_reducible first|exact HK.out|apply Kept.alloc|apply Kept.drewN|apply Kept.drew)|exact HK.out)) hb);have GE177:=Aside0.mk (bz hg:w0.heap.size≤gb177);replace HB:=Aside0.mk (below_step bl hb);clear hb hbox hg;obtain ⟨hcz30_0,hcz30_1,hcz30_2,hfz30_0,hfz30_1,hfz30_2⟩:=ck3 BK177.out)|((with_reducible refine gate_store (t:=56) (p:=5) rfl ?_);refine sx 56 5 (((w29.setCell ⟨gb177,0,none⟩ (.int .i64 ((rd_T56 x0_1 x1_1).f0))).setCell ⟨gb177,1,none⟩ (.int .i64 ((rd_T56 x0_1 x1_1).f1))).setCell ⟨gb177,2,none⟩ (.int .i64 ((rd_T56 x0_1 x1_1).f2))) ?_;intro w31 hw;have n0_:Aside0 (Kd.R k56 56 w31 w0.heap.size (fun k_=>(P0_ k_∨w.heap.size≤k_)∧k_≠gb177) (.slice (some ad173) x0_1.length co6) x0_1):=⟨(by rw [hw];exact (by (with_reducible repeat (first|apply Kd.R_alloc|apply Kd.R_drewN|apply Kd.R_drew));exact Kd.R_mono (Kd.R_far (p:=⟨gb177,2,none⟩) (Kd.R_far (p:=⟨gb177,1,none⟩) (Kd.R_far (p:=⟨gb177,0,none⟩) (Kd.R_mono HO_0.out (fun k_ hk=>(⟨hk,hk.2⟩:_∧k_≠gb177))) (fun _ hk=>hk.2) (.int .i64 ((rd_T56 x0_1 x1_1).f0))) (fun _ hk=>hk.2) (.int .i64 ((rd_T56 x0_1 x1_1).f1))) (fun _ hk=>hk.2) (.int .i64 ((rd_T56 x0_1 x1_1).f2))) (fun _ hk=>⟨hk.1.1,hk.1.2⟩)))⟩;have n1_:Aside0 (w31.heap[gb177]? = some (.cells #[.int .i64 ((rd_T56 x0_1 x1_1).f0),.int .i64 ((rd_T56 x0_1 x1_1).f1),.int .i64 ((rd_T56 x0_1 x1_1).f2)] 56 (0,0))):=⟨(by rw [hw];exact (by (with_reducible repeat (first|refine blk_drewN ?_ _|refine blk_drew ?_|refine blk_alloc ?_ _));refine blk_put (cs:=#[.int .i64 ((rd_T56 x0_1 x1_1).f0),.int .i64 ((rd_T56 x0_1 x1_1).f1),.int .i64 0]) ?_ 2 _ rfl;(with_reducible repeat (first|refine blk_drewN ?_ _|refine blk_drew ?_|refine blk_alloc ?_ _));refine blk_put (cs:=#[.int .i64 ((rd_T56 x0_1 x1_1).f0),.int .i64 0,.int .i64 0]) ?_ 1 _ rfl;(with_reducible repeat (first|refine blk_drewN ?_ _|refine blk_drew ?_|refine blk_alloc ?_ _));refine blk_put (cs:=#[.int .i64 0,.int .i64 0,.int .i64 0]) ?_ 0 _ rfl;(with_reducible repeat (first|refine blk_drewN ?_ _|refine blk_drew ?_|refine blk_alloc ?_ _));exact BK177.out))⟩;have n2_:Aside0 (Kept w w31 (fun k_=>P0_ k_)):=⟨(by rw [hw];exact (by repeat (first|(with_reducible first|exact HK.out|apply Kept.alloc|apply Kept.drewN|apply Kept.drew|refine Kept.setCell ?_ (.inr GW177.out) _)|exact HK.out)))⟩;have n3_:Aside0 (Below w0.heap.size w0 w31):=⟨(by rw [hw];exact bl)⟩;clear hw;clear HO_0;clear BK177;clear HK;clear HB;have HO_0:=n0_;have BK177:=n1_;have HK:=n2_;have HB:=n3_;clear n0_ n1_ n2_ n3_;have p178:0≤((ji18):Int):=od;have q178:(ji18) < (x0_1.length:Int):=od;obtain ⟨ad178,e178,hx178_0,hx178_1,hx178_2⟩:=at_T56 (Kd.R_reads' HO_0.out).2.2 (ji18) p178 q178;obtain rfl:ad173=ad178:=(by injection e178);replace p178:=eq_true p178;replace q178:=eq_true q178;have p25:0≤(x1_1:Int):=od;have q25:(x1_1:Int) < ((x0_1.length:Int):Int):=od;obtain ⟨go25,co25,eo25,gb25,gl25,cl25,HG25⟩:=Kd.R_form HO_0.out (by omega);(first|cases eo25|(injection eo25 with ea_ en_ ec_;(first|subst ea_|(injection ea_ with ea_;subst ea_));subst ec_;clear en_));have GB25:=Aside0.mk gb25;have GG25:=Aside0.mk HG25;clear gb25 gl25 HG25;have HMgo25:=Aside0.mk (show (P0_ go25∨w.heap.size≤go25) from (HO_0.out.1 _ rfl).1);(first|simp only [add_plain] at hx173_0|skip);(first|simp only [add_plain] at hx173_1|skip);(first|simp only [add_plain] at hx173_2|skip);(first|simp only [add_plain] at hx174_0|skip);(first|simp only [add_plain] at hx174_1|skip);(first|simp only [add_plain] at hx174_2|skip);(first|simp only [add_plain] at hx176_0|skip);(first|simp only [add_plain] at hx176_1|skip);(first|simp only [add_plain] at hx176_2|skip);(first|simp only [add_plain] at hx178_0|skip);(first|simp only [add_plain] at hx178_1|skip);(first|simp only [add_plain] at hx178_2|skip);obtain ⟨ce25,hcl25,hM25,hcc25,hfr25⟩:=Kd.R_elem HO_0.out z56 (x1_1:Int) p25 q25;obtain rfl:=k56_openM hM25;have hx25_0:w31.cell? ⟨go25,(x1_1:Int).toNat * 3,none⟩=some (.int .i64 ((rd_T56 x0_1 x1_1).f0)):=hcc25 0 _ rfl;have hx25_1:w31.cell? ⟨go25,(x1_1:Int).toNat * 3 + 1,none⟩=some (.int .i64 ((rd_T56 x0_1 x1_1).f1)):=hcc25 1 _ rfl;have hx25_2:w31.cell? ⟨go25,(x1_1:Int).toNat * 3 + 2,none⟩=some (.int .i64 ((rd_T56 x0_1 x1_1).f2)):=hcc25 2 _ rfl;have hf25_0:w31.frozen? ⟨go25,(x1_1:Int).toNat * 3,none⟩=false:=hfr25 0;have hf25_1:w31.frozen? ⟨go25,(x1_1:Int).toNat * 3 + 1,none⟩=false:=hfr25 1;have hf25_2:w31.frozen? ⟨go25,(x1_1:Int).toNat * 3 + 2,none⟩=false:=hfr25 2;clear hcl25 hcc25 hfr25 hM25;replace p25:=eq_true p25;replace q25:=eq_true q25;have HX32:=Aside0.mk (show Kd.R k56 56 w31 w0.heap.size (fun k_=>(P0_ k_∨w.heap.size≤k_)∧k_≠gb177) (.slice (some ⟨go25,0,none⟩) x0_1.length co6) x0_1 from (kr HO_0));obtain ⟨ce32,hcl32,hM32,hcc32,hfr32⟩:=Kd.R_elem HX32.out z56 (x1_1:Int) od (by have h_:(x1_1:Int) < ((x0_1.length:Int):Int):=od;first|exact h_|(have e_:=(Kd.R_reads' HO_0.out).1;omega)|simpa using h_);obtain rfl:=k56_openM hM32;have HP32:=Kd.R_seg HX32.out (x1_1:Int) od (by have h_:(x1_1:Int) < ((x0_1.length:Int):Int):=od;first|exact h_|(have e_:=(Kd.R_reads' HO_0.out).1;omega)|simpa using h_) (seg:=[.int .i64 ((rd_T56 x0_1 (ji18)).f0),.int .i64 ((rd_T56 x0_1 (ji18)).f1),.int .i64 ((rd_T56 x0_1 (ji18)).f2)]) (j:=0) hcl32 hcc32 (show 3≤3 from by decide) (x':=(⟨(rd_T56 x0_1 (ji18)).f0,(rd_T56 x0_1 (ji18)).f1,(rd_T56 x0_1 (ji18)).f2⟩:S56)) (k56_mkM _ _ _ (⟨(rd_T56 x0_1 (ji18)).f0,(rd_T56 x0_1 (ji18)).f1,(rd_T56 x0_1 (ji18)).f2⟩:S56) ) (fun _ hk=>hk);have hx32_0:=hcc32 0 _ rfl;(try simp only [show (k56).sz=3 from rfl,Nat.mul_one,Nat.add_zero] at hx32_0);have hf32_0:=hfr32 0;(try simp only [show (k56).sz=3 from rfl,Nat.mul_one,Nat.add_zero] at hf32_0);have hx32_1:=hcc32 1 _ rfl;(try simp only [show (k56).sz=3 from rfl,Nat.mul_one,Nat.add_zero] at hx32_1);have hf32_1:=hfr32 1;(try simp only [show (k56).sz=3 from rfl,Nat.mul_one,Nat.add_zero] at hf32_1);have hx32_2:=hcc32 2 _ rfl;(try simp only [show (k56).sz=3 from rfl,Nat.mul_one,Nat.add_zero] at hx32_2);have hf32_2:=hfr32 2;(try simp only [show (k56).sz=3 from rfl,Nat.mul_one,Nat.add_zero] at hf32_2);clear hcl32 hcc32 hfr32 hM32)|((with_reducible refine gate_store (t:=56) (p:=52) rfl ?_);refine sx 56 52 (((w31.setCell ⟨go25,(x1_1:Int).toNat * 3,none⟩ (.int .i64 ((rd_T56 x0_1 (ji18)).f0))).setCell ⟨go25,(x1_1:Int).toNat * 3 + 1,none⟩ (.int .i64 ((rd_T56 x0_1 (ji18)).f1))).setCell ⟨go25,(x1_1:Int).toNat * 3 + 2,none⟩ (.int .i64 ((rd_T56 x0_1 (ji18)).f2))) ?_;intro w33 hw;have hg:w31.grownBy w33 (some go25):=(by rw [hw];exact HP32.2);have hp_:Kd.R k56 56 w33 w0.heap.size (fun k_=>(P0_ k_∨w.heap.size≤k_)∧k_≠gb177) (.slice (some ⟨go25,0,none⟩) x0_1.length co6) y179:=(by rw [hw,Ny179.out];exact HP32.1);clear HP32;replace BK177:=Aside0.mk (blk_grown (bk BK177) hg (Kd.R_away HO_0.out (fun _ hk=>hk.2)));replace HB:=Aside0.mk ((by rw [hw];exact below_set (below_set (below_set (HB.out) GB25.out) GB25.out) GB25.out:Below w0.heap.size w0 w33));replace HK:=Aside0.mk (Kept.of_grown (S:=(fun k_=>P0_ k_)) hg (by repeat (first|(with_reducible first|exact HK.out|apply Kept.alloc|apply Kept.drewN|apply Kept.drew|refine Kept.setCell ?_ (.inr GW177.out) _)|exact HK.out)) (fun k_ e_=>(HO_0.out.1 k_ e_).1));replace HO_0:=Aside0.mk (hp_);clear hg hw hp_;obtain ⟨hcz34_0,hcz34_1,hcz34_2,hfz34_0,hfz34_1,hfz34_2⟩:=ck3 BK177.out;have p26:0≤((ji18):Int):=od;have q26:((ji18):Int) < ((x0_1.length:Int):Int):=od;obtain ⟨ce26,hcl26,hM26,hcc26,hfr26⟩:=Kd.R_elem HO_0.out z56 ((ji18):Int) p26 q26;obtain rfl:=k56_openM hM26;have hx26_0:w33.cell? ⟨go25,((ji18):Int).toNat * 3,none⟩=some (.int .i64 ((rd_T56 y179 (ji18)).f0)):=hcc26 0 _ rfl;have hx26_1:w33.cell? ⟨go25,((ji18):Int).toNat * 3 + 1,none⟩=some (.int .i64 ((rd_T56 y179 (ji18)).f1)):=hcc26 1 _ rfl;have hx26_2:w33.cell? ⟨go25,((ji18):Int).toNat * 3 + 2,none⟩=some (.int .i64 ((rd_T56 y179 (ji18)).f2)):=hcc26 2 _ rfl;have hf26_0:w33.frozen? ⟨go25,((ji18):Int).toNat * 3,none⟩=false:=hfr26 0;have hf26_1:w33.frozen? ⟨go25,((ji18):Int).toNat * 3 + 1,none⟩=false:=hfr26 1;have hf26_2:w33.frozen? ⟨go25,((ji18):Int).toNat * 3 + 2,none⟩=false:=hfr26 2;clear hcl26 hcc26 hfr26 hM26;replace p26:=eq_true p26;replace q26:=eq_true q26;have HX35:=Aside0.mk (show Kd.R k56 56 w33 w0.heap.size (fun k_=>(P0_ k_∨w.heap.size≤k_)∧k_≠gb177) (.slice (some ⟨go25,0,none⟩) x0_1.length co6) y179 from (kr HO_0));obtain ⟨ce35,hcl35,hM35,hcc35,hfr35⟩:=Kd.R_elem HX35.out z56 ((ji18):Int) od (by have h_:((ji18):Int) < ((x0_1.length:Int):Int):=od;first|exact h_|(have e_:=(Kd.R_reads' HO_0.out).1;omega)|simpa using h_);obtain rfl:=k56_openM hM35;have HP35:=Kd.R_seg HX35.out ((ji18):Int) od (by have h_:((ji18):Int) < ((x0_1.length:Int):Int):=od;first|exact h_|(have e_:=(Kd.R_reads' HO_0.out).1;omega)|simpa using h_) (seg:=[.int .i64 ((rd_T56 x0_1 x1_1).f0),.int .i64 ((rd_T56 x0_1 x1_1).f1),.int .i64 ((rd_T56 x0_1 x1_1).f2)]) (j:=0) hcl35 hcc35 (show 3≤3 from by decide) (x':=(⟨(rd_T56 x0_1 x1_1).f0,(rd_T56 x0_1 x1_1).f1,(rd_T56 x0_1 x1_1).f2⟩:S56)) (k56_mkM _ _ _ (⟨(rd_T56 x0_1 x1_1).f0,(rd_T56 x0_1 x1_1).f1,(rd_T56 x0_1 x1_1).f2⟩:S56) ) (fun _ hk=>hk);have hx35_0:=hcc35 0 _ rfl;(try simp only [show (k56).sz=3 from rfl,Nat.mul_one,Nat.add_zero] at hx35_0);have hf35_0:=hfr35 0;(try simp only [show (k56).sz=3 from rfl,Nat.mul_one,Nat.add_zero] at hf35_0);have hx35_1:=hcc35 1 _ rfl;(try simp only [show (k56).sz=3 from rfl,Nat.mul_one,Nat.add_zero] at hx35_1);have hf35_1:=hfr35 1;(try simp only [show (k56).sz=3 from rfl,Nat.mul_one,Nat.add_zero] at hf35_1);have hx35_2:=hcc35 2 _ rfl;(try simp only [show (k56).sz=3 from rfl,Nat.mul_one,Nat.add_zero] at hx35_2);have hf35_2:=hfr35 2;(try simp only [show (k56).sz=3 from rfl,Nat.mul_one,Nat.add_zero] at hf35_2);clear hcl35 hcc35 hfr35 hM35)|((with_reducible refine gate_store (t:=56) (p:=56) rfl ?_);refine sx 56 56 (((w33.setCell ⟨go25,((ji18):Int).toNat * 3,none⟩ (.int .i64 ((rd_T56 x0_1 x1_1).f0))).setCell ⟨go25,((ji18):Int).toNat * 3 + 1,none⟩ (.int .i64 ((rd_T56 x0_1 x1_1).f1))).setCell ⟨go25,((ji18):Int).toNat * 3 + 2,none⟩ (.int .i64 ((rd_T56 x0_1 x1_1).f2))) ?_;intro w36 hw;have hg:w33.grownBy w36 (some go25):=(by rw [hw];exact HP35.2);have hp_:Kd.R k56 56 w36 w0.heap.size (fun k_=>(P0_ k_∨w.heap.size≤k_)∧k_≠gb177) (.slice (some ⟨go25,0,none⟩) x0_1.length co6) y180:=(by rw [hw,Ny180.out];exact HP35.1);clear HP35;replace BK177:=Aside0.mk (blk_grown (bk BK177) hg (Kd.R_away HO_0.out (fun _ hk=>hk.2)));replace HB:=Aside0.mk ((by rw [hw];exact below_set (below_set (below_set (HB.out) GB25.out) GB25.out) GB25.out:Below w0.heap.size w0 w36));replace HK:=Aside0.mk (Kept.of_grown (S:=(fun k_=>P0_ k_)) hg (by repeat (first|(with_reducible first|exact HK.out|apply Kept.alloc|apply Kept.drewN|apply Kept.drew|refine Kept.setCell ?_ (.inr GW177.out) _)|exact HK.out)) (fun k_ e_=>(HO_0.out.1 k_ e_).1));replace HO_0:=Aside0.mk (hp_);clear hg hw hp_))
        go_roundg kj4
        case measure=>have:=HK1.out;have:=HJ4.out;omega
        case rel=>exact ⟨(y180),(ji18),(by first|rfl|(simp;done)|(simp only [← hji18] <;> (first|rfl|simp))|(simp [*];done)),H',⟨by have:=HK1.out;have:=HJ4.out;omega⟩,⟨by (with_reducible repeat (first|apply Kd.R_alloc|apply Kd.R_drewN|apply Kd.R_drew));exact Kd.R_mono HO_0.out (fun _ hk=>hk.1)⟩,⟨by repeat (first|(with_reducible first|exact HK.out|apply Kept.alloc|apply Kept.drewN|apply Kept.drew|refine Kept.setCell ?_ (.inr GW177.out) _)|exact HK.out)⟩,⟨bl⟩⟩
       ·replace c24:=Bool.eq_false_iff.mpr c24
        subst c24
        rw [if_neg nft] at H
        obtain rfl:=Option.some.inj H
        try go_wp2
        replace HO_0:=Aside0.mk (Kd.R_drew HO_0.out)
        replace HK:=Aside0.mk (Kept.drew HK.out)
        replace HB:=Aside0.mk (below_drew1 HB.out)
        have p173:0≤((ji18):Int):=od
        have q173:(ji18) < (x0_1.length:Int):=od
        obtain ⟨ad173,e173,hx173_0,hx173_1,hx173_2⟩:=at_T56 (Kd.R_reads' HO_0.out).2.2 (ji18) p173 q173
        cases e173
        replace p173:=eq_true p173
        replace q173:=eq_true q173
        have p174:0≤(x1_1:Int):=od
        have q174:x1_1 < (x0_1.length:Int):=od
        obtain ⟨ad174,e174,hx174_0,hx174_1,hx174_2⟩:=at_T56 (Kd.R_reads' HO_0.out).2.2 x1_1 p174 q174
        obtain rfl:ad173=ad174:=(by injection e174)
        replace p174:=eq_true p174
        replace q174:=eq_true q174
        refine start_ (n:=10) (S:=fun w'=>w'.cell? (ad173.add (((ji18)).toNat * 3))=some (.int .i64 ((rd_T56 x0_1 (ji18)).f0))∧w'.cell? ⟨(ad173.add (((ji18)).toNat * 3)).block,(ad173.add (((ji18)).toNat * 3)).off + 1,none⟩=some (.int .i64 ((rd_T56 x0_1 (ji18)).f1))∧w'.cell? ⟨(ad173.add (((ji18)).toNat * 3)).block,(ad173.add (((ji18)).toNat * 3)).off + 2,none⟩=some (.int .i64 ((rd_T56 x0_1 (ji18)).f2))∧w'.cell? (ad173.add ((x1_1).toNat * 3))=some (.int .i64 ((rd_T56 x0_1 x1_1).f0))∧w'.cell? ⟨(ad173.add ((x1_1).toNat * 3)).block,(ad173.add ((x1_1).toNat * 3)).off + 1,none⟩=some (.int .i64 ((rd_T56 x0_1 x1_1).f1))∧w'.cell? ⟨(ad173.add ((x1_1).toNat * 3)).block,(ad173.add ((x1_1).toNat * 3)).off + 2,none⟩=some (.int .i64 ((rd_T56 x0_1 x1_1).f2))) (ds:=[]) (bs 10 0) (by kernel_rfl) rfl rfl ⟨hx173_0,hx173_1,hx173_2,hx174_0,hx174_1,hx174_2⟩ (fun hHeld=>?_);refine with_tabW spec_l03Down.tab4 spec_l03Down.bits4 (fun HT_ HW_=>?_)
        generalize wc.drew=w37 at HO_0 HK HB hx173_0 hx173_1 hx173_2 hx174_0 hx174_1 hx174_2 hHeld ⊢
        refine pq 0 32 (bs 10 1) HT_ ?_
        refine pq 1 33 (bs 10 3) HT_ ?_
        refine pq 2 34 (bs 10 7) HT_ ?_
        refine pq 4 36 (bs 10 23) HT_ ?_
        refine pq 5 37 (bs 10 55) HT_ ?_
        refine pq 6 38 (bs 10 119) HT_ ?_
        refine tq 3 35 (bs 10 127) HT_ HW_ hHeld ?_
        refine tq 7 39 (bs 10 255) HT_ HW_ hHeld ?_
        refine one_ (i:=8) (N:=some 40) (bs 10 511) rfl rfl (one_of HT_.out (by kernel_rfl)) (by decide) (fun K hK=>?_)
        refine goes_ Try.func68 (by kernel_rfl) rfl #[.agg #[.int .i64 ((rd_T56 x0_1 (ji18)).f0),.int .i64 ((rd_T56 x0_1 (ji18)).f1),.int .i64 ((rd_T56 x0_1 (ji18)).f2)],.agg #[.int .i64 ((rd_T56 x0_1 x1_1).f0),.int .i64 ((rd_T56 x0_1 x1_1).f1),.int .i64 ((rd_T56 x0_1 x1_1).f2)]] (by rfl) rfl rfl (by (try simp only [List.map_toArray,List.map_cons,List.map_nil]);first|done|(simp only [hji18];rfl)|rfl|(simp only [List.length_drop,List.length_take];rfl)) ?_
        with_reducible refine (spec_l03Before.calls ((rd_T56 x0_1 (ji18)).f0) ((rd_T56 x0_1 (ji18)).f1) ((rd_T56 x0_1 (ji18)).f2) ((rd_T56 x0_1 x1_1).f0) ((rd_T56 x0_1 x1_1).f1) ((rd_T56 x0_1 x1_1).f2) false _ A23.out).mono ?_
        rintro e w38 ⟨rfl,hb⟩
        have HS0_:=(hb.cell (World.block_lt_of_cell? _ _ (hHeld.1))).trans (hHeld.1)
        have HS1_:=(hb.cell (World.block_lt_of_cell? _ _ (hHeld.2.1))).trans (hHeld.2.1)
        have HS2_:=(hb.cell (World.block_lt_of_cell? _ _ (hHeld.2.2.1))).trans (hHeld.2.2.1)
        have HS3_:=(hb.cell (World.block_lt_of_cell? _ _ (hHeld.2.2.2.1))).trans (hHeld.2.2.2.1)
        have HS4_:=(hb.cell (World.block_lt_of_cell? _ _ (hHeld.2.2.2.2.1))).trans (hHeld.2.2.2.2.1)
        have HS5_:=(hb.cell (World.block_lt_of_cell? _ _ (hHeld.2.2.2.2.2))).trans (hHeld.2.2.2.2.2)
        refine ⟨_,rfl,?_⟩
        replace HO_0:=Aside0.mk (Kd.R_below (kr HO_0) hb)
        replace HK:=Aside0.mk (Kept.below (S:=(fun k_=>P0_ k_)) (by repeat (first|(with_reducible first|exact HK.out|apply Kept.alloc|apply Kept.drewN|apply Kept.drew)|exact HK.out)) hb)
        replace HB:=Aside0.mk (below_step bl hb)
        (try clear hb)
        (try clear hb2)
        (try clear hk)
        (try clear hi)
        refine hK.out _ _ ⟨HS0_,HS1_,HS2_,HS3_,HS4_,HS5_⟩ (fun hHeld=>?_)
        clear hK K
        refine nrm ?_
        refine pq 9 41 (bs 10 1023) HT_ ?_
        refine done_ (done_of HT_.out (by kernel_rfl)) ?_
        try go_wp2
        first|go_end0|((try simp only [Exit.inBlock,Exit.then]);refine bodyPost_ret (results_none rfl _ _ _) rfl ?_)
        exact ⟨by first|rfl|(simp [errW_none,errW_some] <;> rfl)|(simp only [← hji18];first|rfl|(simp [errW_none,errW_some] <;> rfl))|(simp [*,errW_none,errW_some] <;> rfl),kr HO_0,bl,by repeat (first|(with_reducible first|exact HK.out|apply Kept.alloc|apply Kept.drewN|apply Kept.drew)|exact HK.out)⟩
      ·replace c17:=Bool.eq_false_iff.mpr c17
       subst c17
       rw [if_neg nft] at H
       obtain ⟨ji39,hji39⟩:∃ j_:Int,(wrap64 ((wrap64 (2 * x1_1)) + 1))=j_:=⟨_,rfl⟩
       first|rw [hji39] at H|simp only [hji39] at H
       (try rw [hji39] at c3b0)
       have hji39w:(IntKind.i64.wrap ((wrap64 (2 * x1_1)) + 1))=ji39:=(i64_w _).trans hji39
       by_cases c40:0≤(ji39)
       ·rw [if_pos c40] at H
        have c40b0:decide (0≤(ji39))=true:=decide_eq_true c40
        clear c40
        by_cases c41:(ji39) < (x0_1.length:Int)
        case neg =>
         rw [if_neg c41] at H
         exact absurd H (by simp)
        rw [if_pos c41] at H
        have c41b0:decide ((ji39) < (x0_1.length:Int))=true:=decide_eq_true c41
        clear c41
        by_cases c42:0≤x1_1
        case neg =>
         rw [if_neg c42] at H
         exact absurd H (by simp)
        rw [if_pos c42] at H
        have c42b0:decide (0≤x1_1)=true:=decide_eq_true c42
        clear c42
        by_cases c43:x1_1 < (x0_1.length:Int)
        case neg =>
         rw [if_neg c43] at H
         exact absurd H (by simp)
        rw [if_pos c43] at H
        have c43b0:decide (x1_1 < (x0_1.length:Int))=true:=decide_eq_true c43
        clear c43
        replace H:=Option.bind_eq_some_iff.mp H
        obtain ⟨t183,A440,H⟩:=H
        have A44:=Aside0.mk A440
        clear A440
        by_cases c45:t183=true
        ·subst c45
         rw [if_pos rfl] at H
         obtain ⟨y187,hy187⟩:∃ y_:List (S56),y_=(x0_1.set (x1_1:Int).toNat (⟨(rd_T56 x0_1 (ji39)).f0,(rd_T56 x0_1 (ji39)).f1,(rd_T56 x0_1 (ji39)).f2⟩:S56)):=⟨_,rfl⟩
         replace H:(spec_l03Down.l0 kj4 (y187.set ((ji39):Int).toNat (⟨(rd_T56 x0_1 x1_1).f0,(rd_T56 x0_1 x1_1).f1,(rd_T56 x0_1 x1_1).f2⟩:S56)) (ji39))=some r:=by first|(rw [hy187];with_reducible exact H)|(have H2_:=(Option.bind_some _ _).symm.trans H;rw [hy187];with_reducible exact H2_)|(have H2_:=(Option.bind_some _ _).symm.trans H;with_reducible exact H2_)|with_reducible exact H|(rw [hy187];exact H)|exact H
         have Ny187:=Aside0.mk hy187
         clear hy187
         obtain ⟨y188,hy188⟩:∃ y_:List (S56),y_=(y187.set ((ji39):Int).toNat (⟨(rd_T56 x0_1 x1_1).f0,(rd_T56 x0_1 x1_1).f1,(rd_T56 x0_1 x1_1).f2⟩:S56)):=⟨_,rfl⟩
         replace H:(spec_l03Down.l0 kj4 y188 (ji39))=some r:=by first|(rw [hy188];with_reducible exact H)|(have H2_:=(Option.bind_some _ _).symm.trans H;rw [hy188];with_reducible exact H2_)|(have H2_:=(Option.bind_some _ _).symm.trans H;with_reducible exact H2_)|with_reducible exact H|(rw [hy188];exact H)|exact H
         have Ny188:=Aside0.mk hy188
         clear hy188
         have H':=Aside0.mk H
         clear H
         try go_wp2
         replace HO_0:=Aside0.mk (Kd.R_drew HO_0.out)
         replace HK:=Aside0.mk (Kept.drew HK.out)
         replace HB:=Aside0.mk (below_drew1 HB.out)
         have p181:0≤((ji39):Int):=od
         have q181:(ji39) < (x0_1.length:Int):=od
         obtain ⟨ad181,e181,hx181_0,hx181_1,hx181_2⟩:=at_T56 (Kd.R_reads' HO_0.out).2.2 (ji39) p181 q181
         cases e181
         replace p181:=eq_true p181
         replace q181:=eq_true q181
         have p182:0≤(x1_1:Int):=od
         have q182:x1_1 < (x0_1.length:Int):=od
         obtain ⟨ad182,e182,hx182_0,hx182_1,hx182_2⟩:=at_T56 (Kd.R_reads' HO_0.out).2.2 x1_1 p182 q182
         obtain rfl:ad181=ad182:=(by injection e182)
         replace p182:=eq_true p182
         replace q182:=eq_true q182
         refine start_ (n:=10) (S:=fun w'=>w'.cell? (ad181.add (((ji39)).toNat * 3))=some (.int .i64 ((rd_T56 x0_1 (ji39)).f0))∧w'.cell? ⟨(ad181.add (((ji39)).toNat * 3)).block,(ad181.add (((ji39)).toNat * 3)).off + 1,none⟩=some (.int .i64 ((rd_T56 x0_1 (ji39)).f1))∧w'.cell? ⟨(ad181.add (((ji39)).toNat * 3)).block,(ad181.add (((ji39)).toNat * 3)).off + 2,none⟩=some (.int .i64 ((rd_T56 x0_1 (ji39)).f2))∧w'.cell? (ad181.add ((x1_1).toNat * 3))=some (.int .i64 ((rd_T56 x0_1 x1_1).f0))∧w'.cell? ⟨(ad181.add ((x1_1).toNat * 3)).block,(ad181.add ((x1_1).toNat * 3)).off + 1,none⟩=some (.int .i64 ((rd_T56 x0_1 x1_1).f1))∧w'.cell? ⟨(ad181.add ((x1_1).toNat * 3)).block,(ad181.add ((x1_1).toNat * 3)).off + 2,none⟩=some (.int .i64 ((rd_T56 x0_1 x1_1).f2))) (ds:=[]) (bs 10 0) (by kernel_rfl) rfl rfl ⟨hx181_0,hx181_1,hx181_2,hx182_0,hx182_1,hx182_2⟩ (fun hHeld=>?_);refine with_tabW spec_l03Down.tab4 spec_l03Down.bits4 (fun HT_ HW_=>?_)
         generalize wc.drew=w48 at HO_0 HK HB hx181_0 hx181_1 hx181_2 hx182_0 hx182_1 hx182_2 hHeld ⊢
         refine pq 0 32 (bs 10 1) HT_ ?_
         refine pq 1 33 (bs 10 3) HT_ ?_
         refine pq 2 34 (bs 10 7) HT_ ?_
         refine pq 4 36 (bs 10 23) HT_ ?_
         refine pq 5 37 (bs 10 55) HT_ ?_
         refine pq 6 38 (bs 10 119) HT_ ?_
         refine tq 3 35 (bs 10 127) HT_ HW_ hHeld ?_
         refine tq 7 39 (bs 10 255) HT_ HW_ hHeld ?_
         refine one_ (i:=8) (N:=some 40) (bs 10 511) rfl rfl (one_of HT_.out (by kernel_rfl)) (by decide) (fun K hK=>?_)
         refine goes_ Try.func68 (by kernel_rfl) rfl #[.agg #[.int .i64 ((rd_T56 x0_1 (ji39)).f0),.int .i64 ((rd_T56 x0_1 (ji39)).f1),.int .i64 ((rd_T56 x0_1 (ji39)).f2)],.agg #[.int .i64 ((rd_T56 x0_1 x1_1).f0),.int .i64 ((rd_T56 x0_1 x1_1).f1),.int .i64 ((rd_T56 x0_1 x1_1).f2)]] (by rfl) rfl rfl (by (try simp only [List.map_toArray,List.map_cons,List.map_nil]);first|done|(simp only [hji39];rfl)|rfl|(simp only [List.length_drop,List.length_take];rfl)) ?_
         with_reducible refine (spec_l03Before.calls ((rd_T56 x0_1 (ji39)).f0) ((rd_T56 x0_1 (ji39)).f1) ((rd_T56 x0_1 (ji39)).f2) ((rd_T56 x0_1 x1_1).f0) ((rd_T56 x0_1 x1_1).f1) ((rd_T56 x0_1 x1_1).f2) true _ A44.out).mono ?_
         rintro e w49 ⟨rfl,hb⟩
         have HS0_:=(hb.cell (World.block_lt_of_cell? _ _ (hHeld.1))).trans (hHeld.1)
         have HS1_:=(hb.cell (World.block_lt_of_cell? _ _ (hHeld.2.1))).trans (hHeld.2.1)
         have HS2_:=(hb.cell (World.block_lt_of_cell? _ _ (hHeld.2.2.1))).trans (hHeld.2.2.1)
         have HS3_:=(hb.cell (World.block_lt_of_cell? _ _ (hHeld.2.2.2.1))).trans (hHeld.2.2.2.1)
         have HS4_:=(hb.cell (World.block_lt_of_cell? _ _ (hHeld.2.2.2.2.1))).trans (hHeld.2.2.2.2.1)
         have HS5_:=(hb.cell (World.block_lt_of_cell? _ _ (hHeld.2.2.2.2.2))).trans (hHeld.2.2.2.2.2)
         refine ⟨_,rfl,?_⟩
         replace HO_0:=Aside0.mk (Kd.R_below (kr HO_0) hb)
         replace HK:=Aside0.mk (Kept.below (S:=(fun k_=>P0_ k_)) (by repeat (first|(with_reducible first|exact HK.out|apply Kept.alloc|apply Kept.drewN|apply Kept.drew)|exact HK.out)) hb)
         replace HB:=Aside0.mk (below_step bl hb)
         (try clear hb)
         (try clear hb2)
         (try clear hk)
         (try clear hi)
         refine hK.out _ _ ⟨HS0_,HS1_,HS2_,HS3_,HS4_,HS5_⟩ (fun hHeld=>?_)
         clear hK K
         refine nrm ?_
         refine pq 9 41 (bs 10 1023) HT_ ?_
         refine done_ (done_of HT_.out (by kernel_rfl)) ?_
         have p184:0≤(x1_1:Int):=od
         have q184:x1_1 < (x0_1.length:Int):=od
         obtain ⟨ad184,e184,hx184_0,hx184_1,hx184_2⟩:=at_T56 (Kd.R_reads' HO_0.out).2.2 x1_1 p184 q184
         obtain rfl:ad181=ad184:=(by injection e184)
         replace p184:=eq_true p184
         replace q184:=eq_true q184
         try go_wp2_with (first|((with_reducible refine gate_dst (N:=5) rfl ?_);refine bx 5 #[.int .i64 0,.int .i64 0,.int .i64 0] 56 ?_;intro gb185 hg w50 hbox hb;replace HO_0:=Aside0.mk (Kd.R_below (Kd.R_elderB (kr HO_0) gb185 (Nat.le_of_eq hg.symm)) hb);have BK185:=Aside0.mk (hbox);have GW185:=Aside0.mk ((by rw [hg];exact (by first|exact HK.out.1|exact (show Kept w _ (fun k_=>P0_ k_) from by repeat (first|(with_reducible first|exact HK.out|apply Kept.alloc|apply Kept.drewN|apply Kept.drew)|exact HK.out)).1):w.heap.size≤gb185));replace HK:=Aside0.mk (Kept.below (S:=(fun k_=>P0_ k_)) (by repeat (first|(with_reducible first|exact HK.out|apply Kept.alloc|apply Kept.drewN|apply Kept.drew)|exact HK.out)) hb);have GE185:=Aside0.mk (bz hg:w0.heap.size≤gb185);replace HB:=Aside0.mk (below_step bl hb);clear hb hbox hg;obtain ⟨hcz51_0,hcz51_1,hcz51_2,hfz51_0,hfz51_1,hfz51_2⟩:=ck3 BK185.out)|((with_reducible refine gate_store (t:=56) (p:=5) rfl ?_);refine sx 56 5 (((w50.setCell ⟨gb185,0,none⟩ (.int .i64 ((rd_T56 x0_1 x1_1).f0))).setCell ⟨gb185,1,none⟩ (.int .i64 ((rd_T56 x0_1 x1_1).f1))).setCell ⟨gb185,2,none⟩ (.int .i64 ((rd_T56 x0_1 x1_1).f2))) ?_;intro w52 hw;have n0_:Aside0 (Kd.R k56 56 w52 w0.heap.size (fun k_=>(P0_ k_∨w.heap.size≤k_)∧k_≠gb185) (.slice (some ad181) x0_1.length co6) x0_1):=⟨(by rw [hw];exact (by (with_reducible repeat (first|apply Kd.R_alloc|apply Kd.R_drewN|apply Kd.R_drew));exact Kd.R_mono (Kd.R_far (p:=⟨gb185,2,none⟩) (Kd.R_far (p:=⟨gb185,1,none⟩) (Kd.R_far (p:=⟨gb185,0,none⟩) (Kd.R_mono HO_0.out (fun k_ hk=>(⟨hk,hk.2⟩:_∧k_≠gb185))) (fun _ hk=>hk.2) (.int .i64 ((rd_T56 x0_1 x1_1).f0))) (fun _ hk=>hk.2) (.int .i64 ((rd_T56 x0_1 x1_1).f1))) (fun _ hk=>hk.2) (.int .i64 ((rd_T56 x0_1 x1_1).f2))) (fun _ hk=>⟨hk.1.1,hk.1.2⟩)))⟩;have n1_:Aside0 (w52.heap[gb185]? = some (.cells #[.int .i64 ((rd_T56 x0_1 x1_1).f0),.int .i64 ((rd_T56 x0_1 x1_1).f1),.int .i64 ((rd_T56 x0_1 x1_1).f2)] 56 (0,0))):=⟨(by rw [hw];exact (by (with_reducible repeat (first|refine blk_drewN ?_ _|refine blk_drew ?_|refine blk_alloc ?_ _));refine blk_put (cs:=#[.int .i64 ((rd_T56 x0_1 x1_1).f0),.int .i64 ((rd_T56 x0_1 x1_1).f1),.int .i64 0]) ?_ 2 _ rfl;(with_reducible repeat (first|refine blk_drewN ?_ _|refine blk_drew ?_|refine blk_alloc ?_ _));refine blk_put (cs:=#[.int .i64 ((rd_T56 x0_1 x1_1).f0),.int .i64 0,.int .i64 0]) ?_ 1 _ rfl;(with_reducible repeat (first|refine blk_drewN ?_ _|refine blk_drew ?_|refine blk_alloc ?_ _));refine blk_put (cs:=#[.int .i64 0,.int .i64 0,.int .i64 0]) ?_ 0 _ rfl;(with_reducible repeat (first|refine blk_drewN ?_ _|refine blk_drew ?_|refine blk_alloc ?_ _));exact BK185.out))⟩;have n2_:Aside0 (Kept w w52 (fun k_=>P0_ k_)):=⟨(by rw [hw];exact (by repeat (first|(with_reducible first|exact HK.out|apply Kept.alloc|apply Kept.drewN|apply Kept.drew|refine Kept.setCell ?_ (.inr GW185.out) _)|exact HK.out)))⟩;have n3_:Aside0 (Below w0.heap.size w0 w52):=⟨(by rw [hw];exact bl)⟩;clear hw;clear HO_0;clear BK185;clear HK;clear HB;have HO_0:=n0_;have BK185:=n1_;have HK:=n2_;have HB:=n3_;clear n0_ n1_ n2_ n3_;have p186:0≤((ji39):Int):=od;have q186:(ji39) < (x0_1.length:Int):=od;obtain ⟨ad186,e186,hx186_0,hx186_1,hx186_2⟩:=at_T56 (Kd.R_reads' HO_0.out).2.2 (ji39) p186 q186;obtain rfl:ad181=ad186:=(by injection e186);replace p186:=eq_true p186;replace q186:=eq_true q186;have p46:0≤(x1_1:Int):=od;have q46:(x1_1:Int) < ((x0_1.length:Int):Int):=od;obtain ⟨go46,co46,eo46,gb46,gl46,cl46,HG46⟩:=Kd.R_form HO_0.out (by omega);(first|cases eo46|(injection eo46 with ea_ en_ ec_;(first|subst ea_|(injection ea_ with ea_;subst ea_));subst ec_;clear en_));have GB46:=Aside0.mk gb46;have GG46:=Aside0.mk HG46;clear gb46 gl46 HG46;have HMgo46:=Aside0.mk (show (P0_ go46∨w.heap.size≤go46) from (HO_0.out.1 _ rfl).1);(first|simp only [add_plain] at hx181_0|skip);(first|simp only [add_plain] at hx181_1|skip);(first|simp only [add_plain] at hx181_2|skip);(first|simp only [add_plain] at hx182_0|skip);(first|simp only [add_plain] at hx182_1|skip);(first|simp only [add_plain] at hx182_2|skip);(first|simp only [add_plain] at hx184_0|skip);(first|simp only [add_plain] at hx184_1|skip);(first|simp only [add_plain] at hx184_2|skip);(first|simp only [add_plain] at hx186_0|skip);(first|simp only [add_plain] at hx186_1|skip);(first|simp only [add_plain] at hx186_2|skip);obtain ⟨ce46,hcl46,hM46,hcc46,hfr46⟩:=Kd.R_elem HO_0.out z56 (x1_1:Int) p46 q46;obtain rfl:=k56_openM hM46;have hx46_0:w52.cell? ⟨go46,(x1_1:Int).toNat * 3,none⟩=some (.int .i64 ((rd_T56 x0_1 x1_1).f0)):=hcc46 0 _ rfl;have hx46_1:w52.cell? ⟨go46,(x1_1:Int).toNat * 3 + 1,none⟩=some (.int .i64 ((rd_T56 x0_1 x1_1).f1)):=hcc46 1 _ rfl;have hx46_2:w52.cell? ⟨go46,(x1_1:Int).toNat * 3 + 2,none⟩=some (.int .i64 ((rd_T56 x0_1 x1_1).f2)):=hcc46 2 _ rfl;have hf46_0:w52.frozen? ⟨go46,(x1_1:Int).toNat * 3,none⟩=false:=hfr46 0;have hf46_1:w52.frozen? ⟨go46,(x1_1:Int).toNat * 3 + 1,none⟩=false:=hfr46 1;have hf46_2:w52.frozen? ⟨go46,(x1_1:Int).toNat * 3 + 2,none⟩=false:=hfr46 2;clear hcl46 hcc46 hfr46 hM46;replace p46:=eq_true p46;replace q46:=eq_true q46;have HX53:=Aside0.mk (show Kd.R k56 56 w52 w0.heap.size (fun k_=>(P0_ k_∨w.heap.size≤k_)∧k_≠gb185) (.slice (some ⟨go46,0,none⟩) x0_1.length co6) x0_1 from (kr HO_0));obtain ⟨ce53,hcl53,hM53,hcc53,hfr53⟩:=Kd.R_elem HX53.out z56 (x1_1:Int) od (by have h_:(x1_1:Int) < ((x0_1.length:Int):Int):=od;first|exact h_|(have e_:=(Kd.R_reads' HO_0.out).1;omega)|simpa using h_);obtain rfl:=k56_openM hM53;have HP53:=Kd.R_seg HX53.out (x1_1:Int) od (by have h_:(x1_1:Int) < ((x0_1.length:Int):Int):=od;first|exact h_|(have e_:=(Kd.R_reads' HO_0.out).1;omega)|simpa using h_) (seg:=[.int .i64 ((rd_T56 x0_1 (ji39)).f0),.int .i64 ((rd_T56 x0_1 (ji39)).f1),.int .i64 ((rd_T56 x0_1 (ji39)).f2)]) (j:=0) hcl53 hcc53 (show 3≤3 from by decide) (x':=(⟨(rd_T56 x0_1 (ji39)).f0,(rd_T56 x0_1 (ji39)).f1,(rd_T56 x0_1 (ji39)).f2⟩:S56)) (k56_mkM _ _ _ (⟨(rd_T56 x0_1 (ji39)).f0,(rd_T56 x0_1 (ji39)).f1,(rd_T56 x0_1 (ji39)).f2⟩:S56) ) (fun _ hk=>hk);have hx53_0:=hcc53 0 _ rfl;(try simp only [show (k56).sz=3 from rfl,Nat.mul_one,Nat.add_zero] at hx53_0);have hf53_0:=hfr53 0;(try simp only [show (k56).sz=3 from rfl,Nat.mul_one,Nat.add_zero] at hf53_0);have hx53_1:=hcc53 1 _ rfl;(try simp only [show (k56).sz=3 from rfl,Nat.mul_one,Nat.add_zero] at hx53_1);have hf53_1:=hfr53 1;(try simp only [show (k56).sz=3 from rfl,Nat.mul_one,Nat.add_zero] at hf53_1);have hx53_2:=hcc53 2 _ rfl;(try simp only [show (k56).sz=3 from rfl,Nat.mul_one,Nat.add_zero] at hx53_2);have hf53_2:=hfr53 2;(try simp only [show (k56).sz=3 from rfl,Nat.mul_one,Nat.add_zero] at hf53_2);clear hcl53 hcc53 hfr53 hM53)|((with_reducible refine gate_store (t:=56) (p:=52) rfl ?_);refine sx 56 52 (((w52.setCell ⟨go46,(x1_1:Int).toNat * 3,none⟩ (.int .i64 ((rd_T56 x0_1 (ji39)).f0))).setCell ⟨go46,(x1_1:Int).toNat * 3 + 1,none⟩ (.int .i64 ((rd_T56 x0_1 (ji39)).f1))).setCell ⟨go46,(x1_1:Int).toNat * 3 + 2,none⟩ (.int .i64 ((rd_T56 x0_1 (ji39)).f2))) ?_;intro w54 hw;have hg:w52.grownBy w54 (some go46):=(by rw [hw];exact HP53.2);have hp_:Kd.R k56 56 w54 w0.heap.size (fun k_=>(P0_ k_∨w.heap.size≤k_)∧k_≠gb185) (.slice (some ⟨go46,0,none⟩) x0_1.length co6) y187:=(by rw [hw,Ny187.out];exact HP53.1);clear HP53;replace BK185:=Aside0.mk (blk_grown (bk BK185) hg (Kd.R_away HO_0.out (fun _ hk=>hk.2)));replace HB:=Aside0.mk ((by rw [hw];exact below_set (below_set (below_set (HB.out) GB46.out) GB46.out) GB46.out:Below w0.heap.size w0 w54));replace HK:=Aside0.mk (Kept.of_grown (S:=(fun k_=>P0_ k_)) hg (by repeat (first|(with_reducible first|exact HK.out|apply Kept.alloc|apply Kept.drewN|apply Kept.drew|refine Kept.setCell ?_ (.inr GW185.out) _)|exact HK.out)) (fun k_ e_=>(HO_0.out.1 k_ e_).1));replace HO_0:=Aside0.mk (hp_);clear hg hw hp_;obtain ⟨hcz55_0,hcz55_1,hcz55_2,hfz55_0,hfz55_1,hfz55_2⟩:=ck3 BK185.out;have p47:0≤((ji39):Int):=od;have q47:((ji39):Int) < ((x0_1.length:Int):Int):=od;obtain ⟨ce47,hcl47,hM47,hcc47,hfr47⟩:=Kd.R_elem HO_0.out z56 ((ji39):Int) p47 q47;obtain rfl:=k56_openM hM47;have hx47_0:w54.cell? ⟨go46,((ji39):Int).toNat * 3,none⟩=some (.int .i64 ((rd_T56 y187 (ji39)).f0)):=hcc47 0 _ rfl;have hx47_1:w54.cell? ⟨go46,((ji39):Int).toNat * 3 + 1,none⟩=some (.int .i64 ((rd_T56 y187 (ji39)).f1)):=hcc47 1 _ rfl;have hx47_2:w54.cell? ⟨go46,((ji39):Int).toNat * 3 + 2,none⟩=some (.int .i64 ((rd_T56 y187 (ji39)).f2)):=hcc47 2 _ rfl;have hf47_0:w54.frozen? ⟨go46,((ji39):Int).toNat * 3,none⟩=false:=hfr47 0;have hf47_1:w54.frozen? ⟨go46,((ji39):Int).toNat * 3 + 1,none⟩=false:=hfr47 1;have hf47_2:w54.frozen? ⟨go46,((ji39):Int).toNat * 3 + 2,none⟩=false:=hfr47 2;clear hcl47 hcc47 hfr47 hM47;replace p47:=eq_true p47;replace q47:=eq_true q47;have HX56:=Aside0.mk (show Kd.R k56 56 w54 w0.heap.size (fun k_=>(P0_ k_∨w.heap.size≤k_)∧k_≠gb185) (.slice (some ⟨go46,0,none⟩) x0_1.length co6) y187 from (kr HO_0));obtain ⟨ce56,hcl56,hM56,hcc56,hfr56⟩:=Kd.R_elem HX56.out z56 ((ji39):Int) od (by have h_:((ji39):Int) < ((x0_1.length:Int):Int):=od;first|exact h_|(have e_:=(Kd.R_reads' HO_0.out).1;omega)|simpa using h_);obtain rfl:=k56_openM hM56;have HP56:=Kd.R_seg HX56.out ((ji39):Int) od (by have h_:((ji39):Int) < ((x0_1.length:Int):Int):=od;first|exact h_|(have e_:=(Kd.R_reads' HO_0.out).1;omega)|simpa using h_) (seg:=[.int .i64 ((rd_T56 x0_1 x1_1).f0),.int .i64 ((rd_T56 x0_1 x1_1).f1),.int .i64 ((rd_T56 x0_1 x1_1).f2)]) (j:=0) hcl56 hcc56 (show 3≤3 from by decide) (x':=(⟨(rd_T56 x0_1 x1_1).f0,(rd_T56 x0_1 x1_1).f1,(rd_T56 x0_1 x1_1).f2⟩:S56)) (k56_mkM _ _ _ (⟨(rd_T56 x0_1 x1_1).f0,(rd_T56 x0_1 x1_1).f1,(rd_T56 x0_1 x1_1).f2⟩:S56) ) (fun _ hk=>hk);have hx56_0:=hcc56 0 _ rfl;(try simp only [show (k56).sz=3 from rfl,Nat.mul_one,Nat.add_zero] at hx56_0);have hf56_0:=hfr56 0;(try simp only [show (k56).sz=3 from rfl,Nat.mul_one,Nat.add_zero] at hf56_0);have hx56_1:=hcc56 1 _ rfl;(try simp only [show (k56).sz=3 from rfl,Nat.mul_one,Nat.add_zero] at hx56_1);have hf56_1:=hfr56 1;(try simp only [show (k56).sz=3 from rfl,Nat.mul_one,Nat.add_zero] at hf56_1);have hx56_2:=hcc56 2 _ rfl;(try simp only [show (k56).sz=3 from rfl,Nat.mul_one,Nat.add_zero] at hx56_2);have hf56_2:=hfr56 2;(try simp only [show (k56).sz=3 from rfl,Nat.mul_one,Nat.add_zero] at hf56_2);clear hcl56 hcc56 hfr56 hM56)|((with_reducible refine gate_store (t:=56) (p:=56) rfl ?_);refine sx 56 56 (((w54.setCell ⟨go46,((ji39):Int).toNat * 3,none⟩ (.int .i64 ((rd_T56 x0_1 x1_1).f0))).setCell ⟨go46,((ji39):Int).toNat * 3 + 1,none⟩ (.int .i64 ((rd_T56 x0_1 x1_1).f1))).setCell ⟨go46,((ji39):Int).toNat * 3 + 2,none⟩ (.int .i64 ((rd_T56 x0_1 x1_1).f2))) ?_;intro w57 hw;have hg:w54.grownBy w57 (some go46):=(by rw [hw];exact HP56.2);have hp_:Kd.R k56 56 w57 w0.heap.size (fun k_=>(P0_ k_∨w.heap.size≤k_)∧k_≠gb185) (.slice (some ⟨go46,0,none⟩) x0_1.length co6) y188:=(by rw [hw,Ny188.out];exact HP56.1);clear HP56;replace BK185:=Aside0.mk (blk_grown (bk BK185) hg (Kd.R_away HO_0.out (fun _ hk=>hk.2)));replace HB:=Aside0.mk ((by rw [hw];exact below_set (below_set (below_set (HB.out) GB46.out) GB46.out) GB46.out:Below w0.heap.size w0 w57));replace HK:=Aside0.mk (Kept.of_grown (S:=(fun k_=>P0_ k_)) hg (by repeat (first|(with_reducible first|exact HK.out|apply Kept.alloc|apply Kept.drewN|apply Kept.drew|refine Kept.setCell ?_ (.inr GW185.out) _)|exact HK.out)) (fun k_ e_=>(HO_0.out.1 k_ e_).1));replace HO_0:=Aside0.mk (hp_);clear hg hw hp_))
         go_roundg kj4
         case measure=>have:=HK1.out;have:=HJ4.out;omega
         case rel=>exact ⟨(y188),((ji39)),(by first|rfl|(simp;done)|(simp only [← hji39] <;> (first|rfl|simp))|(simp [*];done)),H',⟨by have:=HK1.out;have:=HJ4.out;omega⟩,⟨by (with_reducible repeat (first|apply Kd.R_alloc|apply Kd.R_drewN|apply Kd.R_drew));exact Kd.R_mono HO_0.out (fun _ hk=>hk.1)⟩,⟨by repeat (first|(with_reducible first|exact HK.out|apply Kept.alloc|apply Kept.drewN|apply Kept.drew|refine Kept.setCell ?_ (.inr GW185.out) _)|exact HK.out)⟩,⟨bl⟩⟩
        ·replace c45:=Bool.eq_false_iff.mpr c45
         subst c45
         rw [if_neg nft] at H
         obtain rfl:=Option.some.inj H
         try go_wp2
         replace HO_0:=Aside0.mk (Kd.R_drew HO_0.out)
         replace HK:=Aside0.mk (Kept.drew HK.out)
         replace HB:=Aside0.mk (below_drew1 HB.out)
         have p181:0≤((ji39):Int):=od
         have q181:(ji39) < (x0_1.length:Int):=od
         obtain ⟨ad181,e181,hx181_0,hx181_1,hx181_2⟩:=at_T56 (Kd.R_reads' HO_0.out).2.2 (ji39) p181 q181
         cases e181
         replace p181:=eq_true p181
         replace q181:=eq_true q181
         have p182:0≤(x1_1:Int):=od
         have q182:x1_1 < (x0_1.length:Int):=od
         obtain ⟨ad182,e182,hx182_0,hx182_1,hx182_2⟩:=at_T56 (Kd.R_reads' HO_0.out).2.2 x1_1 p182 q182
         obtain rfl:ad181=ad182:=(by injection e182)
         replace p182:=eq_true p182
         replace q182:=eq_true q182
         refine start_ (n:=10) (S:=fun w'=>w'.cell? (ad181.add (((ji39)).toNat * 3))=some (.int .i64 ((rd_T56 x0_1 (ji39)).f0))∧w'.cell? ⟨(ad181.add (((ji39)).toNat * 3)).block,(ad181.add (((ji39)).toNat * 3)).off + 1,none⟩=some (.int .i64 ((rd_T56 x0_1 (ji39)).f1))∧w'.cell? ⟨(ad181.add (((ji39)).toNat * 3)).block,(ad181.add (((ji39)).toNat * 3)).off + 2,none⟩=some (.int .i64 ((rd_T56 x0_1 (ji39)).f2))∧w'.cell? (ad181.add ((x1_1).toNat * 3))=some (.int .i64 ((rd_T56 x0_1 x1_1).f0))∧w'.cell? ⟨(ad181.add ((x1_1).toNat * 3)).block,(ad181.add ((x1_1).toNat * 3)).off + 1,none⟩=some (.int .i64 ((rd_T56 x0_1 x1_1).f1))∧w'.cell? ⟨(ad181.add ((x1_1).toNat * 3)).block,(ad181.add ((x1_1).toNat * 3)).off + 2,none⟩=some (.int .i64 ((rd_T56 x0_1 x1_1).f2))) (ds:=[]) (bs 10 0) (by kernel_rfl) rfl rfl ⟨hx181_0,hx181_1,hx181_2,hx182_0,hx182_1,hx182_2⟩ (fun hHeld=>?_);refine with_tabW spec_l03Down.tab4 spec_l03Down.bits4 (fun HT_ HW_=>?_)
         generalize wc.drew=w58 at HO_0 HK HB hx181_0 hx181_1 hx181_2 hx182_0 hx182_1 hx182_2 hHeld ⊢
         refine pq 0 32 (bs 10 1) HT_ ?_
         refine pq 1 33 (bs 10 3) HT_ ?_
         refine pq 2 34 (bs 10 7) HT_ ?_
         refine pq 4 36 (bs 10 23) HT_ ?_
         refine pq 5 37 (bs 10 55) HT_ ?_
         refine pq 6 38 (bs 10 119) HT_ ?_
         refine tq 3 35 (bs 10 127) HT_ HW_ hHeld ?_
         refine tq 7 39 (bs 10 255) HT_ HW_ hHeld ?_
         refine one_ (i:=8) (N:=some 40) (bs 10 511) rfl rfl (one_of HT_.out (by kernel_rfl)) (by decide) (fun K hK=>?_)
         refine goes_ Try.func68 (by kernel_rfl) rfl #[.agg #[.int .i64 ((rd_T56 x0_1 (ji39)).f0),.int .i64 ((rd_T56 x0_1 (ji39)).f1),.int .i64 ((rd_T56 x0_1 (ji39)).f2)],.agg #[.int .i64 ((rd_T56 x0_1 x1_1).f0),.int .i64 ((rd_T56 x0_1 x1_1).f1),.int .i64 ((rd_T56 x0_1 x1_1).f2)]] (by rfl) rfl rfl (by (try simp only [List.map_toArray,List.map_cons,List.map_nil]);first|done|(simp only [hji39];rfl)|rfl|(simp only [List.length_drop,List.length_take];rfl)) ?_
         with_reducible refine (spec_l03Before.calls ((rd_T56 x0_1 (ji39)).f0) ((rd_T56 x0_1 (ji39)).f1) ((rd_T56 x0_1 (ji39)).f2) ((rd_T56 x0_1 x1_1).f0) ((rd_T56 x0_1 x1_1).f1) ((rd_T56 x0_1 x1_1).f2) false _ A44.out).mono ?_
         rintro e w59 ⟨rfl,hb⟩
         have HS0_:=(hb.cell (World.block_lt_of_cell? _ _ (hHeld.1))).trans (hHeld.1)
         have HS1_:=(hb.cell (World.block_lt_of_cell? _ _ (hHeld.2.1))).trans (hHeld.2.1)
         have HS2_:=(hb.cell (World.block_lt_of_cell? _ _ (hHeld.2.2.1))).trans (hHeld.2.2.1)
         have HS3_:=(hb.cell (World.block_lt_of_cell? _ _ (hHeld.2.2.2.1))).trans (hHeld.2.2.2.1)
         have HS4_:=(hb.cell (World.block_lt_of_cell? _ _ (hHeld.2.2.2.2.1))).trans (hHeld.2.2.2.2.1)
         have HS5_:=(hb.cell (World.block_lt_of_cell? _ _ (hHeld.2.2.2.2.2))).trans (hHeld.2.2.2.2.2)
         refine ⟨_,rfl,?_⟩
         replace HO_0:=Aside0.mk (Kd.R_below (kr HO_0) hb)
         replace HK:=Aside0.mk (Kept.below (S:=(fun k_=>P0_ k_)) (by repeat (first|(with_reducible first|exact HK.out|apply Kept.alloc|apply Kept.drewN|apply Kept.drew)|exact HK.out)) hb)
         replace HB:=Aside0.mk (below_step bl hb)
         (try clear hb)
         (try clear hb2)
         (try clear hk)
         (try clear hi)
         refine hK.out _ _ ⟨HS0_,HS1_,HS2_,HS3_,HS4_,HS5_⟩ (fun hHeld=>?_)
         clear hK K
         refine nrm ?_
         refine pq 9 41 (bs 10 1023) HT_ ?_
         refine done_ (done_of HT_.out (by kernel_rfl)) ?_
         try go_wp2
         first|go_end0|((try simp only [Exit.inBlock,Exit.then]);refine bodyPost_ret (results_none rfl _ _ _) rfl ?_)
         exact ⟨by first|rfl|(simp [errW_none,errW_some] <;> rfl)|(simp only [← hji39];first|rfl|(simp [errW_none,errW_some] <;> rfl))|(simp [*,errW_none,errW_some] <;> rfl),kr HO_0,bl,by repeat (first|(with_reducible first|exact HK.out|apply Kept.alloc|apply Kept.drewN|apply Kept.drew)|exact HK.out)⟩
       ·rw [if_neg c40] at H
        exact absurd H (by simp)

end Go.Proofs.Ytdffkcbaijbhoaa.PFnExactSchedule
