/- Contracts of functions of the given program: what each call answers. Written by a program of this session, out of the text of the functions. -/
import Derived.Test.YtladnbmemohekaaPFnExactMostLivex0
import Derived.Test.YtladnbmemohekaaPFnExactMostLivex3
namespace Go.Proofs.Ytladnbmemohekaa.PFnExactMostLive
open Go.RowKit Go.Proofs.YtladnbmemohekaaW.PrintWords Go.Proofs.YtladnbmemohekaaW.PrintLast Go.Proofs.YtladnbmemohekaaW.PrintMore Go.Proofs.Ytladnbmemohekaa.Giv
attribute [local go_sem] max2_int min2_int max_two min_two max_three min_three max_four min_four   -- for this text's walks alone
set_option linter.unusedVariables false
set_option linter.unusedSimpArgs false

/-! ### impl_LogOk: function 56 -/
mutual
def impl_LogOk.l0 : Nat → List (S50) → Int → Int → Option (Bool)
  | 0, _, _, _ => none
  | k + 1, x12, x13, x14 => if x14 < x13 then (if 0 ≤ x14 then (if x14 < (x12.length : Int) then ((impl_hasTicket.f k ((rd_T50 x12 x14).f0)).bind fun t162 => (if t162 = true then (impl_LogOk.j1 k 1 1000000000 x12 x13 x14 ((rd_T50 x12 x14).f0) ((rd_T50 x12 x14).f1) ((rd_T50 x12 x14).f2)) else (impl_LogOk.j1 k 0 0 x12 x13 x14 ((rd_T50 x12 x14).f0) ((rd_T50 x12 x14).f1) ((rd_T50 x12 x14).f2)))) else (none)) else (none)) else (some true)
def impl_LogOk.j1 : Nat → Int → Int → List (S50) → Int → Int → Int → Int → Int → Option (Bool)
  | 0, _, _, _, _, _, _, _, _ => none
  | k + 1, x5, x6, x12, x13, x14, x162000, x162001, x162002 => if x162000 = 5 then (impl_LogOk.j2 k x5 1000000000 x12 x13 x14 x162000 x162001 x162002) else (impl_LogOk.j2 k x5 x6 x12 x13 x14 x162000 x162001 x162002)
def impl_LogOk.j2 : Nat → Int → Int → List (S50) → Int → Int → Int → Int → Int → Option (Bool)
  | 0, _, _, _, _, _, _, _, _ => none
  | k + 1, x5, x6, x12, x13, x14, x162000, x162001, x162002 => (impl_hasConn.f x162000).bind fun t163 => (if t163 = true then (impl_LogOk.j3 k x5 x6 1 1000000000 x12 x13 x14 x162000 x162001 x162002) else (impl_LogOk.j3 k x5 x6 0 0 x12 x13 x14 x162000 x162001 x162002))
def impl_LogOk.j3 : Nat → Int → Int → Int → Int → List (S50) → Int → Int → Int → Int → Int → Option (Bool)
  | 0, _, _, _, _, _, _, _, _, _, _ => none
  | k + 1, x5, x6, x7, x8, x12, x13, x14, x162000, x162001, x162002 => if x162000 = 11 then (impl_LogOk.j4 k x5 x6 x7 3 x12 x13 x14 x162000 x162001 x162002) else (impl_LogOk.j4 k x5 x6 x7 x8 x12 x13 x14 x162000 x162001 x162002)
def impl_LogOk.j4 : Nat → Int → Int → Int → Int → List (S50) → Int → Int → Int → Int → Int → Option (Bool)
  | 0, _, _, _, _, _, _, _, _, _, _ => none
  | k + 1, x5, x6, x7, x8, x12, x13, x14, x162000, x162001, x162002 => (impl_in.f x162000 0 11).bind fun t164 => (if t164 = true then ((impl_in.f x162001 x5 x6).bind fun t165 => (if t165 = true then ((impl_in.f x162002 x7 x8).bind fun t166 => (if t166 = true then (impl_LogOk.l0 k x12 x13 (wrap64 (x14 + 1))) else (some false))) else (some false))) else (some false))
end
def impl_LogOk.f (k : Nat) (l0 : List (S50)) : Option (Bool) := if (l0.length : Int) > 2000 then (some false) else (impl_LogOk.l0 k l0 (l0.length : Int) 0)
theorem impl_LogOk.mono_l : ∀ k, (∀ y0 y1 y2, LeO (impl_LogOk.l0 k y0 y1 y2) (impl_LogOk.l0 (k + 1) y0 y1 y2)) ∧ (∀ y0 y1 y2 y3 y4 y5 y6 y7, LeO (impl_LogOk.j1 k y0 y1 y2 y3 y4 y5 y6 y7) (impl_LogOk.j1 (k + 1) y0 y1 y2 y3 y4 y5 y6 y7)) ∧ (∀ y0 y1 y2 y3 y4 y5 y6 y7, LeO (impl_LogOk.j2 k y0 y1 y2 y3 y4 y5 y6 y7) (impl_LogOk.j2 (k + 1) y0 y1 y2 y3 y4 y5 y6 y7)) ∧ (∀ y0 y1 y2 y3 y4 y5 y6 y7 y8 y9, LeO (impl_LogOk.j3 k y0 y1 y2 y3 y4 y5 y6 y7 y8 y9) (impl_LogOk.j3 (k + 1) y0 y1 y2 y3 y4 y5 y6 y7 y8 y9)) ∧ (∀ y0 y1 y2 y3 y4 y5 y6 y7 y8 y9, LeO (impl_LogOk.j4 k y0 y1 y2 y3 y4 y5 y6 y7 y8 y9) (impl_LogOk.j4 (k + 1) y0 y1 y2 y3 y4 y5 y6 y7 y8 y9))
  | 0 => ⟨fun _ _ _ r h => by simp [impl_LogOk.l0] at h, fun _ _ _ _ _ _ _ _ r h => by simp [impl_LogOk.j1] at h, fun _ _ _ _ _ _ _ _ r h => by simp [impl_LogOk.j2] at h, fun _ _ _ _ _ _ _ _ _ _ r h => by simp [impl_LogOk.j3] at h, fun _ _ _ _ _ _ _ _ _ _ r h => by simp [impl_LogOk.j4] at h⟩
  | k + 1 => by
    obtain ⟨ih0, ih1, ih2, ih3, ih4⟩ := impl_LogOk.mono_l k
    refine ⟨?_, ?_, ?_, ?_, ?_⟩
    · intro y0 y1 y2
      unfold impl_LogOk.l0
      repeat' first
      | (with_reducible exact ih0 _ _ _)
      | (with_reducible exact ih1 _ _ _ _ _ _ _ _)
      | (with_reducible exact ih2 _ _ _ _ _ _ _ _)
      | (with_reducible exact ih3 _ _ _ _ _ _ _ _ _ _)
      | (with_reducible exact ih4 _ _ _ _ _ _ _ _ _ _)
      | (with_reducible exact impl_hasTicket.mono _ _)
      | (with_reducible exact LeO.refl _)
      | (with_reducible exact LeO.none _)
      | (with_reducible refine LeO.ite ?_ ?_)
      | (with_reducible refine LeO.bind ?_ (fun _ => ?_))
      | exact ih0 _ _ _
      | exact ih1 _ _ _ _ _ _ _ _
      | exact ih2 _ _ _ _ _ _ _ _
      | exact ih3 _ _ _ _ _ _ _ _ _ _
      | exact ih4 _ _ _ _ _ _ _ _ _ _
      | exact impl_hasTicket.mono _ _
      | exact LeO.none _
      | refine LeO.ite ?_ ?_
      | refine LeO.bind ?_ (fun _ => ?_)
    · intro y0 y1 y2 y3 y4 y5 y6 y7
      unfold impl_LogOk.j1
      repeat' first
      | (with_reducible exact ih0 _ _ _)
      | (with_reducible exact ih1 _ _ _ _ _ _ _ _)
      | (with_reducible exact ih2 _ _ _ _ _ _ _ _)
      | (with_reducible exact ih3 _ _ _ _ _ _ _ _ _ _)
      | (with_reducible exact ih4 _ _ _ _ _ _ _ _ _ _)
      | (with_reducible exact impl_hasTicket.mono _ _)
      | (with_reducible exact LeO.refl _)
      | (with_reducible exact LeO.none _)
      | (with_reducible refine LeO.ite ?_ ?_)
      | (with_reducible refine LeO.bind ?_ (fun _ => ?_))
      | exact ih0 _ _ _
      | exact ih1 _ _ _ _ _ _ _ _
      | exact ih2 _ _ _ _ _ _ _ _
      | exact ih3 _ _ _ _ _ _ _ _ _ _
      | exact ih4 _ _ _ _ _ _ _ _ _ _
      | exact impl_hasTicket.mono _ _
      | exact LeO.none _
      | refine LeO.ite ?_ ?_
      | refine LeO.bind ?_ (fun _ => ?_)
    · intro y0 y1 y2 y3 y4 y5 y6 y7
      unfold impl_LogOk.j2
      repeat' first
      | (with_reducible exact ih0 _ _ _)
      | (with_reducible exact ih1 _ _ _ _ _ _ _ _)
      | (with_reducible exact ih2 _ _ _ _ _ _ _ _)
      | (with_reducible exact ih3 _ _ _ _ _ _ _ _ _ _)
      | (with_reducible exact ih4 _ _ _ _ _ _ _ _ _ _)
      | (with_reducible exact impl_hasTicket.mono _ _)
      | (with_reducible exact LeO.refl _)
      | (with_reducible exact LeO.none _)
      | (with_reducible refine LeO.ite ?_ ?_)
      | (with_reducible refine LeO.bind ?_ (fun _ => ?_))
      | exact ih0 _ _ _
      | exact ih1 _ _ _ _ _ _ _ _
      | exact ih2 _ _ _ _ _ _ _ _
      | exact ih3 _ _ _ _ _ _ _ _ _ _
      | exact ih4 _ _ _ _ _ _ _ _ _ _
      | exact impl_hasTicket.mono _ _
      | exact LeO.none _
      | refine LeO.ite ?_ ?_
      | refine LeO.bind ?_ (fun _ => ?_)
    · intro y0 y1 y2 y3 y4 y5 y6 y7 y8 y9
      unfold impl_LogOk.j3
      repeat' first
      | (with_reducible exact ih0 _ _ _)
      | (with_reducible exact ih1 _ _ _ _ _ _ _ _)
      | (with_reducible exact ih2 _ _ _ _ _ _ _ _)
      | (with_reducible exact ih3 _ _ _ _ _ _ _ _ _ _)
      | (with_reducible exact ih4 _ _ _ _ _ _ _ _ _ _)
      | (with_reducible exact impl_hasTicket.mono _ _)
      | (with_reducible exact LeO.refl _)
      | (with_reducible exact LeO.none _)
      | (with_reducible refine LeO.ite ?_ ?_)
      | (with_reducible refine LeO.bind ?_ (fun _ => ?_))
      | exact ih0 _ _ _
      | exact ih1 _ _ _ _ _ _ _ _
      | exact ih2 _ _ _ _ _ _ _ _
      | exact ih3 _ _ _ _ _ _ _ _ _ _
      | exact ih4 _ _ _ _ _ _ _ _ _ _
      | exact impl_hasTicket.mono _ _
      | exact LeO.none _
      | refine LeO.ite ?_ ?_
      | refine LeO.bind ?_ (fun _ => ?_)
    · intro y0 y1 y2 y3 y4 y5 y6 y7 y8 y9
      unfold impl_LogOk.j4
      repeat' first
      | (with_reducible exact ih0 _ _ _)
      | (with_reducible exact ih1 _ _ _ _ _ _ _ _)
      | (with_reducible exact ih2 _ _ _ _ _ _ _ _)
      | (with_reducible exact ih3 _ _ _ _ _ _ _ _ _ _)
      | (with_reducible exact ih4 _ _ _ _ _ _ _ _ _ _)
      | (with_reducible exact impl_hasTicket.mono _ _)
      | (with_reducible exact LeO.refl _)
      | (with_reducible exact LeO.none _)
      | (with_reducible refine LeO.ite ?_ ?_)
      | (with_reducible refine LeO.bind ?_ (fun _ => ?_))
      | exact ih0 _ _ _
      | exact ih1 _ _ _ _ _ _ _ _
      | exact ih2 _ _ _ _ _ _ _ _
      | exact ih3 _ _ _ _ _ _ _ _ _ _
      | exact ih4 _ _ _ _ _ _ _ _ _ _
      | exact impl_hasTicket.mono _ _
      | exact LeO.none _
      | refine LeO.ite ?_ ?_
      | refine LeO.bind ?_ (fun _ => ?_)
theorem impl_LogOk.mono : ∀ a0 k, LeO (impl_LogOk.f k a0) (impl_LogOk.f (k + 1) a0) := by
  intro a0 k
  obtain ⟨ih0, ih1, ih2, ih3, ih4⟩ := impl_LogOk.mono_l k
  unfold impl_LogOk.f
  repeat' first
      | (with_reducible exact ih0 _ _ _)
      | (with_reducible exact ih1 _ _ _ _ _ _ _ _)
      | (with_reducible exact ih2 _ _ _ _ _ _ _ _)
      | (with_reducible exact ih3 _ _ _ _ _ _ _ _ _ _)
      | (with_reducible exact ih4 _ _ _ _ _ _ _ _ _ _)
      | (with_reducible exact impl_hasTicket.mono _ _)
      | (with_reducible exact LeO.refl _)
      | (with_reducible exact LeO.none _)
      | (with_reducible refine LeO.ite ?_ ?_)
      | (with_reducible refine LeO.bind ?_ (fun _ => ?_))
      | exact ih0 _ _ _
      | exact ih1 _ _ _ _ _ _ _ _
      | exact ih2 _ _ _ _ _ _ _ _
      | exact ih3 _ _ _ _ _ _ _ _ _ _
      | exact ih4 _ _ _ _ _ _ _ _ _ _
      | exact impl_hasTicket.mono _ _
      | exact LeO.none _
      | refine LeO.ite ?_ ?_
      | refine LeO.bind ?_ (fun _ => ?_)
set_option maxHeartbeats 8000000 in
set_option maxRecDepth 100000 in
theorem impl_LogOk.calls (k : Nat) (A0 : Option Addr) (c0 : Nat) (l0 : List (S50)) (r : Bool) (w : World) (hr0 : Kd.C k50 w A0 l0.length l0) (hc0 : l0.length ≤ c0) (h : impl_LogOk.f k l0 = some r) :
    Calls Try.prog 56 #[.slice A0 l0.length c0] w fun e w' => e = .returned (.bool r) ∧ Below w.heap.size w w' := by
  have hu50 := Try.underlying50
  have HR0 := Aside0.mk hr0
  have HC0 := Aside0.mk hc0
  clear hr0 hc0
  have HB := Aside0.mk (Below.refl w.heap.size w)
  have H : (if (l0.length : Int) > 2000 then (some false) else (impl_LogOk.l0 k l0 (l0.length : Int) 0)) = some r := h
  clear h
  by_cases c2 : (l0.length : Int) > 2000
  · rw [if_pos c2] at H
    have c2b0 : decide (2000 < (l0.length : Int)) = true := decide_eq_true c2
    have c2b1 : decide (2000 < l0.length) = true := decide_eq_true (by omega)
    clear c2
    obtain rfl := Option.some.inj H
    go_enter Try.func56, Try.ntmps56
    go_wp2
    go_ret
    exact ⟨by first | rfl | (simp [errW_none, errW_some] <;> rfl) | (simp [*, errW_none, errW_some] <;> rfl), by repeat (first | (with_reducible first | exact HB.out | apply below_alloc | apply pw_below_drewN | apply below_drew1) | exact HB.out)⟩
  · rw [if_neg c2] at H
    have c2b0 : decide (2000 < (l0.length : Int)) = false := decide_eq_false c2
    have c2b1 : decide (2000 < l0.length) = false := decide_eq_false (by omega)
    clear c2
    have H' := Aside0.mk H
    clear H
    go_enter Try.func56, Try.ntmps56
    go_wp2
    go_loopg [14] k (fun kq v14 w' => ∃ (x14_1 : Int), v14 = .int .i64 x14_1 ∧ Aside0 (impl_LogOk.l0 kq l0 (l0.length : Int) x14_1 = some r) ∧ Aside0 (kq ≤ k) ∧ Aside0 (Below w.heap.size w w'))
    case atStart => exact ⟨(0), (by first | rfl | (simp; done) | (simp [*]; done)), H', ⟨Nat.le_refl _⟩, ⟨by repeat (first | (with_reducible first | exact HB.out | apply below_alloc | apply pw_below_drewN | apply below_drew1) | exact HB.out)⟩⟩
    case round =>
      clear H'
      try clear c2
      try clear c2b0
      try clear c2b1
      try clear p2
      obtain ⟨x14_1, rfl, HA, HK1, HB⟩ := hrel
      cases gk with
      | zero => exact absurd HA.out (by simp [impl_LogOk.l0])
      | succ k1 =>
        have H := HA.out
        clear HA
        simp only [impl_LogOk.l0] at H
        by_cases c3 : x14_1 < (l0.length : Int)
        · rw [if_pos c3] at H
          have c3b0 : decide (x14_1 < (l0.length : Int)) = true := decide_eq_true c3
          clear c3
          by_cases c4 : 0 ≤ x14_1
          · rw [if_pos c4] at H
            have c4b0 : decide (0 ≤ x14_1) = true := decide_eq_true c4
            clear c4
            by_cases c5 : x14_1 < (l0.length : Int)
            · rw [if_pos c5] at H
              have c5b0 : decide (x14_1 < (l0.length : Int)) = true := decide_eq_true c5
              clear c5
              replace H := Option.bind_eq_some_iff.mp H
              obtain ⟨t162, A60, H⟩ := H
              replace H : (if t162 = true then (impl_LogOk.j1 k1 1 1000000000 l0 (l0.length : Int) x14_1 ((rd_T50 l0 x14_1).f0) ((rd_T50 l0 x14_1).f1) ((rd_T50 l0 x14_1).f2)) else (impl_LogOk.j1 k1 0 0 l0 (l0.length : Int) x14_1 ((rd_T50 l0 x14_1).f0) ((rd_T50 l0 x14_1).f1) ((rd_T50 l0 x14_1).f2))) = some r := H
              have A6 := Aside0.mk A60
              clear A60
              have HC7 := Aside0.mk H
              clear H
              have p160 : 0 ≤ (x14_1 : Int) := of_decide_eq_true (by first | (with_reducible assumption) | assumption)
              have q160 : x14_1 < (l0.length : Int) := of_decide_eq_true (by first | (with_reducible assumption) | assumption)
              obtain ⟨ad160, e160, hx160_0, hx160_1, hx160_2⟩ := at_T50 HR0.out x14_1 p160 q160
              cases e160
              replace hx160_0 := (HB.out.cell (World.block_lt_of_cell? w _ hx160_0)).trans hx160_0
              replace hx160_1 := (HB.out.cell (World.block_lt_of_cell? w _ hx160_1)).trans hx160_1
              replace hx160_2 := (HB.out.cell (World.block_lt_of_cell? w _ hx160_2)).trans hx160_2
              replace p160 := eq_true p160
              replace q160 := eq_true q160
              go_upto_if 20 with (first | ((with_reducible refine gate_dst (N := 4) rfl ?_); refine box_event ?hg (N := 4) ?hd (cs := #[.int .i64 0, .int .i64 0, .int .i64 0]) (t := 50) ?hr ?_; (case hd => rfl); (case hg => rfl); (case hr => first | (go_simp; done) | (go_simp; rfl)); intro gb161 hg w8 hbox hb; have n0_ := Aside0.mk (below_step (by repeat (first | (with_reducible first | exact HB.out | apply below_alloc | apply pw_below_drewN | apply below_drew1) | exact HB.out)) hb); have n1_ := Aside0.mk (hbox); have n2_ := Aside0.mk ((by rw [hg]; exact (below_size (by repeat (first | (with_reducible first | exact HB.out | apply below_alloc | apply pw_below_drewN | apply below_drew1) | exact HB.out))) : w.heap.size ≤ gb161)); have n3_ := Aside0.mk ((by rw [hg]; exact (below_size (by repeat (first | (with_reducible first | exact HB.out | apply below_alloc | apply pw_below_drewN | apply below_drew1) | exact HB.out))) : w.heap.size ≤ gb161)); clear HB; have HB := n0_; have BK161 := n1_; have GW161 := n2_; have GE161 := n3_; clear n0_ n1_ n2_ n3_; clear hb hbox hg; have hcz9_0 : w8.cell? ⟨gb161, 0, none⟩ = some (.int .i64 0) := (blk_cell BK161.out 0).trans rfl; have hcz9_1 : w8.cell? ⟨gb161, 1, none⟩ = some (.int .i64 0) := (blk_cell BK161.out 1).trans rfl; have hcz9_2 : w8.cell? ⟨gb161, 2, none⟩ = some (.int .i64 0) := (blk_cell BK161.out 2).trans rfl; have hfz9_0 := blk_frozen BK161.out 0; have hfz9_1 := blk_frozen BK161.out 1; have hfz9_2 := blk_frozen BK161.out 2) | ((with_reducible refine gate_callee (f := 75) rfl ?_); refine goesL_ (some 20) rfl rfl Try.func75 (by kernel_rfl) rfl #[.int .i64 ((rd_T50 l0 x14_1).f0)] rfl (by (try simp only [List.map_toArray, List.map_cons, List.map_nil]); first | done | rfl | (simp only [List.length_drop, List.length_take]; rfl)) ?_; (with_reducible refine (impl_hasTicket.calls k1 ((rd_T50 l0 x14_1).f0) t162 _ A6.out).mono ?_); rintro e w10 ⟨rfl, hb⟩; refine ⟨_, rfl, ?_⟩; have n0_ := Aside0.mk (blk_below (g := gb161) (o := .cells #[.int .i64 ((rd_T50 l0 x14_1).f0), .int .i64 ((rd_T50 l0 x14_1).f1), .int .i64 ((rd_T50 l0 x14_1).f2)] 50 (0, 0)) (by (with_reducible repeat (first | refine blk_drewN ?_ _ | refine blk_drew ?_ | refine blk_alloc ?_ _)); refine blk_put (cs := #[.int .i64 ((rd_T50 l0 x14_1).f0), .int .i64 ((rd_T50 l0 x14_1).f1), .int .i64 0]) ?_ 2 _ rfl; (with_reducible repeat (first | refine blk_drewN ?_ _ | refine blk_drew ?_ | refine blk_alloc ?_ _)); refine blk_put (cs := #[.int .i64 ((rd_T50 l0 x14_1).f0), .int .i64 0, .int .i64 0]) ?_ 1 _ rfl; (with_reducible repeat (first | refine blk_drewN ?_ _ | refine blk_drew ?_ | refine blk_alloc ?_ _)); refine blk_put (cs := #[.int .i64 0, .int .i64 0, .int .i64 0]) ?_ 0 _ rfl; (with_reducible repeat (first | refine blk_drewN ?_ _ | refine blk_drew ?_ | refine blk_alloc ?_ _)); exact BK161.out) hb); have n1_ := Aside0.mk (below_step (by repeat (first | (with_reducible first | exact HB.out | apply below_alloc | apply pw_below_drewN | apply below_drew1 | refine below_set ?_ GE161.out) | exact HB.out)) hb); clear BK161; clear HB; have BK161 := n0_; have HB := n1_; clear n0_ n1_; (try clear hb); (try clear hb2); (try clear hk); (try clear hi)))
              (try simp only [Act.put, List.setIfInBounds_toArray, List.set_cons_zero, List.set_cons_succ])
              go_cut [5, 6] (fun v5 v6 wc => ∃ (kq : Nat) (x5_6 : Int) (x6_6 : Int), v5 = .int .i64 x5_6 ∧ v6 = .int .i64 x6_6 ∧ Aside0 (impl_LogOk.j1 kq x5_6 x6_6 l0 (l0.length : Int) x14_1 ((rd_T50 l0 x14_1).f0) ((rd_T50 l0 x14_1).f1) ((rd_T50 l0 x14_1).f2) = some r) ∧ Aside0 (kq ≤ k1) ∧ Aside0 (wc.heap[gb161]? = some (.cells #[.int .i64 ((rd_T50 l0 x14_1).f0), .int .i64 ((rd_T50 l0 x14_1).f1), .int .i64 ((rd_T50 l0 x14_1).f2)] 50 (0, 0))) ∧ Aside0 (Below w.heap.size w wc))
              case first =>
                have H := HC7.out
                clear HC7
                by_cases c11 : t162 = true
                · subst c11
                  have H1 : (impl_LogOk.j1 k1 1 1000000000 l0 (l0.length : Int) x14_1 ((rd_T50 l0 x14_1).f0) ((rd_T50 l0 x14_1).f1) ((rd_T50 l0 x14_1).f2)) = some r := by rw [if_pos rfl] at H; exact H
                  clear H
                  have H := H1
                  clear H1
                  have H' := Aside0.mk H
                  clear H
                  go_wp2
                  go_meet
                  case rel => exact ⟨_, (1), (1000000000), (by first | rfl | (simp; done) | (simp [*]; done)), (by first | rfl | (simp; done) | (simp [*]; done)), H', ⟨by have := HK1.out; first | omega | exact Nat.le_refl _⟩, ⟨by (with_reducible repeat (first | refine blk_drewN ?_ _ | refine blk_drew ?_ | refine blk_alloc ?_ _)); exact BK161.out⟩, ⟨by repeat (first | (with_reducible first | exact HB.out | apply below_alloc | apply pw_below_drewN | apply below_drew1 | refine below_set ?_ GE161.out) | exact HB.out)⟩⟩
                · replace c11 := Bool.eq_false_iff.mpr c11
                  subst c11
                  have H1 : (impl_LogOk.j1 k1 0 0 l0 (l0.length : Int) x14_1 ((rd_T50 l0 x14_1).f0) ((rd_T50 l0 x14_1).f1) ((rd_T50 l0 x14_1).f2)) = some r := by rw [if_neg (show ¬ (false = true) by decide)] at H; exact H
                  clear H
                  have H := H1
                  clear H1
                  have H' := Aside0.mk H
                  clear H
                  go_wp2
                  go_meet
                  case rel => exact ⟨_, (0), (0), (by first | rfl | (simp; done) | (simp [*]; done)), (by first | rfl | (simp; done) | (simp [*]; done)), H', ⟨by have := HK1.out; first | omega | exact Nat.le_refl _⟩, ⟨by (with_reducible repeat (first | refine blk_drewN ?_ _ | refine blk_drew ?_ | refine blk_alloc ?_ _)); exact BK161.out⟩, ⟨by repeat (first | (with_reducible first | exact HB.out | apply below_alloc | apply pw_below_drewN | apply below_drew1 | refine below_set ?_ GE161.out) | exact HB.out)⟩⟩
              case rest =>
                clear HC7
                try clear c1
                try clear p1
                try clear q1
                try clear hx1
                try clear c2
                try clear c2b0
                try clear c2b1
                try clear p2
                try clear c3
                try clear c3b0
                try clear c4
                try clear c4b0
                try clear c5
                try clear c5b0
                try clear c7
                try clear c11
                try clear hcz9_0
                try clear hcz9_1
                try clear hcz9_2
                try clear hfz9_0
                try clear hfz9_1
                try clear hfz9_2
                try clear hx160_0
                try clear hx160_1
                try clear hx160_2
                try clear p160
                try clear p2
                try clear q160
                obtain ⟨kq, x5_6, x6_6, rfl, rfl, HA, HJ6, BK161, HB⟩ := hcut
                cases kq with
                | zero => exact absurd HA.out (by simp [impl_LogOk.j1])
                | succ kj6 =>
                  have H := HA.out
                  clear HA
                  simp only [impl_LogOk.j1] at H
                  have HC12 := Aside0.mk H
                  clear H
                  have hcz13_0 : wc.cell? ⟨gb161, 0, none⟩ = some (.int .i64 ((rd_T50 l0 x14_1).f0)) := (blk_cell BK161.out 0).trans rfl
                  have hcz13_1 : wc.cell? ⟨gb161, 1, none⟩ = some (.int .i64 ((rd_T50 l0 x14_1).f1)) := (blk_cell BK161.out 1).trans rfl
                  have hcz13_2 : wc.cell? ⟨gb161, 2, none⟩ = some (.int .i64 ((rd_T50 l0 x14_1).f2)) := (blk_cell BK161.out 2).trans rfl
                  have hfz13_0 := blk_frozen BK161.out 0
                  have hfz13_1 := blk_frozen BK161.out 1
                  have hfz13_2 := blk_frozen BK161.out 2
                  go_upto_if 23 with (fail)
                  go_cut [6] (fun v6 wc => ∃ (kq : Nat) (x6_11 : Int), v6 = .int .i64 x6_11 ∧ Aside0 (impl_LogOk.j2 kq x5_6 x6_11 l0 (l0.length : Int) x14_1 ((rd_T50 l0 x14_1).f0) ((rd_T50 l0 x14_1).f1) ((rd_T50 l0 x14_1).f2) = some r) ∧ Aside0 (kq ≤ kj6) ∧ Aside0 (wc.heap[gb161]? = some (.cells #[.int .i64 ((rd_T50 l0 x14_1).f0), .int .i64 ((rd_T50 l0 x14_1).f1), .int .i64 ((rd_T50 l0 x14_1).f2)] 50 (0, 0))) ∧ Aside0 (Below w.heap.size w wc))
                  case first =>
                    have H := HC12.out
                    clear HC12
                    by_cases c14 : ((rd_T50 l0 x14_1).f0) = 5
                    · rw [if_pos c14] at H
                      have c14b0 : (((rd_T50 l0 x14_1).f0) == 5) = true := beq_iff_eq.mpr c14
                      have c14b1 : (((rd_T50 l0 x14_1).f0) != 5) = false := bne_eq_false_iff_eq.mpr c14
                      clear c14
                      (first | rw [c14b0] | (simp only [i64_w, i32_w]; rw [c14b0]) | skip)
                      have H' := Aside0.mk H
                      clear H
                      go_wp2
                      go_meet
                      case rel => exact ⟨_, (1000000000), (by first | rfl | (simp; done) | (simp [*]; done)), H', ⟨by have := HK1.out; have := HJ6.out; first | omega | exact Nat.le_refl _⟩, ⟨by (with_reducible repeat (first | refine blk_drewN ?_ _ | refine blk_drew ?_ | refine blk_alloc ?_ _)); exact BK161.out⟩, ⟨by repeat (first | (with_reducible first | exact HB.out | apply below_alloc | apply pw_below_drewN | apply below_drew1 | refine below_set ?_ GE161.out) | exact HB.out)⟩⟩
                    · rw [if_neg c14] at H
                      have c14b0 : (((rd_T50 l0 x14_1).f0) == 5) = false := beq_eq_false_iff_ne.mpr c14
                      have c14b1 : (((rd_T50 l0 x14_1).f0) != 5) = true := bne_iff_ne.mpr c14
                      (first | rw [c14b0] | (simp only [i64_w, i32_w]; rw [c14b0]) | skip)
                      have H' := Aside0.mk H
                      clear H
                      go_wp2
                      go_meet
                      case rel => exact ⟨_, (x6_6), (by first | rfl | (simp; done) | (simp [*]; done)), H', ⟨by have := HK1.out; have := HJ6.out; first | omega | exact Nat.le_refl _⟩, ⟨by (with_reducible repeat (first | refine blk_drewN ?_ _ | refine blk_drew ?_ | refine blk_alloc ?_ _)); exact BK161.out⟩, ⟨by repeat (first | (with_reducible first | exact HB.out | apply below_alloc | apply pw_below_drewN | apply below_drew1 | refine below_set ?_ GE161.out) | exact HB.out)⟩⟩
                  case rest =>
                    clear HC12
                    try clear c1
                    try clear p1
                    try clear q1
                    try clear hx1
                    try clear c2
                    try clear c2b0
                    try clear c2b1
                    try clear p2
                    try clear c3
                    try clear c3b0
                    try clear c4
                    try clear c4b0
                    try clear c5
                    try clear c5b0
                    try clear c7
                    try clear c11
                    try clear c14
                    try clear c14b0
                    try clear c14b1
                    try clear hcz13_0
                    try clear hcz13_1
                    try clear hcz13_2
                    try clear hcz9_0
                    try clear hcz9_1
                    try clear hcz9_2
                    try clear hfz13_0
                    try clear hfz13_1
                    try clear hfz13_2
                    try clear hfz9_0
                    try clear hfz9_1
                    try clear hfz9_2
                    try clear hx160_0
                    try clear hx160_1
                    try clear hx160_2
                    try clear p1
                    try clear p160
                    try clear p2
                    try clear q1
                    try clear q160
                    obtain ⟨kq, x6_11, rfl, HA, HJ11, BK161, HB⟩ := hcut
                    cases kq with
                    | zero => exact absurd HA.out (by simp [impl_LogOk.j2])
                    | succ kj11 =>
                      have H := HA.out
                      clear HA
                      simp only [impl_LogOk.j2] at H
                      replace H := Option.bind_eq_some_iff.mp H
                      obtain ⟨t163, A150, H⟩ := H
                      replace H : (if t163 = true then (impl_LogOk.j3 kj11 x5_6 x6_11 1 1000000000 l0 (l0.length : Int) x14_1 ((rd_T50 l0 x14_1).f0) ((rd_T50 l0 x14_1).f1) ((rd_T50 l0 x14_1).f2)) else (impl_LogOk.j3 kj11 x5_6 x6_11 0 0 l0 (l0.length : Int) x14_1 ((rd_T50 l0 x14_1).f0) ((rd_T50 l0 x14_1).f1) ((rd_T50 l0 x14_1).f2))) = some r := H
                      have A15 := Aside0.mk A150
                      clear A150
                      have HC16 := Aside0.mk H
                      clear H
                      have hcz17_0 : wc.cell? ⟨gb161, 0, none⟩ = some (.int .i64 ((rd_T50 l0 x14_1).f0)) := (blk_cell BK161.out 0).trans rfl
                      have hcz17_1 : wc.cell? ⟨gb161, 1, none⟩ = some (.int .i64 ((rd_T50 l0 x14_1).f1)) := (blk_cell BK161.out 1).trans rfl
                      have hcz17_2 : wc.cell? ⟨gb161, 2, none⟩ = some (.int .i64 ((rd_T50 l0 x14_1).f2)) := (blk_cell BK161.out 2).trans rfl
                      have hfz17_0 := blk_frozen BK161.out 0
                      have hfz17_1 := blk_frozen BK161.out 1
                      have hfz17_2 := blk_frozen BK161.out 2
                      go_upto_if 26 with (first | ((with_reducible refine gate_callee (f := 66) rfl ?_); refine goesL_ (some 26) rfl rfl Try.func66 (by kernel_rfl) rfl #[.int .i64 ((rd_T50 l0 x14_1).f0)] rfl (by (try simp only [List.map_toArray, List.map_cons, List.map_nil]); first | done | rfl | (simp only [List.length_drop, List.length_take]; rfl)) ?_; (with_reducible refine (impl_hasConn.calls ((rd_T50 l0 x14_1).f0) t163 _ A15.out).mono ?_); rintro e w' ⟨rfl, ⟨nd, rfl⟩⟩; refine ⟨_, rfl, ?_⟩))
                      (try simp only [Act.put, List.setIfInBounds_toArray, List.set_cons_zero, List.set_cons_succ])
                      go_cut [7, 8] (fun v7 v8 wc => ∃ (kq : Nat) (x7_15 : Int) (x8_15 : Int), v7 = .int .i64 x7_15 ∧ v8 = .int .i64 x8_15 ∧ Aside0 (impl_LogOk.j3 kq x5_6 x6_11 x7_15 x8_15 l0 (l0.length : Int) x14_1 ((rd_T50 l0 x14_1).f0) ((rd_T50 l0 x14_1).f1) ((rd_T50 l0 x14_1).f2) = some r) ∧ Aside0 (kq ≤ kj11) ∧ Aside0 (wc.heap[gb161]? = some (.cells #[.int .i64 ((rd_T50 l0 x14_1).f0), .int .i64 ((rd_T50 l0 x14_1).f1), .int .i64 ((rd_T50 l0 x14_1).f2)] 50 (0, 0))) ∧ Aside0 (Below w.heap.size w wc))
                      case first =>
                        have H := HC16.out
                        clear HC16
                        by_cases c18 : t163 = true
                        · subst c18
                          have H1 : (impl_LogOk.j3 kj11 x5_6 x6_11 1 1000000000 l0 (l0.length : Int) x14_1 ((rd_T50 l0 x14_1).f0) ((rd_T50 l0 x14_1).f1) ((rd_T50 l0 x14_1).f2)) = some r := by rw [if_pos rfl] at H; exact H
                          clear H
                          have H := H1
                          clear H1
                          have H' := Aside0.mk H
                          clear H
                          go_wp2
                          go_meet
                          case rel => exact ⟨_, (1), (1000000000), (by first | rfl | (simp; done) | (simp [*]; done)), (by first | rfl | (simp; done) | (simp [*]; done)), H', ⟨by have := HK1.out; have := HJ6.out; have := HJ11.out; first | omega | exact Nat.le_refl _⟩, ⟨by (with_reducible repeat (first | refine blk_drewN ?_ _ | refine blk_drew ?_ | refine blk_alloc ?_ _)); exact BK161.out⟩, ⟨by repeat (first | (with_reducible first | exact HB.out | apply below_alloc | apply pw_below_drewN | apply below_drew1 | refine below_set ?_ GE161.out) | exact HB.out)⟩⟩
                        · replace c18 := Bool.eq_false_iff.mpr c18
                          subst c18
                          have H1 : (impl_LogOk.j3 kj11 x5_6 x6_11 0 0 l0 (l0.length : Int) x14_1 ((rd_T50 l0 x14_1).f0) ((rd_T50 l0 x14_1).f1) ((rd_T50 l0 x14_1).f2)) = some r := by rw [if_neg (show ¬ (false = true) by decide)] at H; exact H
                          clear H
                          have H := H1
                          clear H1
                          have H' := Aside0.mk H
                          clear H
                          go_wp2
                          go_meet
                          case rel => exact ⟨_, (0), (0), (by first | rfl | (simp; done) | (simp [*]; done)), (by first | rfl | (simp; done) | (simp [*]; done)), H', ⟨by have := HK1.out; have := HJ6.out; have := HJ11.out; first | omega | exact Nat.le_refl _⟩, ⟨by (with_reducible repeat (first | refine blk_drewN ?_ _ | refine blk_drew ?_ | refine blk_alloc ?_ _)); exact BK161.out⟩, ⟨by repeat (first | (with_reducible first | exact HB.out | apply below_alloc | apply pw_below_drewN | apply below_drew1 | refine below_set ?_ GE161.out) | exact HB.out)⟩⟩
                      case rest =>
                        clear HC16
                        try clear c1
                        try clear p1
                        try clear q1
                        try clear hx1
                        try clear c2
                        try clear c2b0
                        try clear c2b1
                        try clear p2
                        try clear c3
                        try clear c3b0
                        try clear c4
                        try clear c4b0
                        try clear c5
                        try clear c5b0
                        try clear c6
                        try clear c7
                        try clear c11
                        try clear c14
                        try clear c14b0
                        try clear c14b1
                        try clear p16
                        try clear q16
                        try clear hx16
                        try clear c18
                        try clear hcz13_0
                        try clear hcz13_1
                        try clear hcz13_2
                        try clear hcz17_0
                        try clear hcz17_1
                        try clear hcz17_2
                        try clear hcz9_0
                        try clear hcz9_1
                        try clear hcz9_2
                        try clear hfz13_0
                        try clear hfz13_1
                        try clear hfz13_2
                        try clear hfz17_0
                        try clear hfz17_1
                        try clear hfz17_2
                        try clear hfz9_0
                        try clear hfz9_1
                        try clear hfz9_2
                        try clear hx160_0
                        try clear hx160_1
                        try clear hx160_2
                        try clear p1
                        try clear p160
                        try clear p2
                        try clear q1
                        try clear q160
                        obtain ⟨kq, x7_15, x8_15, rfl, rfl, HA, HJ15, BK161, HB⟩ := hcut
                        cases kq with
                        | zero => exact absurd HA.out (by simp [impl_LogOk.j3])
                        | succ kj15 =>
                          have H := HA.out
                          clear HA
                          simp only [impl_LogOk.j3] at H
                          have HC19 := Aside0.mk H
                          clear H
                          have hcz20_0 : wc.cell? ⟨gb161, 0, none⟩ = some (.int .i64 ((rd_T50 l0 x14_1).f0)) := (blk_cell BK161.out 0).trans rfl
                          have hcz20_1 : wc.cell? ⟨gb161, 1, none⟩ = some (.int .i64 ((rd_T50 l0 x14_1).f1)) := (blk_cell BK161.out 1).trans rfl
                          have hcz20_2 : wc.cell? ⟨gb161, 2, none⟩ = some (.int .i64 ((rd_T50 l0 x14_1).f2)) := (blk_cell BK161.out 2).trans rfl
                          have hfz20_0 := blk_frozen BK161.out 0
                          have hfz20_1 := blk_frozen BK161.out 1
                          have hfz20_2 := blk_frozen BK161.out 2
                          go_upto_if 29 with (fail)
                          go_cut [8] (fun v8 wc => ∃ (kq : Nat) (x8_18 : Int), v8 = .int .i64 x8_18 ∧ Aside0 (impl_LogOk.j4 kq x5_6 x6_11 x7_15 x8_18 l0 (l0.length : Int) x14_1 ((rd_T50 l0 x14_1).f0) ((rd_T50 l0 x14_1).f1) ((rd_T50 l0 x14_1).f2) = some r) ∧ Aside0 (kq ≤ kj15) ∧ Aside0 (wc.heap[gb161]? = some (.cells #[.int .i64 ((rd_T50 l0 x14_1).f0), .int .i64 ((rd_T50 l0 x14_1).f1), .int .i64 ((rd_T50 l0 x14_1).f2)] 50 (0, 0))) ∧ Aside0 (Below w.heap.size w wc))
                          case first =>
                            have H := HC19.out
                            clear HC19
                            by_cases c21 : ((rd_T50 l0 x14_1).f0) = 11
                            · rw [if_pos c21] at H
                              have c21b0 : (((rd_T50 l0 x14_1).f0) == 11) = true := beq_iff_eq.mpr c21
                              have c21b1 : (((rd_T50 l0 x14_1).f0) != 11) = false := bne_eq_false_iff_eq.mpr c21
                              clear c21
                              (first | rw [c21b0] | (simp only [i64_w, i32_w]; rw [c21b0]) | skip)
                              have H' := Aside0.mk H
                              clear H
                              go_wp2
                              go_meet
                              case rel => exact ⟨_, (3), (by first | rfl | (simp; done) | (simp [*]; done)), H', ⟨by have := HK1.out; have := HJ6.out; have := HJ11.out; have := HJ15.out; first | omega | exact Nat.le_refl _⟩, ⟨by (with_reducible repeat (first | refine blk_drewN ?_ _ | refine blk_drew ?_ | refine blk_alloc ?_ _)); exact BK161.out⟩, ⟨by repeat (first | (with_reducible first | exact HB.out | apply below_alloc | apply pw_below_drewN | apply below_drew1 | refine below_set ?_ GE161.out) | exact HB.out)⟩⟩
                            · rw [if_neg c21] at H
                              have c21b0 : (((rd_T50 l0 x14_1).f0) == 11) = false := beq_eq_false_iff_ne.mpr c21
                              have c21b1 : (((rd_T50 l0 x14_1).f0) != 11) = true := bne_iff_ne.mpr c21
                              (first | rw [c21b0] | (simp only [i64_w, i32_w]; rw [c21b0]) | skip)
                              have H' := Aside0.mk H
                              clear H
                              go_wp2
                              go_meet
                              case rel => exact ⟨_, (x8_15), (by first | rfl | (simp; done) | (simp [*]; done)), H', ⟨by have := HK1.out; have := HJ6.out; have := HJ11.out; have := HJ15.out; first | omega | exact Nat.le_refl _⟩, ⟨by (with_reducible repeat (first | refine blk_drewN ?_ _ | refine blk_drew ?_ | refine blk_alloc ?_ _)); exact BK161.out⟩, ⟨by repeat (first | (with_reducible first | exact HB.out | apply below_alloc | apply pw_below_drewN | apply below_drew1 | refine below_set ?_ GE161.out) | exact HB.out)⟩⟩
                          case rest =>
                            clear HC19
                            try clear c1
                            try clear p1
                            try clear q1
                            try clear hx1
                            try clear c2
                            try clear c2b0
                            try clear c2b1
                            try clear p2
                            try clear c3
                            try clear c3b0
                            try clear c4
                            try clear c4b0
                            try clear c5
                            try clear c5b0
                            try clear c6
                            try clear c7
                            try clear c11
                            try clear c14
                            try clear c14b0
                            try clear c14b1
                            try clear p16
                            try clear q16
                            try clear hx16
                            try clear c18
                            try clear c21
                            try clear c21b0
                            try clear c21b1
                            try clear hcz13_0
                            try clear hcz13_1
                            try clear hcz13_2
                            try clear hcz17_0
                            try clear hcz17_1
                            try clear hcz17_2
                            try clear hcz20_0
                            try clear hcz20_1
                            try clear hcz20_2
                            try clear hcz9_0
                            try clear hcz9_1
                            try clear hcz9_2
                            try clear hfz13_0
                            try clear hfz13_1
                            try clear hfz13_2
                            try clear hfz17_0
                            try clear hfz17_1
                            try clear hfz17_2
                            try clear hfz20_0
                            try clear hfz20_1
                            try clear hfz20_2
                            try clear hfz9_0
                            try clear hfz9_1
                            try clear hfz9_2
                            try clear hx160_0
                            try clear hx160_1
                            try clear hx160_2
                            try clear p1
                            try clear p16
                            try clear p160
                            try clear p2
                            try clear q1
                            try clear q16
                            try clear q160
                            obtain ⟨kq, x8_18, rfl, HA, HJ18, BK161, HB⟩ := hcut
                            cases kq with
                            | zero => exact absurd HA.out (by simp [impl_LogOk.j4])
                            | succ kj18 =>
                              have H := HA.out
                              clear HA
                              simp only [impl_LogOk.j4] at H
                              replace H := Option.bind_eq_some_iff.mp H
                              obtain ⟨t164, A220, H⟩ := H
                              replace H : (if t164 = true then ((impl_in.f ((rd_T50 l0 x14_1).f1) x5_6 x6_11).bind fun t165 => (if t165 = true then ((impl_in.f ((rd_T50 l0 x14_1).f2) x7_15 x8_18).bind fun t166 => (if t166 = true then (impl_LogOk.l0 kj18 l0 (l0.length : Int) (wrap64 (x14_1 + 1))) else (some false))) else (some false))) else (some false)) = some r := H
                              have A22 := Aside0.mk A220
                              clear A220
                              by_cases c23 : t164 = true
                              · subst c23
                                have H1 : ((impl_in.f ((rd_T50 l0 x14_1).f1) x5_6 x6_11).bind fun t165 => (if t165 = true then ((impl_in.f ((rd_T50 l0 x14_1).f2) x7_15 x8_18).bind fun t166 => (if t166 = true then (impl_LogOk.l0 kj18 l0 (l0.length : Int) (wrap64 (x14_1 + 1))) else (some false))) else (some false))) = some r := by rw [if_pos rfl] at H; exact H
                                clear H
                                have H := H1
                                clear H1
                                replace H := Option.bind_eq_some_iff.mp H
                                obtain ⟨t165, A240, H⟩ := H
                                replace H : (if t165 = true then ((impl_in.f ((rd_T50 l0 x14_1).f2) x7_15 x8_18).bind fun t166 => (if t166 = true then (impl_LogOk.l0 kj18 l0 (l0.length : Int) (wrap64 (x14_1 + 1))) else (some false))) else (some false)) = some r := H
                                have A24 := Aside0.mk A240
                                clear A240
                                by_cases c25 : t165 = true
                                · subst c25
                                  have H1 : ((impl_in.f ((rd_T50 l0 x14_1).f2) x7_15 x8_18).bind fun t166 => (if t166 = true then (impl_LogOk.l0 kj18 l0 (l0.length : Int) (wrap64 (x14_1 + 1))) else (some false))) = some r := by rw [if_pos rfl] at H; exact H
                                  clear H
                                  have H := H1
                                  clear H1
                                  replace H := Option.bind_eq_some_iff.mp H
                                  obtain ⟨t166, A260, H⟩ := H
                                  replace H : (if t166 = true then (impl_LogOk.l0 kj18 l0 (l0.length : Int) (wrap64 (x14_1 + 1))) else (some false)) = some r := H
                                  have A26 := Aside0.mk A260
                                  clear A260
                                  by_cases c27 : t166 = true
                                  · subst c27
                                    have H1 : (impl_LogOk.l0 kj18 l0 (l0.length : Int) (wrap64 (x14_1 + 1))) = some r := by rw [if_pos rfl] at H; exact H
                                    clear H
                                    have H := H1
                                    clear H1
                                    have H' := Aside0.mk H
                                    clear H
                                    have hcz28_0 : wc.cell? ⟨gb161, 0, none⟩ = some (.int .i64 ((rd_T50 l0 x14_1).f0)) := (blk_cell BK161.out 0).trans rfl
                                    have hcz28_1 : wc.cell? ⟨gb161, 1, none⟩ = some (.int .i64 ((rd_T50 l0 x14_1).f1)) := (blk_cell BK161.out 1).trans rfl
                                    have hcz28_2 : wc.cell? ⟨gb161, 2, none⟩ = some (.int .i64 ((rd_T50 l0 x14_1).f2)) := (blk_cell BK161.out 2).trans rfl
                                    have hfz28_0 := blk_frozen BK161.out 0
                                    have hfz28_1 := blk_frozen BK161.out 1
                                    have hfz28_2 := blk_frozen BK161.out 2
                                    go_wp2_with (first | ((with_reducible refine gate_callee (f := 76) rfl ?_); refine goesL_ (some 32) rfl rfl Try.func76 (by kernel_rfl) rfl #[.int .i64 ((rd_T50 l0 x14_1).f0), .int .i64 0, .int .i64 11] rfl (by (try simp only [List.map_toArray, List.map_cons, List.map_nil]); first | done | rfl | (simp only [List.length_drop, List.length_take]; rfl)) ?_; (with_reducible refine (impl_in.calls ((rd_T50 l0 x14_1).f0) 0 11 true _ A22.out).mono ?_); rintro e w' ⟨rfl, ⟨nd, rfl⟩⟩; refine ⟨_, rfl, ?_⟩) | (go_at_call 76; (with_reducible refine (impl_in.calls ((rd_T50 l0 x14_1).f1) x5_6 x6_11 true _ A24.out).mono ?_); rintro e w' ⟨rfl, ⟨nd, rfl⟩⟩) | (go_at_call 76; (with_reducible refine (impl_in.calls ((rd_T50 l0 x14_1).f2) x7_15 x8_18 true _ A26.out).mono ?_); rintro e w' ⟨rfl, ⟨nd, rfl⟩⟩))
                                    go_roundg kj18
                                    case measure => have := HK1.out; have := HJ6.out; have := HJ11.out; have := HJ15.out; have := HJ18.out; omega
                                    case rel => exact ⟨(wrap64 (x14_1 + 1)), (by first | rfl | (simp; done) | (simp [*]; done)), H', ⟨by have := HK1.out; have := HJ6.out; have := HJ11.out; have := HJ15.out; have := HJ18.out; omega⟩, ⟨by repeat (first | (with_reducible first | exact HB.out | apply below_alloc | apply pw_below_drewN | apply below_drew1 | refine below_set ?_ GE161.out) | exact HB.out)⟩⟩
                                  · replace c27 := Bool.eq_false_iff.mpr c27
                                    subst c27
                                    have H1 : (some false) = some r := by rw [if_neg (show ¬ (false = true) by decide)] at H; exact H
                                    clear H
                                    have H := H1
                                    clear H1
                                    obtain rfl := Option.some.inj H
                                    have hcz29_0 : wc.cell? ⟨gb161, 0, none⟩ = some (.int .i64 ((rd_T50 l0 x14_1).f0)) := (blk_cell BK161.out 0).trans rfl
                                    have hcz29_1 : wc.cell? ⟨gb161, 1, none⟩ = some (.int .i64 ((rd_T50 l0 x14_1).f1)) := (blk_cell BK161.out 1).trans rfl
                                    have hcz29_2 : wc.cell? ⟨gb161, 2, none⟩ = some (.int .i64 ((rd_T50 l0 x14_1).f2)) := (blk_cell BK161.out 2).trans rfl
                                    have hfz29_0 := blk_frozen BK161.out 0
                                    have hfz29_1 := blk_frozen BK161.out 1
                                    have hfz29_2 := blk_frozen BK161.out 2
                                    go_wp2_with (first | ((with_reducible refine gate_callee (f := 76) rfl ?_); refine goesL_ (some 32) rfl rfl Try.func76 (by kernel_rfl) rfl #[.int .i64 ((rd_T50 l0 x14_1).f0), .int .i64 0, .int .i64 11] rfl (by (try simp only [List.map_toArray, List.map_cons, List.map_nil]); first | done | rfl | (simp only [List.length_drop, List.length_take]; rfl)) ?_; (with_reducible refine (impl_in.calls ((rd_T50 l0 x14_1).f0) 0 11 true _ A22.out).mono ?_); rintro e w' ⟨rfl, ⟨nd, rfl⟩⟩; refine ⟨_, rfl, ?_⟩) | (go_at_call 76; (with_reducible refine (impl_in.calls ((rd_T50 l0 x14_1).f1) x5_6 x6_11 true _ A24.out).mono ?_); rintro e w' ⟨rfl, ⟨nd, rfl⟩⟩) | (go_at_call 76; (with_reducible refine (impl_in.calls ((rd_T50 l0 x14_1).f2) x7_15 x8_18 false _ A26.out).mono ?_); rintro e w' ⟨rfl, ⟨nd, rfl⟩⟩))
                                    go_ret
                                    exact ⟨by first | rfl | (simp [errW_none, errW_some] <;> rfl) | (simp [*, errW_none, errW_some] <;> rfl), by repeat (first | (with_reducible first | exact HB.out | apply below_alloc | apply pw_below_drewN | apply below_drew1 | refine below_set ?_ GE161.out) | exact HB.out)⟩
                                · replace c25 := Bool.eq_false_iff.mpr c25
                                  subst c25
                                  have H1 : (some false) = some r := by rw [if_neg (show ¬ (false = true) by decide)] at H; exact H
                                  clear H
                                  have H := H1
                                  clear H1
                                  obtain rfl := Option.some.inj H
                                  have hcz30_0 : wc.cell? ⟨gb161, 0, none⟩ = some (.int .i64 ((rd_T50 l0 x14_1).f0)) := (blk_cell BK161.out 0).trans rfl
                                  have hcz30_1 : wc.cell? ⟨gb161, 1, none⟩ = some (.int .i64 ((rd_T50 l0 x14_1).f1)) := (blk_cell BK161.out 1).trans rfl
                                  have hcz30_2 : wc.cell? ⟨gb161, 2, none⟩ = some (.int .i64 ((rd_T50 l0 x14_1).f2)) := (blk_cell BK161.out 2).trans rfl
                                  have hfz30_0 := blk_frozen BK161.out 0
                                  have hfz30_1 := blk_frozen BK161.out 1
                                  have hfz30_2 := blk_frozen BK161.out 2
                                  go_wp2_with (first | ((with_reducible refine gate_callee (f := 76) rfl ?_); refine goesL_ (some 32) rfl rfl Try.func76 (by kernel_rfl) rfl #[.int .i64 ((rd_T50 l0 x14_1).f0), .int .i64 0, .int .i64 11] rfl (by (try simp only [List.map_toArray, List.map_cons, List.map_nil]); first | done | rfl | (simp only [List.length_drop, List.length_take]; rfl)) ?_; (with_reducible refine (impl_in.calls ((rd_T50 l0 x14_1).f0) 0 11 true _ A22.out).mono ?_); rintro e w' ⟨rfl, ⟨nd, rfl⟩⟩; refine ⟨_, rfl, ?_⟩) | (go_at_call 76; (with_reducible refine (impl_in.calls ((rd_T50 l0 x14_1).f1) x5_6 x6_11 false _ A24.out).mono ?_); rintro e w' ⟨rfl, ⟨nd, rfl⟩⟩))
                                  go_ret
                                  exact ⟨by first | rfl | (simp [errW_none, errW_some] <;> rfl) | (simp [*, errW_none, errW_some] <;> rfl), by repeat (first | (with_reducible first | exact HB.out | apply below_alloc | apply pw_below_drewN | apply below_drew1 | refine below_set ?_ GE161.out) | exact HB.out)⟩
                              · replace c23 := Bool.eq_false_iff.mpr c23
                                subst c23
                                have H1 : (some false) = some r := by rw [if_neg (show ¬ (false = true) by decide)] at H; exact H
                                clear H
                                have H := H1
                                clear H1
                                obtain rfl := Option.some.inj H
                                have hcz31_0 : wc.cell? ⟨gb161, 0, none⟩ = some (.int .i64 ((rd_T50 l0 x14_1).f0)) := (blk_cell BK161.out 0).trans rfl
                                have hcz31_1 : wc.cell? ⟨gb161, 1, none⟩ = some (.int .i64 ((rd_T50 l0 x14_1).f1)) := (blk_cell BK161.out 1).trans rfl
                                have hcz31_2 : wc.cell? ⟨gb161, 2, none⟩ = some (.int .i64 ((rd_T50 l0 x14_1).f2)) := (blk_cell BK161.out 2).trans rfl
                                have hfz31_0 := blk_frozen BK161.out 0
                                have hfz31_1 := blk_frozen BK161.out 1
                                have hfz31_2 := blk_frozen BK161.out 2
                                go_wp2_with (first | ((with_reducible refine gate_callee (f := 76) rfl ?_); refine goesL_ (some 32) rfl rfl Try.func76 (by kernel_rfl) rfl #[.int .i64 ((rd_T50 l0 x14_1).f0), .int .i64 0, .int .i64 11] rfl (by (try simp only [List.map_toArray, List.map_cons, List.map_nil]); first | done | rfl | (simp only [List.length_drop, List.length_take]; rfl)) ?_; (with_reducible refine (impl_in.calls ((rd_T50 l0 x14_1).f0) 0 11 false _ A22.out).mono ?_); rintro e w' ⟨rfl, ⟨nd, rfl⟩⟩; refine ⟨_, rfl, ?_⟩))
                                go_ret
                                exact ⟨by first | rfl | (simp [errW_none, errW_some] <;> rfl) | (simp [*, errW_none, errW_some] <;> rfl), by repeat (first | (with_reducible first | exact HB.out | apply below_alloc | apply pw_below_drewN | apply below_drew1 | refine below_set ?_ GE161.out) | exact HB.out)⟩
            · rw [if_neg c5] at H
              exact absurd H (by simp)
          · rw [if_neg c4] at H
            exact absurd H (by simp)
        · rw [if_neg c3] at H
          have c3b0 : decide (x14_1 < (l0.length : Int)) = false := decide_eq_false c3
          clear c3
          obtain rfl := Option.some.inj H
          go_wp2
          go_ret
          exact ⟨by first | rfl | (simp [errW_none, errW_some] <;> rfl) | (simp [*, errW_none, errW_some] <;> rfl), by repeat (first | (with_reducible first | exact HB.out | apply below_alloc | apply pw_below_drewN | apply below_drew1) | exact HB.out)⟩

end Go.Proofs.Ytladnbmemohekaa.PFnExactMostLive
