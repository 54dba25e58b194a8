/- Contracts of functions of the given program: what each call answers. Written by a program of this session, out of the text of the functions. -/
import Derived.Test.YtladnbmemohekaaPFnBytesx0
import Derived.Test.YtladnbmemohekaaPFnBytesx3
import Derived.Test.YtladnbmemohekaaPFnBytesx4
import Derived.Test.YtladnbmemohekaaPFnBytesx5
import Derived.Test.YtladnbmemohekaaPFnBytesx6
import Derived.Test.YtladnbmemohekaaPFnBytesx7
namespace Go.Proofs.Ytladnbmemohekaa.PFnBytes
open Go.RowKit Go.Proofs.YtladnbmemohekaaW.PrintWords Go.Proofs.YtladnbmemohekaaW.PrintLast Go.Proofs.YtladnbmemohekaaW.PrintMore Go.Proofs.Ytladnbmemohekaa.Giv
attribute [local go_sem] max2_int min2_int max_two min_two max_three min_three max_four min_four   -- for this text's walks alone
set_option linter.unusedVariables false
set_option linter.unusedSimpArgs false

/-! ### laws_FnBytes: function 13 -/
mutual
def laws_FnBytes.j0 : Nat → List Int → List (S50) → Bool → List Int → Bool → Option (Bool)
  | 0, _, _, _, _, _ => none
  | k + 1, x0, x3, x5, x6, x44 => if x44 = true then (none) else (if x5 = true then ((impl_TakeLog.f k x6).bind fun bt361 => (if bt361.2 = true then ((laws_sameEvents.f k bt361.1 x3).bind fun t365 => (laws_FnBytes.j1 k x0 x3 x6 (!t365))) else (laws_FnBytes.j1 k x0 x3 x6 true))) else (some true))
def laws_FnBytes.j1 : Nat → List Int → List (S50) → List Int → Bool → Option (Bool)
  | 0, _, _, _, _ => none
  | k + 1, x0, x3, x6, x59 => if x59 = true then (none) else ((laws_at.f x0 0).bind fun t366 => ((laws_at.f x0 1).bind fun t367 => (if (wrap64 ((x6.length : Int) + 1)) = 0 then (none) else (if 0 ≤ (Int.tmod (wrap64 (t366 * (wrap64 (1 + t367)))) (wrap64 ((x6.length : Int) + 1))) then (if (Int.tmod (wrap64 (t366 * (wrap64 (1 + t367)))) (wrap64 ((x6.length : Int) + 1))) ≤ (x6.length : Int) then ((impl_TakeMost.f k (x6.take ((Int.tmod (wrap64 (t366 * (wrap64 (1 + t367)))) (wrap64 ((x6.length : Int) + 1))) : Int).toNat)).bind fun bt372 => (if (bt372.1.length : Int) > (x3.length : Int) then (none) else (if bt372.2 > (Int.tmod (wrap64 (t366 * (wrap64 (1 + t367)))) (wrap64 ((x6.length : Int) + 1))) then (none) else (if 0 ≤ (bt372.1.length : Int) then (if (bt372.1.length : Int) ≤ (x3.length : Int) then ((laws_sameEvents.f k bt372.1 (x3.take ((bt372.1.length : Int) : Int).toNat)).bind fun t380 => (if t380 = true then ((impl_PutLog.f k bt372.1).bind fun bt381 => (if bt381.2 = true then (if (bt381.1.length : Int) = bt372.2 then (if (bt372.1.length : Int) = (x3.length : Int) then (some true) else (some (decide ((wrap64 ((Int.tmod (wrap64 (t366 * (wrap64 (1 + t367)))) (wrap64 ((x6.length : Int) + 1))) - bt372.2)) < 11)))) else (some false)) else (some false))) else (none))) else (none)) else (none))))) else (none)) else (none)))))
end
def laws_FnBytes.f (k : Nat) (l0 : List Int) : Option (Bool) := (laws_big.f l0).bind fun t346 => (if t346 = true then (some true) else ((spec_DrawPutLog.f k l0).bind fun t347 => ((spec_PutLog.f k t347).bind fun bt350 => ((impl_PutLog.f k t347).bind fun bt354 => (if (bt354.2 != bt350.2) = true then (laws_FnBytes.j0 k l0 t347 bt350.2 bt354.1 true) else ((laws_sameBytes.f k bt354.1 bt350.1).bind fun t358 => (if t358 = true then ((impl_LogSum.f k t347).bind fun t359 => ((spec_LogSum.f k t347).bind fun t360 => (laws_FnBytes.j0 k l0 t347 bt350.2 bt354.1 (t359 != t360)))) else (laws_FnBytes.j0 k l0 t347 bt350.2 bt354.1 true))))))))
theorem laws_FnBytes.mono_l : ∀ k, (∀ y0 y1 y2 y3 y4, LeO (laws_FnBytes.j0 k y0 y1 y2 y3 y4) (laws_FnBytes.j0 (k + 1) y0 y1 y2 y3 y4)) ∧ (∀ y0 y1 y2 y3, LeO (laws_FnBytes.j1 k y0 y1 y2 y3) (laws_FnBytes.j1 (k + 1) y0 y1 y2 y3))
  | 0 => ⟨fun _ _ _ _ _ r h => by simp [laws_FnBytes.j0] at h, fun _ _ _ _ r h => by simp [laws_FnBytes.j1] at h⟩
  | k + 1 => by
    obtain ⟨ih0, ih1⟩ := laws_FnBytes.mono_l k
    refine ⟨?_, ?_⟩
    · intro y0 y1 y2 y3 y4
      unfold laws_FnBytes.j0
      repeat' first
      | (with_reducible exact ih0 _ _ _ _ _)
      | (with_reducible exact ih1 _ _ _ _)
      | (with_reducible exact impl_LogSum.mono _ _)
      | (with_reducible exact impl_PutLog.mono _ _)
      | (with_reducible exact impl_TakeLog.mono _ _)
      | (with_reducible exact impl_TakeMost.mono _ _)
      | (with_reducible exact laws_sameBytes.mono _ _ _)
      | (with_reducible exact laws_sameEvents.mono _ _ _)
      | (with_reducible exact spec_DrawPutLog.mono _ _)
      | (with_reducible exact spec_LogSum.mono _ _)
      | (with_reducible exact spec_PutLog.mono _ _)
      | (with_reducible exact LeO.refl _)
      | (with_reducible exact LeO.none _)
      | (with_reducible refine LeO.ite ?_ ?_)
      | (with_reducible refine LeO.bind ?_ (fun _ => ?_))
      | exact ih0 _ _ _ _ _
      | exact ih1 _ _ _ _
      | exact impl_LogSum.mono _ _
      | exact impl_PutLog.mono _ _
      | exact impl_TakeLog.mono _ _
      | exact impl_TakeMost.mono _ _
      | exact laws_sameBytes.mono _ _ _
      | exact laws_sameEvents.mono _ _ _
      | exact spec_DrawPutLog.mono _ _
      | exact spec_LogSum.mono _ _
      | exact spec_PutLog.mono _ _
      | exact LeO.none _
      | refine LeO.ite ?_ ?_
      | refine LeO.bind ?_ (fun _ => ?_)
    · intro y0 y1 y2 y3
      unfold laws_FnBytes.j1
      repeat' first
      | (with_reducible exact ih0 _ _ _ _ _)
      | (with_reducible exact ih1 _ _ _ _)
      | (with_reducible exact impl_LogSum.mono _ _)
      | (with_reducible exact impl_PutLog.mono _ _)
      | (with_reducible exact impl_TakeLog.mono _ _)
      | (with_reducible exact impl_TakeMost.mono _ _)
      | (with_reducible exact laws_sameBytes.mono _ _ _)
      | (with_reducible exact laws_sameEvents.mono _ _ _)
      | (with_reducible exact spec_DrawPutLog.mono _ _)
      | (with_reducible exact spec_LogSum.mono _ _)
      | (with_reducible exact spec_PutLog.mono _ _)
      | (with_reducible exact LeO.refl _)
      | (with_reducible exact LeO.none _)
      | (with_reducible refine LeO.ite ?_ ?_)
      | (with_reducible refine LeO.bind ?_ (fun _ => ?_))
      | exact ih0 _ _ _ _ _
      | exact ih1 _ _ _ _
      | exact impl_LogSum.mono _ _
      | exact impl_PutLog.mono _ _
      | exact impl_TakeLog.mono _ _
      | exact impl_TakeMost.mono _ _
      | exact laws_sameBytes.mono _ _ _
      | exact laws_sameEvents.mono _ _ _
      | exact spec_DrawPutLog.mono _ _
      | exact spec_LogSum.mono _ _
      | exact spec_PutLog.mono _ _
      | exact LeO.none _
      | refine LeO.ite ?_ ?_
      | refine LeO.bind ?_ (fun _ => ?_)
theorem laws_FnBytes.mono : ∀ a0 k, LeO (laws_FnBytes.f k a0) (laws_FnBytes.f (k + 1) a0) := by
  intro a0 k
  obtain ⟨ih0, ih1⟩ := laws_FnBytes.mono_l k
  unfold laws_FnBytes.f
  repeat' first
      | (with_reducible exact ih0 _ _ _ _ _)
      | (with_reducible exact ih1 _ _ _ _)
      | (with_reducible exact impl_LogSum.mono _ _)
      | (with_reducible exact impl_PutLog.mono _ _)
      | (with_reducible exact impl_TakeLog.mono _ _)
      | (with_reducible exact impl_TakeMost.mono _ _)
      | (with_reducible exact laws_sameBytes.mono _ _ _)
      | (with_reducible exact laws_sameEvents.mono _ _ _)
      | (with_reducible exact spec_DrawPutLog.mono _ _)
      | (with_reducible exact spec_LogSum.mono _ _)
      | (with_reducible exact spec_PutLog.mono _ _)
      | (with_reducible exact LeO.refl _)
      | (with_reducible exact LeO.none _)
      | (with_reducible refine LeO.ite ?_ ?_)
      | (with_reducible refine LeO.bind ?_ (fun _ => ?_))
      | exact ih0 _ _ _ _ _
      | exact ih1 _ _ _ _
      | exact impl_LogSum.mono _ _
      | exact impl_PutLog.mono _ _
      | exact impl_TakeLog.mono _ _
      | exact impl_TakeMost.mono _ _
      | exact laws_sameBytes.mono _ _ _
      | exact laws_sameEvents.mono _ _ _
      | exact spec_DrawPutLog.mono _ _
      | exact spec_LogSum.mono _ _
      | exact spec_PutLog.mono _ _
      | exact LeO.none _
      | refine LeO.ite ?_ ?_
      | refine LeO.bind ?_ (fun _ => ?_)
set_option maxHeartbeats 8000000 in
set_option maxRecDepth 100000 in
theorem laws_FnBytes.calls (k : Nat) (A0 : Option Addr) (c0 : Nat) (l0 : List Int) (r : Bool) (w : World) (hr0 : Kd.C (Kd.int .u8) w A0 l0.length l0) (hc0 : l0.length ≤ c0) (h : laws_FnBytes.f k l0 = some r) :
    Calls Try.prog 13 #[.slice A0 l0.length c0] w fun e w' => e = .returned (.bool r) ∧ Below w.heap.size w w' := by
  have HR0 := Aside0.mk hr0
  have HC0 := Aside0.mk hc0
  clear hr0 hc0
  have HB := Aside0.mk (Below.refl w.heap.size w)
  have H : ((laws_big.f l0).bind fun t346 => (if t346 = true then (some true) else ((spec_DrawPutLog.f k l0).bind fun t347 => ((spec_PutLog.f k t347).bind fun bt350 => ((impl_PutLog.f k t347).bind fun bt354 => (if (bt354.2 != bt350.2) = true then (laws_FnBytes.j0 k l0 t347 bt350.2 bt354.1 true) else ((laws_sameBytes.f k bt354.1 bt350.1).bind fun t358 => (if t358 = true then ((impl_LogSum.f k t347).bind fun t359 => ((spec_LogSum.f k t347).bind fun t360 => (laws_FnBytes.j0 k l0 t347 bt350.2 bt354.1 (t359 != t360)))) else (laws_FnBytes.j0 k l0 t347 bt350.2 bt354.1 true))))))))) = some r := h
  clear h
  replace H := Option.bind_eq_some_iff.mp H
  obtain ⟨t346, A20, H⟩ := H
  replace H : (if t346 = true then (some true) else ((spec_DrawPutLog.f k l0).bind fun t347 => ((spec_PutLog.f k t347).bind fun bt350 => ((impl_PutLog.f k t347).bind fun bt354 => (if (bt354.2 != bt350.2) = true then (laws_FnBytes.j0 k l0 t347 bt350.2 bt354.1 true) else ((laws_sameBytes.f k bt354.1 bt350.1).bind fun t358 => (if t358 = true then ((impl_LogSum.f k t347).bind fun t359 => ((spec_LogSum.f k t347).bind fun t360 => (laws_FnBytes.j0 k l0 t347 bt350.2 bt354.1 (t359 != t360)))) else (laws_FnBytes.j0 k l0 t347 bt350.2 bt354.1 true)))))))) = some r := H
  have A2 := Aside0.mk A20
  clear A20
  by_cases c3 : t346 = true
  · subst c3
    have H1 : (some true) = some r := by rw [if_pos rfl] at H; exact H
    clear H
    have H := H1
    clear H1
    obtain rfl := Option.some.inj H
    go_enter Try.func13, Try.ntmps13
    go_wp2_with (first | ((with_reducible refine gate_callee (f := 47) rfl ?_); refine goesL_ (some 16) rfl rfl Try.func47 (by kernel_rfl) rfl #[.slice A0 l0.length c0] rfl (by (try simp only [List.map_toArray, List.map_cons, List.map_nil]); first | done | rfl | (simp only [List.length_drop, List.length_take]; rfl)) ?_; (with_reducible refine (laws_big.calls _ _ l0 true _ ?side1 ?side2 A2.out).mono ?_); (case side1 => repeat (first | exact HR0.out | (with_reducible refine Kd.C_alloc ?_ _) | (with_reducible refine Kd.C_drewN ?_ _) | (with_reducible refine Kd.C_drew ?_))); (case side2 => exact HC0.out); rintro e w' ⟨rfl, ⟨nd, rfl⟩⟩; refine ⟨_, rfl, ?_⟩))
    go_ret
    exact ⟨by first | rfl | (simp [errW_none, errW_some] <;> rfl) | (simp [*, errW_none, errW_some] <;> rfl), by repeat (first | (with_reducible first | exact HB.out | apply below_alloc | apply pw_below_drewN | apply below_drew1) | exact HB.out)⟩
  · replace c3 := Bool.eq_false_iff.mpr c3
    subst c3
    have H1 : ((spec_DrawPutLog.f k l0).bind fun t347 => ((spec_PutLog.f k t347).bind fun bt350 => ((impl_PutLog.f k t347).bind fun bt354 => (if (bt354.2 != bt350.2) = true then (laws_FnBytes.j0 k l0 t347 bt350.2 bt354.1 true) else ((laws_sameBytes.f k bt354.1 bt350.1).bind fun t358 => (if t358 = true then ((impl_LogSum.f k t347).bind fun t359 => ((spec_LogSum.f k t347).bind fun t360 => (laws_FnBytes.j0 k l0 t347 bt350.2 bt354.1 (t359 != t360)))) else (laws_FnBytes.j0 k l0 t347 bt350.2 bt354.1 true))))))) = some r := by rw [if_neg (show ¬ (false = true) by decide)] at H; exact H
    clear H
    have H := H1
    clear H1
    replace H := Option.bind_eq_some_iff.mp H
    obtain ⟨t347, A40, H⟩ := H
    replace H : ((spec_PutLog.f k t347).bind fun bt350 => ((impl_PutLog.f k t347).bind fun bt354 => (if (bt354.2 != bt350.2) = true then (laws_FnBytes.j0 k l0 t347 bt350.2 bt354.1 true) else ((laws_sameBytes.f k bt354.1 bt350.1).bind fun t358 => (if t358 = true then ((impl_LogSum.f k t347).bind fun t359 => ((spec_LogSum.f k t347).bind fun t360 => (laws_FnBytes.j0 k l0 t347 bt350.2 bt354.1 (t359 != t360)))) else (laws_FnBytes.j0 k l0 t347 bt350.2 bt354.1 true)))))) = some r := H
    have A4 := Aside0.mk A40
    clear A40
    replace H := Option.bind_eq_some_iff.mp H
    obtain ⟨⟨t350, t351⟩, A50, H⟩ := H
    replace H : ((impl_PutLog.f k t347).bind fun bt354 => (if (bt354.2 != t351) = true then (laws_FnBytes.j0 k l0 t347 t351 bt354.1 true) else ((laws_sameBytes.f k bt354.1 t350).bind fun t358 => (if t358 = true then ((impl_LogSum.f k t347).bind fun t359 => ((spec_LogSum.f k t347).bind fun t360 => (laws_FnBytes.j0 k l0 t347 t351 bt354.1 (t359 != t360)))) else (laws_FnBytes.j0 k l0 t347 t351 bt354.1 true))))) = some r := H
    have A5 := Aside0.mk A50
    clear A50
    replace H := Option.bind_eq_some_iff.mp H
    obtain ⟨⟨t354, t355⟩, A60, H⟩ := H
    replace H : (if (t355 != t351) = true then (laws_FnBytes.j0 k l0 t347 t351 t354 true) else ((laws_sameBytes.f k t354 t350).bind fun t358 => (if t358 = true then ((impl_LogSum.f k t347).bind fun t359 => ((spec_LogSum.f k t347).bind fun t360 => (laws_FnBytes.j0 k l0 t347 t351 t354 (t359 != t360)))) else (laws_FnBytes.j0 k l0 t347 t351 t354 true)))) = some r := H
    have A6 := Aside0.mk A60
    clear A60
    have HC7 := Aside0.mk H
    clear H
    go_enter Try.func13, Try.ntmps13
    go_upto_region 6 with (first | ((with_reducible refine gate_callee (f := 47) rfl ?_); refine goesL_ (some 16) rfl rfl Try.func47 (by kernel_rfl) rfl #[.slice A0 l0.length c0] rfl (by (try simp only [List.map_toArray, List.map_cons, List.map_nil]); first | done | rfl | (simp only [List.length_drop, List.length_take]; rfl)) ?_; (with_reducible refine (laws_big.calls _ _ l0 false _ ?side1 ?side2 A2.out).mono ?_); (case side1 => repeat (first | exact HR0.out | (with_reducible refine Kd.C_alloc ?_ _) | (with_reducible refine Kd.C_drewN ?_ _) | (with_reducible refine Kd.C_drew ?_))); (case side2 => exact HC0.out); rintro e w' ⟨rfl, ⟨nd, rfl⟩⟩; refine ⟨_, rfl, ?_⟩) | ((with_reducible refine gate_callee (f := 48) rfl ?_); refine goesL_ (some 18) rfl rfl Try.func48 (by kernel_rfl) rfl #[.slice A0 l0.length c0] rfl (by (try simp only [List.map_toArray, List.map_cons, List.map_nil]); first | done | rfl | (simp only [List.length_drop, List.length_take]; rfl)) ?_; (with_reducible refine (spec_DrawPutLog.calls k _ _ l0 t347 _ ?side1 ?side2 A4.out).mono ?_); (case side1 => repeat (first | exact HR0.out | (with_reducible refine Kd.C_alloc ?_ _) | (with_reducible refine Kd.C_drewN ?_ _) | (with_reducible refine Kd.C_drew ?_))); (case side2 => exact HC0.out); rintro e w8 ⟨v348, rfl, ho0, hb⟩; refine ⟨_, rfl, ?_⟩; have n0_ := Aside0.mk (Kd.R_lower ho0 (below_size (by repeat (first | (with_reducible first | exact HB.out | apply below_alloc | apply pw_below_drewN | apply below_drew1) | exact HB.out)))); have n1_ := Aside0.mk (below_step (by repeat (first | (with_reducible first | exact HB.out | apply below_alloc | apply pw_below_drewN | apply below_drew1) | exact HB.out)) hb); clear HB; have HO349 := n0_; have HB := n1_; clear n0_ n1_; (try clear hb); (try clear hb2); (try clear hk); (try clear hi); (try clear ho0); obtain ⟨Ao9, co9, eo9⟩ := Kd.R_slice HO349.out; subst eo9) | ((with_reducible refine gate_callee (f := 24) rfl ?_); refine goesL_ (some 21) rfl rfl Try.func24 (by kernel_rfl) rfl #[.slice Ao9 t347.length co9] rfl (by (try simp only [List.map_toArray, List.map_cons, List.map_nil]); first | done | rfl | (simp only [List.length_drop, List.length_take]; rfl)) ?_; (with_reducible refine (spec_PutLog.calls k _ _ t347 t350 t351 _ ?side1 ?side2 A5.out).mono ?_); (case side1 => repeat (first | (with_reducible refine Kd.C_alloc ?_ _) | (with_reducible refine Kd.C_drewN ?_ _) | (with_reducible refine Kd.C_drew ?_) | exact (Kd.R_reads' HO349.out).2.2)); (case side2 => exact (Kd.R_reads' HO349.out).2.1); rintro e w10 ⟨v352, rfl, ho0, hb⟩; refine ⟨_, rfl, ?_⟩; have n0_ := Aside0.mk (Kd.R_below (by (with_reducible repeat (first | apply Kd.R_alloc | apply Kd.R_drewN | apply Kd.R_drew)); exact HO349.out) hb); have n1_ := Aside0.mk (Kd.R_lower ho0 (below_size (by repeat (first | (with_reducible first | exact HB.out | apply below_alloc | apply pw_below_drewN | apply below_drew1) | exact HB.out)))); have n2_ := Aside0.mk (below_step (by repeat (first | (with_reducible first | exact HB.out | apply below_alloc | apply pw_below_drewN | apply below_drew1) | exact HB.out)) hb); clear HO349; clear HB; have HO349 := n0_; have HO353 := n1_; have HB := n2_; clear n0_ n1_ n2_; (try clear hb); (try clear hb2); (try clear hk); (try clear hi); (try clear ho0)) | ((with_reducible refine gate_callee (f := 25) rfl ?_); refine goesL_ (some 26) rfl rfl Try.func25 (by kernel_rfl) rfl #[.slice Ao9 t347.length co9] rfl (by (try simp only [List.map_toArray, List.map_cons, List.map_nil]); first | done | rfl | (simp only [List.length_drop, List.length_take]; rfl)) ?_; (with_reducible refine (impl_PutLog.calls k _ _ t347 t354 t355 _ ?side1 ?side2 A6.out).mono ?_); (case side1 => repeat (first | (with_reducible refine Kd.C_alloc ?_ _) | (with_reducible refine Kd.C_drewN ?_ _) | (with_reducible refine Kd.C_drew ?_) | exact (Kd.R_reads' HO349.out).2.2)); (case side2 => exact (Kd.R_reads' HO349.out).2.1); rintro e w11 ⟨v356, rfl, ho0, hb⟩; refine ⟨_, rfl, ?_⟩; have n0_ := Aside0.mk (Kd.R_below (by (with_reducible repeat (first | apply Kd.R_alloc | apply Kd.R_drewN | apply Kd.R_drew)); exact HO349.out) hb); have n1_ := Aside0.mk (Kd.R_elder' (by (with_reducible repeat (first | apply Kd.R_alloc | apply Kd.R_drewN | apply Kd.R_drew)); exact HO353.out) (Kd.R_base ho0) hb); have n2_ := Aside0.mk (Kd.R_lower (Kd.R_new' ho0 (Kd.R_lt (by (with_reducible repeat (first | apply Kd.R_alloc | apply Kd.R_drewN | apply Kd.R_drew)); exact HO353.out))) (below_size (by repeat (first | (with_reducible first | exact HB.out | apply below_alloc | apply pw_below_drewN | apply below_drew1) | exact HB.out)))); have n3_ := Aside0.mk (below_step (by repeat (first | (with_reducible first | exact HB.out | apply below_alloc | apply pw_below_drewN | apply below_drew1) | exact HB.out)) hb); clear HO349; clear HO353; clear HB; have HO349 := n0_; have HO353 := n1_; have HO357 := n2_; have HB := n3_; clear n0_ n1_ n2_ n3_; (try clear hb); (try clear hb2); (try clear hk); (try clear hi); (try clear ho0)))
    (try simp only [Act.put, List.setIfInBounds_toArray, List.set_cons_zero, List.set_cons_succ])
    go_cut [44] (fun v44 wc => ∃ (kq : Nat) (x44_6 : Bool), v44 = .bool x44_6 ∧ Aside0 (laws_FnBytes.j0 kq l0 t347 t351 t354 x44_6 = some r) ∧ Aside0 (kq ≤ k) ∧ Aside0 (Kd.R k50 50 wc w.heap.size (fun _ => True) (.slice Ao9 t347.length co9) t347) ∧ Aside0 (Kd.R (Kd.int .u8) 5 wc w.heap.size (fun _ => True) v356 t354) ∧ Aside0 (Below w.heap.size w wc))
    case first =>
      have H := HC7.out
      clear HC7
      by_cases c12 : (t355 != t351) = true
      · rw [if_pos c12] at H
        have c12b0 : (t355 != t351) = true := c12
        (try (have c12b1 : decide (t355 = t351) = false := by simpa using c12))
        (try (have c12b2 : (t355 == t351) = false := by simpa using c12))
        (try (have c12b3 : ¬ (t355 = t351) := by simpa using c12))
        clear c12
        (first | rw [c12b0] | (simp only [i64_w, i32_w]; rw [c12b0]) | skip)
        have H' := Aside0.mk H
        clear H
        go_wp2
        go_meet
        case rel => exact ⟨_, (true), (by first | rfl | (simp; done) | (simp [*]; done)), H', ⟨by first | omega | exact Nat.le_refl _⟩, ⟨by (with_reducible repeat (first | apply Kd.R_alloc | apply Kd.R_drewN | apply Kd.R_drew)); exact HO349.out⟩, ⟨by (with_reducible repeat (first | apply Kd.R_alloc | apply Kd.R_drewN | apply Kd.R_drew)); exact Kd.R_mono HO357.out (fun _ hk => trivial)⟩, ⟨by repeat (first | (with_reducible first | exact HB.out | apply below_alloc | apply pw_below_drewN | apply below_drew1) | exact HB.out)⟩⟩
      · rw [if_neg c12] at H
        have c12b0 : (t355 != t351) = false := by simpa using c12
        (try (have c12b1 : decide (t355 = t351) = true := by simpa using c12))
        (try (have c12b2 : (t355 == t351) = true := by simpa using c12))
        clear c12
        (first | rw [c12b0] | (simp only [i64_w, i32_w]; rw [c12b0]) | skip)
        replace H := Option.bind_eq_some_iff.mp H
        obtain ⟨t358, A130, H⟩ := H
        replace H : (if t358 = true then ((impl_LogSum.f k t347).bind fun t359 => ((spec_LogSum.f k t347).bind fun t360 => (laws_FnBytes.j0 k l0 t347 t351 t354 (t359 != t360)))) else (laws_FnBytes.j0 k l0 t347 t351 t354 true)) = some r := H
        have A13 := Aside0.mk A130
        clear A130
        by_cases c14 : t358 = true
        · subst c14
          have H1 : ((impl_LogSum.f k t347).bind fun t359 => ((spec_LogSum.f k t347).bind fun t360 => (laws_FnBytes.j0 k l0 t347 t351 t354 (t359 != t360)))) = some r := by rw [if_pos rfl] at H; exact H
          clear H
          have H := H1
          clear H1
          replace H := Option.bind_eq_some_iff.mp H
          obtain ⟨t359, A150, H⟩ := H
          replace H : ((spec_LogSum.f k t347).bind fun t360 => (laws_FnBytes.j0 k l0 t347 t351 t354 (t359 != t360))) = some r := H
          have A15 := Aside0.mk A150
          clear A150
          replace H := Option.bind_eq_some_iff.mp H
          obtain ⟨t360, A160, H⟩ := H
          replace H : (laws_FnBytes.j0 k l0 t347 t351 t354 (t359 != t360)) = some r := H
          have A16 := Aside0.mk A160
          clear A160
          have H' := Aside0.mk H
          clear H
          obtain ⟨Ao17, co17, eo17⟩ := Kd.R_slice HO357.out
          subst eo17
          obtain ⟨Ao18, co18, eo18⟩ := Kd.R_slice HO353.out
          subst eo18
          go_wp2_with (first | (go_at_call 49; (with_reducible refine (laws_sameBytes.calls k _ _ t354 _ _ t350 true _ ?side1 ?side2 ?side3 ?side4 A13.out).mono ?_); (case side1 => repeat (first | (with_reducible refine Kd.C_alloc ?_ _) | (with_reducible refine Kd.C_drewN ?_ _) | (with_reducible refine Kd.C_drew ?_) | exact (Kd.R_reads' HO357.out).2.2)); (case side2 => exact (Kd.R_reads' HO357.out).2.1); (case side3 => repeat (first | (with_reducible refine Kd.C_alloc ?_ _) | (with_reducible refine Kd.C_drewN ?_ _) | (with_reducible refine Kd.C_drew ?_) | exact (Kd.R_reads' HO353.out).2.2)); (case side4 => exact (Kd.R_reads' HO353.out).2.1); rintro e w' ⟨rfl, ⟨nd, rfl⟩⟩) | (go_at_call 23; (with_reducible refine (impl_LogSum.calls k _ _ t347 t359 _ ?side1 ?side2 A15.out).mono ?_); (case side1 => repeat (first | (with_reducible refine Kd.C_alloc ?_ _) | (with_reducible refine Kd.C_drewN ?_ _) | (with_reducible refine Kd.C_drew ?_) | exact (Kd.R_reads' HO349.out).2.2)); (case side2 => exact (Kd.R_reads' HO349.out).2.1); rintro e w19 ⟨rfl, hb⟩; have n0_ := Aside0.mk (Kd.R_below (by (with_reducible repeat (first | apply Kd.R_alloc | apply Kd.R_drewN | apply Kd.R_drew)); exact HO349.out) hb); have n1_ := Aside0.mk (Kd.R_below (by (with_reducible repeat (first | apply Kd.R_alloc | apply Kd.R_drewN | apply Kd.R_drew)); exact HO353.out) hb); have n2_ := Aside0.mk (Kd.R_below (by (with_reducible repeat (first | apply Kd.R_alloc | apply Kd.R_drewN | apply Kd.R_drew)); exact HO357.out) hb); have n3_ := Aside0.mk (below_step (by repeat (first | (with_reducible first | exact HB.out | apply below_alloc | apply pw_below_drewN | apply below_drew1) | exact HB.out)) hb); clear HO349; clear HO353; clear HO357; clear HB; have HO349 := n0_; have HO353 := n1_; have HO357 := n2_; have HB := n3_; clear n0_ n1_ n2_ n3_; (try clear hb); (try clear hb2); (try clear hk); (try clear hi)) | (go_at_call 22; (with_reducible refine (spec_LogSum.calls k _ _ t347 t360 _ ?side1 ?side2 A16.out).mono ?_); (case side1 => repeat (first | (with_reducible refine Kd.C_alloc ?_ _) | (with_reducible refine Kd.C_drewN ?_ _) | (with_reducible refine Kd.C_drew ?_) | exact (Kd.R_reads' HO349.out).2.2)); (case side2 => exact (Kd.R_reads' HO349.out).2.1); rintro e w20 ⟨rfl, hb⟩; have n0_ := Aside0.mk (Kd.R_below (by (with_reducible repeat (first | apply Kd.R_alloc | apply Kd.R_drewN | apply Kd.R_drew)); exact HO349.out) hb); have n1_ := Aside0.mk (Kd.R_below (by (with_reducible repeat (first | apply Kd.R_alloc | apply Kd.R_drewN | apply Kd.R_drew)); exact HO353.out) hb); have n2_ := Aside0.mk (Kd.R_below (by (with_reducible repeat (first | apply Kd.R_alloc | apply Kd.R_drewN | apply Kd.R_drew)); exact HO357.out) hb); have n3_ := Aside0.mk (below_step (by repeat (first | (with_reducible first | exact HB.out | apply below_alloc | apply pw_below_drewN | apply below_drew1) | exact HB.out)) hb); clear HO349; clear HO353; clear HO357; clear HB; have HO349 := n0_; have HO353 := n1_; have HO357 := n2_; have HB := n3_; clear n0_ n1_ n2_ n3_; (try clear hb); (try clear hb2); (try clear hk); (try clear hi)))
          go_meet
          case rel => exact ⟨_, ((t359 != t360)), (by first | rfl | (simp; done) | (simp [*]; done)), H', ⟨by first | omega | exact Nat.le_refl _⟩, ⟨by (with_reducible repeat (first | apply Kd.R_alloc | apply Kd.R_drewN | apply Kd.R_drew)); exact HO349.out⟩, ⟨by (with_reducible repeat (first | apply Kd.R_alloc | apply Kd.R_drewN | apply Kd.R_drew)); exact Kd.R_mono HO357.out (fun _ hk => trivial)⟩, ⟨by repeat (first | (with_reducible first | exact HB.out | apply below_alloc | apply pw_below_drewN | apply below_drew1) | exact HB.out)⟩⟩
        · replace c14 := Bool.eq_false_iff.mpr c14
          subst c14
          have H1 : (laws_FnBytes.j0 k l0 t347 t351 t354 true) = some r := by rw [if_neg (show ¬ (false = true) by decide)] at H; exact H
          clear H
          have H := H1
          clear H1
          have H' := Aside0.mk H
          clear H
          obtain ⟨Ao21, co21, eo21⟩ := Kd.R_slice HO357.out
          subst eo21
          obtain ⟨Ao22, co22, eo22⟩ := Kd.R_slice HO353.out
          subst eo22
          go_wp2_with (first | (go_at_call 49; (with_reducible refine (laws_sameBytes.calls k _ _ t354 _ _ t350 false _ ?side1 ?side2 ?side3 ?side4 A13.out).mono ?_); (case side1 => repeat (first | (with_reducible refine Kd.C_alloc ?_ _) | (with_reducible refine Kd.C_drewN ?_ _) | (with_reducible refine Kd.C_drew ?_) | exact (Kd.R_reads' HO357.out).2.2)); (case side2 => exact (Kd.R_reads' HO357.out).2.1); (case side3 => repeat (first | (with_reducible refine Kd.C_alloc ?_ _) | (with_reducible refine Kd.C_drewN ?_ _) | (with_reducible refine Kd.C_drew ?_) | exact (Kd.R_reads' HO353.out).2.2)); (case side4 => exact (Kd.R_reads' HO353.out).2.1); rintro e w' ⟨rfl, ⟨nd, rfl⟩⟩))
          go_meet
          case rel => exact ⟨_, (true), (by first | rfl | (simp; done) | (simp [*]; done)), H', ⟨by first | omega | exact Nat.le_refl _⟩, ⟨by (with_reducible repeat (first | apply Kd.R_alloc | apply Kd.R_drewN | apply Kd.R_drew)); exact HO349.out⟩, ⟨by (with_reducible repeat (first | apply Kd.R_alloc | apply Kd.R_drewN | apply Kd.R_drew)); exact Kd.R_mono HO357.out (fun _ hk => trivial)⟩, ⟨by repeat (first | (with_reducible first | exact HB.out | apply below_alloc | apply pw_below_drewN | apply below_drew1) | exact HB.out)⟩⟩
    case rest =>
      clear HC7
      try clear c1
      try clear c2
      try clear p2
      try clear c3
      try clear c4
      try clear c12
      try clear c12b0
      try clear c12b1
      try clear c12b2
      try clear c13
      try clear c14
      obtain ⟨kq, x44_6, rfl, HA, HJ6, HO_3, HO_6, HB⟩ := hcut
      cases kq with
      | zero => exact absurd HA.out (by simp [laws_FnBytes.j0])
      | succ kj6 =>
        have H := HA.out
        clear HA
        simp only [laws_FnBytes.j0] at H
        by_cases c23 : x44_6 = true
        · subst c23
          have H1 : (none) = some r := by rw [if_pos rfl] at H; exact H
          clear H
          have H := H1
          clear H1
          exact absurd H (by simp)
        · replace c23 := Bool.eq_false_iff.mpr c23
          subst c23
          have H1 : (if t351 = true then ((impl_TakeLog.f kj6 t354).bind fun bt361 => (if bt361.2 = true then ((laws_sameEvents.f kj6 bt361.1 t347).bind fun t365 => (laws_FnBytes.j1 kj6 l0 t347 t354 (!t365))) else (laws_FnBytes.j1 kj6 l0 t347 t354 true))) else (some true)) = some r := by rw [if_neg (show ¬ (false = true) by decide)] at H; exact H
          clear H
          have H := H1
          clear H1
          by_cases c24 : t351 = true
          · subst c24
            have H1 : ((impl_TakeLog.f kj6 t354).bind fun bt361 => (if bt361.2 = true then ((laws_sameEvents.f kj6 bt361.1 t347).bind fun t365 => (laws_FnBytes.j1 kj6 l0 t347 t354 (!t365))) else (laws_FnBytes.j1 kj6 l0 t347 t354 true))) = some r := by rw [if_pos rfl] at H; exact H
            clear H
            have H := H1
            clear H1
            replace H := Option.bind_eq_some_iff.mp H
            obtain ⟨⟨t361, t362⟩, A250, H⟩ := H
            replace H : (if t362 = true then ((laws_sameEvents.f kj6 t361 t347).bind fun t365 => (laws_FnBytes.j1 kj6 l0 t347 t354 (!t365))) else (laws_FnBytes.j1 kj6 l0 t347 t354 true)) = some r := H
            have A25 := Aside0.mk A250
            clear A250
            have HC26 := Aside0.mk H
            clear H
            obtain ⟨Ao27, co27, eo27⟩ := Kd.R_slice HO_6.out
            subst eo27
            go_upto_region 11 with (first | ((with_reducible refine gate_callee (f := 44) rfl ?_); refine goesL_ (some 49) rfl rfl Try.func44 (by kernel_rfl) rfl #[.slice Ao27 t354.length co27] rfl (by (try simp only [List.map_toArray, List.map_cons, List.map_nil]); first | done | rfl | (simp only [List.length_drop, List.length_take]; rfl)) ?_; (with_reducible refine (impl_TakeLog.calls kj6 _ _ t354 t361 t362 _ ?side1 ?side2 A25.out).mono ?_); (case side1 => repeat (first | (with_reducible refine Kd.C_alloc ?_ _) | (with_reducible refine Kd.C_drewN ?_ _) | (with_reducible refine Kd.C_drew ?_) | exact (Kd.R_reads' HO_6.out).2.2)); (case side2 => exact (Kd.R_reads' HO_6.out).2.1); rintro e w28 ⟨v363, rfl, ho0, hb⟩; refine ⟨_, rfl, ?_⟩; have n0_ := Aside0.mk (Kd.R_elder' (by (with_reducible repeat (first | apply Kd.R_alloc | apply Kd.R_drewN | apply Kd.R_drew)); exact HO_3.out) (Kd.R_base ho0) hb); have n1_ := Aside0.mk (Kd.R_below (by (with_reducible repeat (first | apply Kd.R_alloc | apply Kd.R_drewN | apply Kd.R_drew)); exact HO_6.out) hb); have n2_ := Aside0.mk (Kd.R_lower (Kd.R_new' ho0 (Kd.R_lt (by (with_reducible repeat (first | apply Kd.R_alloc | apply Kd.R_drewN | apply Kd.R_drew)); exact HO_3.out))) (below_size (by repeat (first | (with_reducible first | exact HB.out | apply below_alloc | apply pw_below_drewN | apply below_drew1) | exact HB.out)))); have n3_ := Aside0.mk (below_step (by repeat (first | (with_reducible first | exact HB.out | apply below_alloc | apply pw_below_drewN | apply below_drew1) | exact HB.out)) hb); clear HO_3; clear HO_6; clear HB; have HO_3 := n0_; have HO_6 := n1_; have HO364 := n2_; have HB := n3_; clear n0_ n1_ n2_ n3_; (try clear hb); (try clear hb2); (try clear hk); (try clear hi); (try clear ho0)))
            (try simp only [Act.put, List.setIfInBounds_toArray, List.set_cons_zero, List.set_cons_succ])
            go_cut [59] (fun v59 wc => ∃ (kq : Nat) (x59_25 : Bool), v59 = .bool x59_25 ∧ Aside0 (laws_FnBytes.j1 kq l0 t347 t354 x59_25 = some r) ∧ Aside0 (kq ≤ kj6) ∧ Aside0 (Kd.R k50 50 wc w.heap.size (fun _ => True) (.slice Ao9 t347.length co9) t347) ∧ Aside0 (Kd.R (Kd.int .u8) 5 wc w.heap.size (fun _ => True) (.slice Ao27 t354.length co27) t354) ∧ Aside0 (Below w.heap.size w wc))
            case first =>
              have H := HC26.out
              clear HC26
              by_cases c29 : t362 = true
              · subst c29
                have H1 : ((laws_sameEvents.f kj6 t361 t347).bind fun t365 => (laws_FnBytes.j1 kj6 l0 t347 t354 (!t365))) = some r := by rw [if_pos rfl] at H; exact H
                clear H
                have H := H1
                clear H1
                replace H := Option.bind_eq_some_iff.mp H
                obtain ⟨t365, A300, H⟩ := H
                replace H : (laws_FnBytes.j1 kj6 l0 t347 t354 (!t365)) = some r := H
                have A30 := Aside0.mk A300
                clear A300
                have H' := Aside0.mk H
                clear H
                obtain ⟨Ao31, co31, eo31⟩ := Kd.R_slice HO364.out
                subst eo31
                go_wp2_with (first | (go_at_call 50; (with_reducible refine (laws_sameEvents.calls kj6 _ _ t361 _ _ t347 t365 _ ?side1 ?side2 ?side3 ?side4 A30.out).mono ?_); (case side1 => repeat (first | (with_reducible refine Kd.C_alloc ?_ _) | (with_reducible refine Kd.C_drewN ?_ _) | (with_reducible refine Kd.C_drew ?_) | exact (Kd.R_reads' HO364.out).2.2)); (case side2 => exact (Kd.R_reads' HO364.out).2.1); (case side3 => repeat (first | (with_reducible refine Kd.C_alloc ?_ _) | (with_reducible refine Kd.C_drewN ?_ _) | (with_reducible refine Kd.C_drew ?_) | exact (Kd.R_reads' HO_3.out).2.2)); (case side4 => exact (Kd.R_reads' HO_3.out).2.1); rintro e w' ⟨rfl, ⟨nd, rfl⟩⟩))
                go_meet
                case rel => exact ⟨_, (!t365), (by first | rfl | (simp; done) | (simp [*]; done)), H', ⟨by have := HJ6.out; first | omega | exact Nat.le_refl _⟩, ⟨by (with_reducible repeat (first | apply Kd.R_alloc | apply Kd.R_drewN | apply Kd.R_drew)); exact Kd.R_mono HO_3.out (fun _ hk => trivial)⟩, ⟨by (with_reducible repeat (first | apply Kd.R_alloc | apply Kd.R_drewN | apply Kd.R_drew)); exact HO_6.out⟩, ⟨by repeat (first | (with_reducible first | exact HB.out | apply below_alloc | apply pw_below_drewN | apply below_drew1) | exact HB.out)⟩⟩
              · replace c29 := Bool.eq_false_iff.mpr c29
                subst c29
                have H1 : (laws_FnBytes.j1 kj6 l0 t347 t354 true) = some r := by rw [if_neg (show ¬ (false = true) by decide)] at H; exact H
                clear H
                have H := H1
                clear H1
                have H' := Aside0.mk H
                clear H
                go_wp2
                go_meet
                case rel => exact ⟨_, (true), (by first | rfl | (simp; done) | (simp [*]; done)), H', ⟨by have := HJ6.out; first | omega | exact Nat.le_refl _⟩, ⟨by (with_reducible repeat (first | apply Kd.R_alloc | apply Kd.R_drewN | apply Kd.R_drew)); exact Kd.R_mono HO_3.out (fun _ hk => trivial)⟩, ⟨by (with_reducible repeat (first | apply Kd.R_alloc | apply Kd.R_drewN | apply Kd.R_drew)); exact HO_6.out⟩, ⟨by repeat (first | (with_reducible first | exact HB.out | apply below_alloc | apply pw_below_drewN | apply below_drew1) | exact HB.out)⟩⟩
            case rest =>
              clear HC26
              try clear c1
              try clear c2
              try clear p2
              try clear c3
              try clear c4
              try clear c12
              try clear c12b0
              try clear c12b1
              try clear c12b2
              try clear c13
              try clear c14
              try clear c23
              try clear c24
              try clear c25
              try clear c29
              try clear p2
              obtain ⟨kq, x59_25, rfl, HA, HJ25, HO_3, HO_6, HB⟩ := hcut
              cases kq with
              | zero => exact absurd HA.out (by simp [laws_FnBytes.j1])
              | succ kj25 =>
                have H := HA.out
                clear HA
                simp only [laws_FnBytes.j1] at H
                by_cases c32 : x59_25 = true
                · subst c32
                  have H1 : (none) = some r := by rw [if_pos rfl] at H; exact H
                  clear H
                  have H := H1
                  clear H1
                  exact absurd H (by simp)
                · replace c32 := Bool.eq_false_iff.mpr c32
                  subst c32
                  have H1 : ((laws_at.f l0 0).bind fun t366 => ((laws_at.f l0 1).bind fun t367 => (if (wrap64 ((t354.length : Int) + 1)) = 0 then (none) else (if 0 ≤ (Int.tmod (wrap64 (t366 * (wrap64 (1 + t367)))) (wrap64 ((t354.length : Int) + 1))) then (if (Int.tmod (wrap64 (t366 * (wrap64 (1 + t367)))) (wrap64 ((t354.length : Int) + 1))) ≤ (t354.length : Int) then ((impl_TakeMost.f kj25 (t354.take ((Int.tmod (wrap64 (t366 * (wrap64 (1 + t367)))) (wrap64 ((t354.length : Int) + 1))) : Int).toNat)).bind fun bt372 => (if (bt372.1.length : Int) > (t347.length : Int) then (none) else (if bt372.2 > (Int.tmod (wrap64 (t366 * (wrap64 (1 + t367)))) (wrap64 ((t354.length : Int) + 1))) then (none) else (if 0 ≤ (bt372.1.length : Int) then (if (bt372.1.length : Int) ≤ (t347.length : Int) then ((laws_sameEvents.f kj25 bt372.1 (t347.take ((bt372.1.length : Int) : Int).toNat)).bind fun t380 => (if t380 = true then ((impl_PutLog.f kj25 bt372.1).bind fun bt381 => (if bt381.2 = true then (if (bt381.1.length : Int) = bt372.2 then (if (bt372.1.length : Int) = (t347.length : Int) then (some true) else (some (decide ((wrap64 ((Int.tmod (wrap64 (t366 * (wrap64 (1 + t367)))) (wrap64 ((t354.length : Int) + 1))) - bt372.2)) < 11)))) else (some false)) else (some false))) else (none))) else (none)) else (none))))) else (none)) else (none))))) = some r := by rw [if_neg (show ¬ (false = true) by decide)] at H; exact H
                  clear H
                  have H := H1
                  clear H1
                  replace H := Option.bind_eq_some_iff.mp H
                  obtain ⟨t366, A330, H⟩ := H
                  replace H : ((laws_at.f l0 1).bind fun t367 => (if (wrap64 ((t354.length : Int) + 1)) = 0 then (none) else (if 0 ≤ (Int.tmod (wrap64 (t366 * (wrap64 (1 + t367)))) (wrap64 ((t354.length : Int) + 1))) then (if (Int.tmod (wrap64 (t366 * (wrap64 (1 + t367)))) (wrap64 ((t354.length : Int) + 1))) ≤ (t354.length : Int) then ((impl_TakeMost.f kj25 (t354.take ((Int.tmod (wrap64 (t366 * (wrap64 (1 + t367)))) (wrap64 ((t354.length : Int) + 1))) : Int).toNat)).bind fun bt372 => (if (bt372.1.length : Int) > (t347.length : Int) then (none) else (if bt372.2 > (Int.tmod (wrap64 (t366 * (wrap64 (1 + t367)))) (wrap64 ((t354.length : Int) + 1))) then (none) else (if 0 ≤ (bt372.1.length : Int) then (if (bt372.1.length : Int) ≤ (t347.length : Int) then ((laws_sameEvents.f kj25 bt372.1 (t347.take ((bt372.1.length : Int) : Int).toNat)).bind fun t380 => (if t380 = true then ((impl_PutLog.f kj25 bt372.1).bind fun bt381 => (if bt381.2 = true then (if (bt381.1.length : Int) = bt372.2 then (if (bt372.1.length : Int) = (t347.length : Int) then (some true) else (some (decide ((wrap64 ((Int.tmod (wrap64 (t366 * (wrap64 (1 + t367)))) (wrap64 ((t354.length : Int) + 1))) - bt372.2)) < 11)))) else (some false)) else (some false))) else (none))) else (none)) else (none))))) else (none)) else (none)))) = some r := H
                  have A33 := Aside0.mk A330
                  clear A330
                  replace H := Option.bind_eq_some_iff.mp H
                  obtain ⟨t367, A340, H⟩ := H
                  replace H : (if (wrap64 ((t354.length : Int) + 1)) = 0 then (none) else (if 0 ≤ (Int.tmod (wrap64 (t366 * (wrap64 (1 + t367)))) (wrap64 ((t354.length : Int) + 1))) then (if (Int.tmod (wrap64 (t366 * (wrap64 (1 + t367)))) (wrap64 ((t354.length : Int) + 1))) ≤ (t354.length : Int) then ((impl_TakeMost.f kj25 (t354.take ((Int.tmod (wrap64 (t366 * (wrap64 (1 + t367)))) (wrap64 ((t354.length : Int) + 1))) : Int).toNat)).bind fun bt372 => (if (bt372.1.length : Int) > (t347.length : Int) then (none) else (if bt372.2 > (Int.tmod (wrap64 (t366 * (wrap64 (1 + t367)))) (wrap64 ((t354.length : Int) + 1))) then (none) else (if 0 ≤ (bt372.1.length : Int) then (if (bt372.1.length : Int) ≤ (t347.length : Int) then ((laws_sameEvents.f kj25 bt372.1 (t347.take ((bt372.1.length : Int) : Int).toNat)).bind fun t380 => (if t380 = true then ((impl_PutLog.f kj25 bt372.1).bind fun bt381 => (if bt381.2 = true then (if (bt381.1.length : Int) = bt372.2 then (if (bt372.1.length : Int) = (t347.length : Int) then (some true) else (some (decide ((wrap64 ((Int.tmod (wrap64 (t366 * (wrap64 (1 + t367)))) (wrap64 ((t354.length : Int) + 1))) - bt372.2)) < 11)))) else (some false)) else (some false))) else (none))) else (none)) else (none))))) else (none)) else (none))) = some r := H
                  have A34 := Aside0.mk A340
                  clear A340
                  by_cases c35 : (wrap64 ((t354.length : Int) + 1)) = 0
                  · rw [if_pos c35] at H
                    exact absurd H (by simp)
                  · rw [if_neg c35] at H
                    have c35b0 : ((wrap64 ((t354.length : Int) + 1)) == 0) = false := beq_eq_false_iff_ne.mpr c35
                    have c35b1 : ((wrap64 ((t354.length : Int) + 1)) != 0) = true := bne_iff_ne.mpr c35
                    obtain ⟨ji36, hji36⟩ : ∃ j_ : Int, (Int.tmod (wrap64 (t366 * (wrap64 (1 + t367)))) (wrap64 ((t354.length : Int) + 1))) = j_ := ⟨_, rfl⟩
                    replace H : (if 0 ≤ (ji36) then (if (ji36) ≤ (t354.length : Int) then ((impl_TakeMost.f kj25 (t354.take ((ji36) : Int).toNat)).bind fun bt372 => (if (bt372.1.length : Int) > (t347.length : Int) then (none) else (if bt372.2 > (ji36) then (none) else (if 0 ≤ (bt372.1.length : Int) then (if (bt372.1.length : Int) ≤ (t347.length : Int) then ((laws_sameEvents.f kj25 bt372.1 (t347.take ((bt372.1.length : Int) : Int).toNat)).bind fun t380 => (if t380 = true then ((impl_PutLog.f kj25 bt372.1).bind fun bt381 => (if bt381.2 = true then (if (bt381.1.length : Int) = bt372.2 then (if (bt372.1.length : Int) = (t347.length : Int) then (some true) else (some (decide ((wrap64 ((ji36) - bt372.2)) < 11)))) else (some false)) else (some false))) else (none))) else (none)) else (none))))) else (none)) else (none)) = some r := by first | (rw [hji36] at H; exact H) | (simp only [hji36] at H ⊢; exact H)
                    (try rw [hji36] at A33)
                    (try rw [hji36] at A34)
                    by_cases c37 : 0 ≤ (ji36)
                    · rw [if_pos c37] at H
                      have c37b0 := eq_true c37
                      have c37b1 : decide (0 ≤ (ji36)) = true := decide_eq_true c37
                      clear c37
                      by_cases c38 : (ji36) ≤ (t354.length : Int)
                      · rw [if_pos c38] at H
                        have c38b0 := eq_true c38
                        have c38b1 : decide ((ji36) ≤ (t354.length : Int)) = true := decide_eq_true c38
                        clear c38
                        obtain ⟨y368, hy368⟩ : ∃ y_ : List Int, y_ = (t354.take ((ji36) : Int).toNat) := ⟨_, rfl⟩
                        replace H : ((impl_TakeMost.f kj25 y368).bind fun bt372 => (if (bt372.1.length : Int) > (t347.length : Int) then (none) else (if bt372.2 > (ji36) then (none) else (if 0 ≤ (bt372.1.length : Int) then (if (bt372.1.length : Int) ≤ (t347.length : Int) then ((laws_sameEvents.f kj25 bt372.1 (t347.take ((bt372.1.length : Int) : Int).toNat)).bind fun t380 => (if t380 = true then ((impl_PutLog.f kj25 bt372.1).bind fun bt381 => (if bt381.2 = true then (if (bt381.1.length : Int) = bt372.2 then (if (bt372.1.length : Int) = (t347.length : Int) then (some true) else (some (decide ((wrap64 ((ji36) - bt372.2)) < 11)))) else (some false)) else (some false))) else (none))) else (none)) else (none))))) = some r := by first | (rw [hy368]; with_reducible exact H) | (have H2_ := (Option.bind_some _ _).symm.trans H; rw [hy368]; with_reducible exact H2_) | (have H2_ := (Option.bind_some _ _).symm.trans H; with_reducible exact H2_) | with_reducible exact H | (rw [hy368]; exact H) | exact H
                        have Ny368 := Aside0.mk hy368
                        clear hy368
                        replace H := Option.bind_eq_some_iff.mp H
                        obtain ⟨⟨t372, t373⟩, A390, H⟩ := H
                        replace H : (if (t372.length : Int) > (t347.length : Int) then (none) else (if t373 > (ji36) then (none) else (if 0 ≤ (t372.length : Int) then (if (t372.length : Int) ≤ (t347.length : Int) then ((laws_sameEvents.f kj25 t372 (t347.take ((t372.length : Int) : Int).toNat)).bind fun t380 => (if t380 = true then ((impl_PutLog.f kj25 t372).bind fun bt381 => (if bt381.2 = true then (if (bt381.1.length : Int) = t373 then (if (t372.length : Int) = (t347.length : Int) then (some true) else (some (decide ((wrap64 ((ji36) - t373)) < 11)))) else (some false)) else (some false))) else (none))) else (none)) else (none)))) = some r := H
                        have A39 := Aside0.mk A390
                        clear A390
                        by_cases c40 : (t372.length : Int) > (t347.length : Int)
                        · rw [if_pos c40] at H
                          exact absurd H (by simp)
                        · rw [if_neg c40] at H
                          have c40b0 : decide ((t347.length : Int) < (t372.length : Int)) = false := decide_eq_false c40
                          have c40b1 : decide (t347.length < t372.length) = false := decide_eq_false (fun h => c40 (Int.ofNat_lt.mpr h))
                          clear c40
                          by_cases c41 : t373 > (ji36)
                          · rw [if_pos c41] at H
                            exact absurd H (by simp)
                          · rw [if_neg c41] at H
                            have c41b0 : decide ((ji36) < t373) = false := decide_eq_false c41
                            clear c41
                            by_cases c42 : 0 ≤ (t372.length : Int)
                            · rw [if_pos c42] at H
                              have c42b0 := eq_true c42
                              have c42b1 : decide (0 ≤ (t372.length : Int)) = true := decide_eq_true c42
                              clear c42
                              by_cases c43 : (t372.length : Int) ≤ (t347.length : Int)
                              · rw [if_pos c43] at H
                                have c43b0 := eq_true c43
                                have c43b1 : decide ((t372.length : Int) ≤ (t347.length : Int)) = true := decide_eq_true c43
                                clear c43
                                obtain ⟨y376, hy376⟩ : ∃ y_ : List (S50), y_ = (t347.take ((t372.length : Int) : Int).toNat) := ⟨_, rfl⟩
                                replace H : ((laws_sameEvents.f kj25 t372 y376).bind fun t380 => (if t380 = true then ((impl_PutLog.f kj25 t372).bind fun bt381 => (if bt381.2 = true then (if (bt381.1.length : Int) = t373 then (if (t372.length : Int) = (t347.length : Int) then (some true) else (some (decide ((wrap64 ((ji36) - t373)) < 11)))) else (some false)) else (some false))) else (none))) = some r := by first | (rw [hy376]; with_reducible exact H) | (have H2_ := (Option.bind_some _ _).symm.trans H; rw [hy376]; with_reducible exact H2_) | (have H2_ := (Option.bind_some _ _).symm.trans H; with_reducible exact H2_) | with_reducible exact H | (rw [hy376]; exact H) | exact H
                                have Ny376 := Aside0.mk hy376
                                clear hy376
                                replace H := Option.bind_eq_some_iff.mp H
                                obtain ⟨t380, A440, H⟩ := H
                                replace H : (if t380 = true then ((impl_PutLog.f kj25 t372).bind fun bt381 => (if bt381.2 = true then (if (bt381.1.length : Int) = t373 then (if (t372.length : Int) = (t347.length : Int) then (some true) else (some (decide ((wrap64 ((ji36) - t373)) < 11)))) else (some false)) else (some false))) else (none)) = some r := H
                                have A44 := Aside0.mk A440
                                clear A440
                                by_cases c45 : t380 = true
                                · subst c45
                                  have H1 : ((impl_PutLog.f kj25 t372).bind fun bt381 => (if bt381.2 = true then (if (bt381.1.length : Int) = t373 then (if (t372.length : Int) = (t347.length : Int) then (some true) else (some (decide ((wrap64 ((ji36) - t373)) < 11)))) else (some false)) else (some false))) = some r := by rw [if_pos rfl] at H; exact H
                                  clear H
                                  have H := H1
                                  clear H1
                                  replace H := Option.bind_eq_some_iff.mp H
                                  obtain ⟨⟨t381, t382⟩, A460, H⟩ := H
                                  replace H : (if t382 = true then (if (t381.length : Int) = t373 then (if (t372.length : Int) = (t347.length : Int) then (some true) else (some (decide ((wrap64 ((ji36) - t373)) < 11)))) else (some false)) else (some false)) = some r := H
                                  have A46 := Aside0.mk A460
                                  clear A460
                                  by_cases c47 : t382 = true
                                  · subst c47
                                    have H1 : (if (t381.length : Int) = t373 then (if (t372.length : Int) = (t347.length : Int) then (some true) else (some (decide ((wrap64 ((ji36) - t373)) < 11)))) else (some false)) = some r := by rw [if_pos rfl] at H; exact H
                                    clear H
                                    have H := H1
                                    clear H1
                                    by_cases c48 : (t381.length : Int) = t373
                                    · rw [if_pos c48] at H
                                      have c48b0 : ((t381.length : Int) == t373) = true := beq_iff_eq.mpr c48
                                      have c48b1 : ((t381.length : Int) != t373) = false := bne_eq_false_iff_eq.mpr c48
                                      clear c48
                                      by_cases c49 : (t372.length : Int) = (t347.length : Int)
                                      · rw [if_pos c49] at H
                                        have c49b0 : ((t372.length : Int) == (t347.length : Int)) = true := beq_iff_eq.mpr c49
                                        have c49b1 : ((t372.length : Int) != (t347.length : Int)) = false := bne_eq_false_iff_eq.mpr c49
                                        have c49b2 : (t372.length == t347.length) = true := by first | simpa using c49 | (simp at c49 ⊢; omega)
                                        clear c49
                                        obtain rfl := Option.some.inj H
                                        go_wp2_with (first | ((with_reducible refine gate_callee (f := 51) rfl ?_); refine goesL_ (some 61) rfl rfl Try.func51 (by kernel_rfl) rfl #[.slice A0 l0.length c0, .int .i64 0] rfl (by (try simp only [List.map_toArray, List.map_cons, List.map_nil]); first | done | rfl | (simp only [List.length_drop, List.length_take]; rfl)) ?_; (with_reducible refine (laws_at.calls _ _ l0 0 t366 _ ?side1 ?side2 A33.out).mono ?_); (case side1 => repeat (first | exact (Kd.C_below HR0.out HB.out) | (with_reducible refine Kd.C_alloc ?_ _) | (with_reducible refine Kd.C_drewN ?_ _) | (with_reducible refine Kd.C_drew ?_))); (case side2 => exact HC0.out); rintro e w' ⟨rfl, ⟨nd, rfl⟩⟩; refine ⟨_, rfl, ?_⟩) | ((with_reducible refine gate_callee (f := 51) rfl ?_); refine goesL_ (some 63) rfl rfl Try.func51 (by kernel_rfl) rfl #[.slice A0 l0.length c0, .int .i64 1] rfl (by (try simp only [List.map_toArray, List.map_cons, List.map_nil]); first | done | rfl | (simp only [List.length_drop, List.length_take]; rfl)) ?_; (with_reducible refine (laws_at.calls _ _ l0 1 t367 _ ?side1 ?side2 A34.out).mono ?_); (case side1 => repeat (first | exact (Kd.C_below HR0.out (by repeat (first | (with_reducible first | exact HB.out | apply below_alloc | apply pw_below_drewN | apply below_drew1) | exact HB.out))) | (with_reducible refine Kd.C_alloc ?_ _) | (with_reducible refine Kd.C_drewN ?_ _) | (with_reducible refine Kd.C_drew ?_))); (case side2 => exact HC0.out); rintro e w' ⟨rfl, ⟨nd, rfl⟩⟩; refine ⟨_, rfl, ?_⟩; have q50 : ((ji36) : Int) ≤ ((t354.length : Int) : Int) := of_decide_eq_true (by first | (with_reducible assumption) | assumption); obtain ⟨i050, hi050, _, hsz50, _⟩ := info_parts info5; have hroom50 : t354.length ≤ co27 := (Kd.R_reads' HO_6.out).2.1; have hC50 : Kd.C (Kd.int .u8) _ Ao27 t354.length t354 := (Kd.R_reads' HO_6.out).2.2; have hcut50 := cut_to (P := Try.prog) 30 5 .i64 Try.underlying30 hi050 Ao27 t354.length co27 (ji36) (of_decide_eq_true (by first | (with_reducible assumption) | assumption)) q50 hroom50; have hr50 := Kd.C_take (m := ((ji36) : Int).toNat) hC50 (by omega); have hy50 : y368.length = ((ji36) : Int).toNat := (by rw [Ny368.out, List.length_take]; omega); rw [← Ny368.out] at hr50; rw [← hy50] at hcut50; have HR371 := Aside0.mk hr50; have HC371 := Aside0.mk (show y368.length ≤ co27 from by omega); clear hr50 hC50 hroom50 hi050 hsz50; have KY50 := Aside0.mk hy50; clear hy50; have KL50 := Aside0.mk (show ((ji36) : Int).toNat ≤ t354.length from by omega); replace q50 := eq_true q50) | ((with_reducible refine gate_callee (f := 32) rfl ?_); refine goesL_ (some 74) rfl rfl Try.func32 (by kernel_rfl) rfl #[.slice Ao27 y368.length co27] rfl (by (try simp only [List.map_toArray, List.map_cons, List.map_nil]); first | done | rfl | (simp only [List.length_drop, List.length_take]; rfl)) ?_; (with_reducible refine (impl_TakeMost.calls kj25 _ _ y368 t372 t373 _ ?side1 ?side2 A39.out).mono ?_); (case side1 => repeat (first | exact (by repeat (first | (with_reducible exact HR371.out) | (with_reducible refine Kd.C_alloc ?_ _) | (with_reducible refine Kd.C_drewN ?_ _) | (with_reducible refine Kd.C_drew ?_) | exact HR371.out)) | (with_reducible refine Kd.C_alloc ?_ _) | (with_reducible refine Kd.C_drewN ?_ _) | (with_reducible refine Kd.C_drew ?_))); (case side2 => exact HC371.out); rintro e w51 ⟨v374, rfl, ho0, hb⟩; refine ⟨_, rfl, ?_⟩; have n0_ := Aside0.mk (Kd.R_elder' (by (with_reducible repeat (first | apply Kd.R_alloc | apply Kd.R_drewN | apply Kd.R_drew)); exact HO_3.out) (Kd.R_base ho0) hb); have n1_ := Aside0.mk (Kd.R_below (by (with_reducible repeat (first | apply Kd.R_alloc | apply Kd.R_drewN | apply Kd.R_drew)); exact HO_6.out) hb); have n2_ := Aside0.mk (Kd.R_lower (Kd.R_new' ho0 (Kd.R_lt (by (with_reducible repeat (first | apply Kd.R_alloc | apply Kd.R_drewN | apply Kd.R_drew)); exact HO_3.out))) (below_size (by repeat (first | (with_reducible first | exact HB.out | apply below_alloc | apply pw_below_drewN | apply below_drew1) | exact HB.out)))); have n3_ := Aside0.mk (Kd.C_below (show Kd.C (Kd.int .u8) _ Ao27 y368.length y368 from by repeat (first | (with_reducible exact HR371.out) | (with_reducible refine Kd.C_alloc ?_ _) | (with_reducible refine Kd.C_drewN ?_ _) | (with_reducible refine Kd.C_drew ?_) | exact HR371.out)) hb); have n4_ := Aside0.mk (below_step (by repeat (first | (with_reducible first | exact HB.out | apply below_alloc | apply pw_below_drewN | apply below_drew1) | exact HB.out)) hb); clear HO_3; clear HO_6; clear HR371; clear HB; have HO_3 := n0_; have HO_6 := n1_; have HO375 := n2_; have HR371 := n3_; have HB := n4_; clear n0_ n1_ n2_ n3_ n4_; (try clear hb); (try clear hb2); (try clear hk); (try clear hi); (try clear ho0); obtain ⟨Ao52, co52, eo52⟩ := Kd.R_slice HO375.out; subst eo52; have q53 : ((t372.length : Int) : Int) ≤ ((t347.length : Int) : Int) := of_decide_eq_true (by first | (with_reducible assumption) | assumption); obtain ⟨i053, hi053, _, hsz53, _⟩ := info_parts info50; have hroom53 : t347.length ≤ co9 := (Kd.R_reads' HO_3.out).2.1; have hC53 : Kd.C k50 _ Ao9 t347.length t347 := (Kd.R_reads' HO_3.out).2.2; have hcut53 := cut_to (P := Try.prog) 25 50 .i64 Try.underlying25 hi053 Ao9 t347.length co9 (t372.length : Int) (of_decide_eq_true (by first | (with_reducible assumption) | assumption)) q53 hroom53; have hr53 := Kd.C_take (m := ((t372.length : Int) : Int).toNat) hC53 (by omega); have hy53 : y376.length = ((t372.length : Int) : Int).toNat := (by rw [Ny376.out, List.length_take]; omega); rw [← Ny376.out] at hr53; rw [← hy53] at hcut53; have HR379 := Aside0.mk hr53; have HC379 := Aside0.mk (show y376.length ≤ co9 from by omega); clear hr53 hC53 hroom53 hi053 hsz53; have KY53 := Aside0.mk hy53; clear hy53; have KL53 := Aside0.mk (show ((t372.length : Int) : Int).toNat ≤ t347.length from by omega); replace q53 := eq_true q53) | (go_at_call 50; (with_reducible refine (laws_sameEvents.calls kj25 _ _ t372 _ _ y376 true _ ?side1 ?side2 ?side3 ?side4 A44.out).mono ?_); (case side1 => repeat (first | (with_reducible refine Kd.C_alloc ?_ _) | (with_reducible refine Kd.C_drewN ?_ _) | (with_reducible refine Kd.C_drew ?_) | exact (Kd.R_reads' HO375.out).2.2)); (case side2 => exact (Kd.R_reads' HO375.out).2.1); (case side3 => repeat (first | exact (by repeat (first | (with_reducible exact HR379.out) | (with_reducible refine Kd.C_alloc ?_ _) | (with_reducible refine Kd.C_drewN ?_ _) | (with_reducible refine Kd.C_drew ?_) | exact HR379.out)) | (with_reducible refine Kd.C_alloc ?_ _) | (with_reducible refine Kd.C_drewN ?_ _) | (with_reducible refine Kd.C_drew ?_))); (case side4 => exact HC379.out); rintro e w' ⟨rfl, ⟨nd, rfl⟩⟩) | ((with_reducible refine gate_callee (f := 25) rfl ?_); refine goesL_ (some 98) rfl rfl Try.func25 (by kernel_rfl) rfl #[.slice Ao52 t372.length co52] rfl (by (try simp only [List.map_toArray, List.map_cons, List.map_nil]); first | done | rfl | (simp only [List.length_drop, List.length_take]; rfl)) ?_; (with_reducible refine (impl_PutLog.calls kj25 _ _ t372 t381 true _ ?side1 ?side2 A46.out).mono ?_); (case side1 => repeat (first | (with_reducible refine Kd.C_alloc ?_ _) | (with_reducible refine Kd.C_drewN ?_ _) | (with_reducible refine Kd.C_drew ?_) | exact (Kd.R_reads' HO375.out).2.2)); (case side2 => exact (Kd.R_reads' HO375.out).2.1); rintro e w54 ⟨v383, rfl, ho0, hb⟩; refine ⟨_, rfl, ?_⟩; have n0_ := Aside0.mk (Kd.R_below (by (with_reducible repeat (first | apply Kd.R_alloc | apply Kd.R_drewN | apply Kd.R_drew)); exact HO_3.out) hb); have n1_ := Aside0.mk (Kd.R_elder' (by (with_reducible repeat (first | apply Kd.R_alloc | apply Kd.R_drewN | apply Kd.R_drew)); exact HO_6.out) (Kd.R_base ho0) hb); have n2_ := Aside0.mk (Kd.R_below (by (with_reducible repeat (first | apply Kd.R_alloc | apply Kd.R_drewN | apply Kd.R_drew)); exact HO375.out) hb); have n3_ := Aside0.mk (Kd.R_lower (Kd.R_new' ho0 (Kd.R_lt (by (with_reducible repeat (first | apply Kd.R_alloc | apply Kd.R_drewN | apply Kd.R_drew)); exact HO_6.out))) (below_size (by repeat (first | (with_reducible first | exact HB.out | apply below_alloc | apply pw_below_drewN | apply below_drew1) | exact HB.out)))); have n4_ := Aside0.mk (Kd.C_below (show Kd.C (Kd.int .u8) _ Ao27 y368.length y368 from by repeat (first | (with_reducible exact HR371.out) | (with_reducible refine Kd.C_alloc ?_ _) | (with_reducible refine Kd.C_drewN ?_ _) | (with_reducible refine Kd.C_drew ?_) | exact HR371.out)) hb); have n5_ := Aside0.mk (Kd.C_below (show Kd.C k50 _ Ao9 y376.length y376 from by repeat (first | (with_reducible exact HR379.out) | (with_reducible refine Kd.C_alloc ?_ _) | (with_reducible refine Kd.C_drewN ?_ _) | (with_reducible refine Kd.C_drew ?_) | exact HR379.out)) hb); have n6_ := Aside0.mk (below_step (by repeat (first | (with_reducible first | exact HB.out | apply below_alloc | apply pw_below_drewN | apply below_drew1) | exact HB.out)) hb); clear HO_3; clear HO_6; clear HO375; clear HR371; clear HR379; clear HB; have HO_3 := n0_; have HO_6 := n1_; have HO375 := n2_; have HO384 := n3_; have HR371 := n4_; have HR379 := n5_; have HB := n6_; clear n0_ n1_ n2_ n3_ n4_ n5_ n6_; (try clear hb); (try clear hb2); (try clear hk); (try clear hi); (try clear ho0); obtain ⟨Ao55, co55, eo55⟩ := Kd.R_slice HO384.out; subst eo55))
                                        go_ret
                                        exact ⟨by first | rfl | (simp [errW_none, errW_some] <;> rfl) | (simp only [← hji36]; first | rfl | (simp [errW_none, errW_some] <;> rfl)) | (simp [*, errW_none, errW_some] <;> rfl), by repeat (first | (with_reducible first | exact HB.out | apply below_alloc | apply pw_below_drewN | apply below_drew1) | exact HB.out)⟩
                                      · rw [if_neg c49] at H
                                        have c49b0 : ((t372.length : Int) == (t347.length : Int)) = false := beq_eq_false_iff_ne.mpr c49
                                        have c49b1 : ((t372.length : Int) != (t347.length : Int)) = true := bne_iff_ne.mpr c49
                                        have c49b2 : (t372.length == t347.length) = false := by first | simpa using c49 | (simp at c49 ⊢; omega)
                                        obtain rfl := Option.some.inj H
                                        go_wp2_with (first | ((with_reducible refine gate_callee (f := 51) rfl ?_); refine goesL_ (some 61) rfl rfl Try.func51 (by kernel_rfl) rfl #[.slice A0 l0.length c0, .int .i64 0] rfl (by (try simp only [List.map_toArray, List.map_cons, List.map_nil]); first | done | rfl | (simp only [List.length_drop, List.length_take]; rfl)) ?_; (with_reducible refine (laws_at.calls _ _ l0 0 t366 _ ?side1 ?side2 A33.out).mono ?_); (case side1 => repeat (first | exact (Kd.C_below HR0.out HB.out) | (with_reducible refine Kd.C_alloc ?_ _) | (with_reducible refine Kd.C_drewN ?_ _) | (with_reducible refine Kd.C_drew ?_))); (case side2 => exact HC0.out); rintro e w' ⟨rfl, ⟨nd, rfl⟩⟩; refine ⟨_, rfl, ?_⟩) | ((with_reducible refine gate_callee (f := 51) rfl ?_); refine goesL_ (some 63) rfl rfl Try.func51 (by kernel_rfl) rfl #[.slice A0 l0.length c0, .int .i64 1] rfl (by (try simp only [List.map_toArray, List.map_cons, List.map_nil]); first | done | rfl | (simp only [List.length_drop, List.length_take]; rfl)) ?_; (with_reducible refine (laws_at.calls _ _ l0 1 t367 _ ?side1 ?side2 A34.out).mono ?_); (case side1 => repeat (first | exact (Kd.C_below HR0.out (by repeat (first | (with_reducible first | exact HB.out | apply below_alloc | apply pw_below_drewN | apply below_drew1) | exact HB.out))) | (with_reducible refine Kd.C_alloc ?_ _) | (with_reducible refine Kd.C_drewN ?_ _) | (with_reducible refine Kd.C_drew ?_))); (case side2 => exact HC0.out); rintro e w' ⟨rfl, ⟨nd, rfl⟩⟩; refine ⟨_, rfl, ?_⟩; have q56 : ((ji36) : Int) ≤ ((t354.length : Int) : Int) := of_decide_eq_true (by first | (with_reducible assumption) | assumption); obtain ⟨i056, hi056, _, hsz56, _⟩ := info_parts info5; have hroom56 : t354.length ≤ co27 := (Kd.R_reads' HO_6.out).2.1; have hC56 : Kd.C (Kd.int .u8) _ Ao27 t354.length t354 := (Kd.R_reads' HO_6.out).2.2; have hcut56 := cut_to (P := Try.prog) 30 5 .i64 Try.underlying30 hi056 Ao27 t354.length co27 (ji36) (of_decide_eq_true (by first | (with_reducible assumption) | assumption)) q56 hroom56; have hr56 := Kd.C_take (m := ((ji36) : Int).toNat) hC56 (by omega); have hy56 : y368.length = ((ji36) : Int).toNat := (by rw [Ny368.out, List.length_take]; omega); rw [← Ny368.out] at hr56; rw [← hy56] at hcut56; have HR371 := Aside0.mk hr56; have HC371 := Aside0.mk (show y368.length ≤ co27 from by omega); clear hr56 hC56 hroom56 hi056 hsz56; have KY56 := Aside0.mk hy56; clear hy56; have KL56 := Aside0.mk (show ((ji36) : Int).toNat ≤ t354.length from by omega); replace q56 := eq_true q56) | ((with_reducible refine gate_callee (f := 32) rfl ?_); refine goesL_ (some 74) rfl rfl Try.func32 (by kernel_rfl) rfl #[.slice Ao27 y368.length co27] rfl (by (try simp only [List.map_toArray, List.map_cons, List.map_nil]); first | done | rfl | (simp only [List.length_drop, List.length_take]; rfl)) ?_; (with_reducible refine (impl_TakeMost.calls kj25 _ _ y368 t372 t373 _ ?side1 ?side2 A39.out).mono ?_); (case side1 => repeat (first | exact (by repeat (first | (with_reducible exact HR371.out) | (with_reducible refine Kd.C_alloc ?_ _) | (with_reducible refine Kd.C_drewN ?_ _) | (with_reducible refine Kd.C_drew ?_) | exact HR371.out)) | (with_reducible refine Kd.C_alloc ?_ _) | (with_reducible refine Kd.C_drewN ?_ _) | (with_reducible refine Kd.C_drew ?_))); (case side2 => exact HC371.out); rintro e w57 ⟨v374, rfl, ho0, hb⟩; refine ⟨_, rfl, ?_⟩; have n0_ := Aside0.mk (Kd.R_elder' (by (with_reducible repeat (first | apply Kd.R_alloc | apply Kd.R_drewN | apply Kd.R_drew)); exact HO_3.out) (Kd.R_base ho0) hb); have n1_ := Aside0.mk (Kd.R_below (by (with_reducible repeat (first | apply Kd.R_alloc | apply Kd.R_drewN | apply Kd.R_drew)); exact HO_6.out) hb); have n2_ := Aside0.mk (Kd.R_lower (Kd.R_new' ho0 (Kd.R_lt (by (with_reducible repeat (first | apply Kd.R_alloc | apply Kd.R_drewN | apply Kd.R_drew)); exact HO_3.out))) (below_size (by repeat (first | (with_reducible first | exact HB.out | apply below_alloc | apply pw_below_drewN | apply below_drew1) | exact HB.out)))); have n3_ := Aside0.mk (Kd.C_below (show Kd.C (Kd.int .u8) _ Ao27 y368.length y368 from by repeat (first | (with_reducible exact HR371.out) | (with_reducible refine Kd.C_alloc ?_ _) | (with_reducible refine Kd.C_drewN ?_ _) | (with_reducible refine Kd.C_drew ?_) | exact HR371.out)) hb); have n4_ := Aside0.mk (below_step (by repeat (first | (with_reducible first | exact HB.out | apply below_alloc | apply pw_below_drewN | apply below_drew1) | exact HB.out)) hb); clear HO_3; clear HO_6; clear HR371; clear HB; have HO_3 := n0_; have HO_6 := n1_; have HO375 := n2_; have HR371 := n3_; have HB := n4_; clear n0_ n1_ n2_ n3_ n4_; (try clear hb); (try clear hb2); (try clear hk); (try clear hi); (try clear ho0); obtain ⟨Ao58, co58, eo58⟩ := Kd.R_slice HO375.out; subst eo58; have q59 : ((t372.length : Int) : Int) ≤ ((t347.length : Int) : Int) := of_decide_eq_true (by first | (with_reducible assumption) | assumption); obtain ⟨i059, hi059, _, hsz59, _⟩ := info_parts info50; have hroom59 : t347.length ≤ co9 := (Kd.R_reads' HO_3.out).2.1; have hC59 : Kd.C k50 _ Ao9 t347.length t347 := (Kd.R_reads' HO_3.out).2.2; have hcut59 := cut_to (P := Try.prog) 25 50 .i64 Try.underlying25 hi059 Ao9 t347.length co9 (t372.length : Int) (of_decide_eq_true (by first | (with_reducible assumption) | assumption)) q59 hroom59; have hr59 := Kd.C_take (m := ((t372.length : Int) : Int).toNat) hC59 (by omega); have hy59 : y376.length = ((t372.length : Int) : Int).toNat := (by rw [Ny376.out, List.length_take]; omega); rw [← Ny376.out] at hr59; rw [← hy59] at hcut59; have HR379 := Aside0.mk hr59; have HC379 := Aside0.mk (show y376.length ≤ co9 from by omega); clear hr59 hC59 hroom59 hi059 hsz59; have KY59 := Aside0.mk hy59; clear hy59; have KL59 := Aside0.mk (show ((t372.length : Int) : Int).toNat ≤ t347.length from by omega); replace q59 := eq_true q59) | (go_at_call 50; (with_reducible refine (laws_sameEvents.calls kj25 _ _ t372 _ _ y376 true _ ?side1 ?side2 ?side3 ?side4 A44.out).mono ?_); (case side1 => repeat (first | (with_reducible refine Kd.C_alloc ?_ _) | (with_reducible refine Kd.C_drewN ?_ _) | (with_reducible refine Kd.C_drew ?_) | exact (Kd.R_reads' HO375.out).2.2)); (case side2 => exact (Kd.R_reads' HO375.out).2.1); (case side3 => repeat (first | exact (by repeat (first | (with_reducible exact HR379.out) | (with_reducible refine Kd.C_alloc ?_ _) | (with_reducible refine Kd.C_drewN ?_ _) | (with_reducible refine Kd.C_drew ?_) | exact HR379.out)) | (with_reducible refine Kd.C_alloc ?_ _) | (with_reducible refine Kd.C_drewN ?_ _) | (with_reducible refine Kd.C_drew ?_))); (case side4 => exact HC379.out); rintro e w' ⟨rfl, ⟨nd, rfl⟩⟩) | ((with_reducible refine gate_callee (f := 25) rfl ?_); refine goesL_ (some 98) rfl rfl Try.func25 (by kernel_rfl) rfl #[.slice Ao58 t372.length co58] rfl (by (try simp only [List.map_toArray, List.map_cons, List.map_nil]); first | done | rfl | (simp only [List.length_drop, List.length_take]; rfl)) ?_; (with_reducible refine (impl_PutLog.calls kj25 _ _ t372 t381 true _ ?side1 ?side2 A46.out).mono ?_); (case side1 => repeat (first | (with_reducible refine Kd.C_alloc ?_ _) | (with_reducible refine Kd.C_drewN ?_ _) | (with_reducible refine Kd.C_drew ?_) | exact (Kd.R_reads' HO375.out).2.2)); (case side2 => exact (Kd.R_reads' HO375.out).2.1); rintro e w60 ⟨v383, rfl, ho0, hb⟩; refine ⟨_, rfl, ?_⟩; have n0_ := Aside0.mk (Kd.R_below (by (with_reducible repeat (first | apply Kd.R_alloc | apply Kd.R_drewN | apply Kd.R_drew)); exact HO_3.out) hb); have n1_ := Aside0.mk (Kd.R_elder' (by (with_reducible repeat (first | apply Kd.R_alloc | apply Kd.R_drewN | apply Kd.R_drew)); exact HO_6.out) (Kd.R_base ho0) hb); have n2_ := Aside0.mk (Kd.R_below (by (with_reducible repeat (first | apply Kd.R_alloc | apply Kd.R_drewN | apply Kd.R_drew)); exact HO375.out) hb); have n3_ := Aside0.mk (Kd.R_lower (Kd.R_new' ho0 (Kd.R_lt (by (with_reducible repeat (first | apply Kd.R_alloc | apply Kd.R_drewN | apply Kd.R_drew)); exact HO_6.out))) (below_size (by repeat (first | (with_reducible first | exact HB.out | apply below_alloc | apply pw_below_drewN | apply below_drew1) | exact HB.out)))); have n4_ := Aside0.mk (Kd.C_below (show Kd.C (Kd.int .u8) _ Ao27 y368.length y368 from by repeat (first | (with_reducible exact HR371.out) | (with_reducible refine Kd.C_alloc ?_ _) | (with_reducible refine Kd.C_drewN ?_ _) | (with_reducible refine Kd.C_drew ?_) | exact HR371.out)) hb); have n5_ := Aside0.mk (Kd.C_below (show Kd.C k50 _ Ao9 y376.length y376 from by repeat (first | (with_reducible exact HR379.out) | (with_reducible refine Kd.C_alloc ?_ _) | (with_reducible refine Kd.C_drewN ?_ _) | (with_reducible refine Kd.C_drew ?_) | exact HR379.out)) hb); have n6_ := Aside0.mk (below_step (by repeat (first | (with_reducible first | exact HB.out | apply below_alloc | apply pw_below_drewN | apply below_drew1) | exact HB.out)) hb); clear HO_3; clear HO_6; clear HO375; clear HR371; clear HR379; clear HB; have HO_3 := n0_; have HO_6 := n1_; have HO375 := n2_; have HO384 := n3_; have HR371 := n4_; have HR379 := n5_; have HB := n6_; clear n0_ n1_ n2_ n3_ n4_ n5_ n6_; (try clear hb); (try clear hb2); (try clear hk); (try clear hi); (try clear ho0); obtain ⟨Ao61, co61, eo61⟩ := Kd.R_slice HO384.out; subst eo61))
                                        go_ret
                                        exact ⟨by first | rfl | (simp [errW_none, errW_some] <;> rfl) | (simp only [← hji36]; first | rfl | (simp [errW_none, errW_some] <;> rfl)) | (simp [*, errW_none, errW_some] <;> rfl), by repeat (first | (with_reducible first | exact HB.out | apply below_alloc | apply pw_below_drewN | apply below_drew1) | exact HB.out)⟩
                                    · rw [if_neg c48] at H
                                      have c48b0 : ((t381.length : Int) == t373) = false := beq_eq_false_iff_ne.mpr c48
                                      have c48b1 : ((t381.length : Int) != t373) = true := bne_iff_ne.mpr c48
                                      obtain rfl := Option.some.inj H
                                      go_wp2_with (first | ((with_reducible refine gate_callee (f := 51) rfl ?_); refine goesL_ (some 61) rfl rfl Try.func51 (by kernel_rfl) rfl #[.slice A0 l0.length c0, .int .i64 0] rfl (by (try simp only [List.map_toArray, List.map_cons, List.map_nil]); first | done | rfl | (simp only [List.length_drop, List.length_take]; rfl)) ?_; (with_reducible refine (laws_at.calls _ _ l0 0 t366 _ ?side1 ?side2 A33.out).mono ?_); (case side1 => repeat (first | exact (Kd.C_below HR0.out HB.out) | (with_reducible refine Kd.C_alloc ?_ _) | (with_reducible refine Kd.C_drewN ?_ _) | (with_reducible refine Kd.C_drew ?_))); (case side2 => exact HC0.out); rintro e w' ⟨rfl, ⟨nd, rfl⟩⟩; refine ⟨_, rfl, ?_⟩) | ((with_reducible refine gate_callee (f := 51) rfl ?_); refine goesL_ (some 63) rfl rfl Try.func51 (by kernel_rfl) rfl #[.slice A0 l0.length c0, .int .i64 1] rfl (by (try simp only [List.map_toArray, List.map_cons, List.map_nil]); first | done | rfl | (simp only [List.length_drop, List.length_take]; rfl)) ?_; (with_reducible refine (laws_at.calls _ _ l0 1 t367 _ ?side1 ?side2 A34.out).mono ?_); (case side1 => repeat (first | exact (Kd.C_below HR0.out (by repeat (first | (with_reducible first | exact HB.out | apply below_alloc | apply pw_below_drewN | apply below_drew1) | exact HB.out))) | (with_reducible refine Kd.C_alloc ?_ _) | (with_reducible refine Kd.C_drewN ?_ _) | (with_reducible refine Kd.C_drew ?_))); (case side2 => exact HC0.out); rintro e w' ⟨rfl, ⟨nd, rfl⟩⟩; refine ⟨_, rfl, ?_⟩; have q62 : ((ji36) : Int) ≤ ((t354.length : Int) : Int) := of_decide_eq_true (by first | (with_reducible assumption) | assumption); obtain ⟨i062, hi062, _, hsz62, _⟩ := info_parts info5; have hroom62 : t354.length ≤ co27 := (Kd.R_reads' HO_6.out).2.1; have hC62 : Kd.C (Kd.int .u8) _ Ao27 t354.length t354 := (Kd.R_reads' HO_6.out).2.2; have hcut62 := cut_to (P := Try.prog) 30 5 .i64 Try.underlying30 hi062 Ao27 t354.length co27 (ji36) (of_decide_eq_true (by first | (with_reducible assumption) | assumption)) q62 hroom62; have hr62 := Kd.C_take (m := ((ji36) : Int).toNat) hC62 (by omega); have hy62 : y368.length = ((ji36) : Int).toNat := (by rw [Ny368.out, List.length_take]; omega); rw [← Ny368.out] at hr62; rw [← hy62] at hcut62; have HR371 := Aside0.mk hr62; have HC371 := Aside0.mk (show y368.length ≤ co27 from by omega); clear hr62 hC62 hroom62 hi062 hsz62; have KY62 := Aside0.mk hy62; clear hy62; have KL62 := Aside0.mk (show ((ji36) : Int).toNat ≤ t354.length from by omega); replace q62 := eq_true q62) | ((with_reducible refine gate_callee (f := 32) rfl ?_); refine goesL_ (some 74) rfl rfl Try.func32 (by kernel_rfl) rfl #[.slice Ao27 y368.length co27] rfl (by (try simp only [List.map_toArray, List.map_cons, List.map_nil]); first | done | rfl | (simp only [List.length_drop, List.length_take]; rfl)) ?_; (with_reducible refine (impl_TakeMost.calls kj25 _ _ y368 t372 t373 _ ?side1 ?side2 A39.out).mono ?_); (case side1 => repeat (first | exact (by repeat (first | (with_reducible exact HR371.out) | (with_reducible refine Kd.C_alloc ?_ _) | (with_reducible refine Kd.C_drewN ?_ _) | (with_reducible refine Kd.C_drew ?_) | exact HR371.out)) | (with_reducible refine Kd.C_alloc ?_ _) | (with_reducible refine Kd.C_drewN ?_ _) | (with_reducible refine Kd.C_drew ?_))); (case side2 => exact HC371.out); rintro e w63 ⟨v374, rfl, ho0, hb⟩; refine ⟨_, rfl, ?_⟩; have n0_ := Aside0.mk (Kd.R_elder' (by (with_reducible repeat (first | apply Kd.R_alloc | apply Kd.R_drewN | apply Kd.R_drew)); exact HO_3.out) (Kd.R_base ho0) hb); have n1_ := Aside0.mk (Kd.R_below (by (with_reducible repeat (first | apply Kd.R_alloc | apply Kd.R_drewN | apply Kd.R_drew)); exact HO_6.out) hb); have n2_ := Aside0.mk (Kd.R_lower (Kd.R_new' ho0 (Kd.R_lt (by (with_reducible repeat (first | apply Kd.R_alloc | apply Kd.R_drewN | apply Kd.R_drew)); exact HO_3.out))) (below_size (by repeat (first | (with_reducible first | exact HB.out | apply below_alloc | apply pw_below_drewN | apply below_drew1) | exact HB.out)))); have n3_ := Aside0.mk (Kd.C_below (show Kd.C (Kd.int .u8) _ Ao27 y368.length y368 from by repeat (first | (with_reducible exact HR371.out) | (with_reducible refine Kd.C_alloc ?_ _) | (with_reducible refine Kd.C_drewN ?_ _) | (with_reducible refine Kd.C_drew ?_) | exact HR371.out)) hb); have n4_ := Aside0.mk (below_step (by repeat (first | (with_reducible first | exact HB.out | apply below_alloc | apply pw_below_drewN | apply below_drew1) | exact HB.out)) hb); clear HO_3; clear HO_6; clear HR371; clear HB; have HO_3 := n0_; have HO_6 := n1_; have HO375 := n2_; have HR371 := n3_; have HB := n4_; clear n0_ n1_ n2_ n3_ n4_; (try clear hb); (try clear hb2); (try clear hk); (try clear hi); (try clear ho0); obtain ⟨Ao64, co64, eo64⟩ := Kd.R_slice HO375.out; subst eo64; have q65 : ((t372.length : Int) : Int) ≤ ((t347.length : Int) : Int) := of_decide_eq_true (by first | (with_reducible assumption) | assumption); obtain ⟨i065, hi065, _, hsz65, _⟩ := info_parts info50; have hroom65 : t347.length ≤ co9 := (Kd.R_reads' HO_3.out).2.1; have hC65 : Kd.C k50 _ Ao9 t347.length t347 := (Kd.R_reads' HO_3.out).2.2; have hcut65 := cut_to (P := Try.prog) 25 50 .i64 Try.underlying25 hi065 Ao9 t347.length co9 (t372.length : Int) (of_decide_eq_true (by first | (with_reducible assumption) | assumption)) q65 hroom65; have hr65 := Kd.C_take (m := ((t372.length : Int) : Int).toNat) hC65 (by omega); have hy65 : y376.length = ((t372.length : Int) : Int).toNat := (by rw [Ny376.out, List.length_take]; omega); rw [← Ny376.out] at hr65; rw [← hy65] at hcut65; have HR379 := Aside0.mk hr65; have HC379 := Aside0.mk (show y376.length ≤ co9 from by omega); clear hr65 hC65 hroom65 hi065 hsz65; have KY65 := Aside0.mk hy65; clear hy65; have KL65 := Aside0.mk (show ((t372.length : Int) : Int).toNat ≤ t347.length from by omega); replace q65 := eq_true q65) | (go_at_call 50; (with_reducible refine (laws_sameEvents.calls kj25 _ _ t372 _ _ y376 true _ ?side1 ?side2 ?side3 ?side4 A44.out).mono ?_); (case side1 => repeat (first | (with_reducible refine Kd.C_alloc ?_ _) | (with_reducible refine Kd.C_drewN ?_ _) | (with_reducible refine Kd.C_drew ?_) | exact (Kd.R_reads' HO375.out).2.2)); (case side2 => exact (Kd.R_reads' HO375.out).2.1); (case side3 => repeat (first | exact (by repeat (first | (with_reducible exact HR379.out) | (with_reducible refine Kd.C_alloc ?_ _) | (with_reducible refine Kd.C_drewN ?_ _) | (with_reducible refine Kd.C_drew ?_) | exact HR379.out)) | (with_reducible refine Kd.C_alloc ?_ _) | (with_reducible refine Kd.C_drewN ?_ _) | (with_reducible refine Kd.C_drew ?_))); (case side4 => exact HC379.out); rintro e w' ⟨rfl, ⟨nd, rfl⟩⟩) | ((with_reducible refine gate_callee (f := 25) rfl ?_); refine goesL_ (some 98) rfl rfl Try.func25 (by kernel_rfl) rfl #[.slice Ao64 t372.length co64] rfl (by (try simp only [List.map_toArray, List.map_cons, List.map_nil]); first | done | rfl | (simp only [List.length_drop, List.length_take]; rfl)) ?_; (with_reducible refine (impl_PutLog.calls kj25 _ _ t372 t381 true _ ?side1 ?side2 A46.out).mono ?_); (case side1 => repeat (first | (with_reducible refine Kd.C_alloc ?_ _) | (with_reducible refine Kd.C_drewN ?_ _) | (with_reducible refine Kd.C_drew ?_) | exact (Kd.R_reads' HO375.out).2.2)); (case side2 => exact (Kd.R_reads' HO375.out).2.1); rintro e w66 ⟨v383, rfl, ho0, hb⟩; refine ⟨_, rfl, ?_⟩; have n0_ := Aside0.mk (Kd.R_below (by (with_reducible repeat (first | apply Kd.R_alloc | apply Kd.R_drewN | apply Kd.R_drew)); exact HO_3.out) hb); have n1_ := Aside0.mk (Kd.R_elder' (by (with_reducible repeat (first | apply Kd.R_alloc | apply Kd.R_drewN | apply Kd.R_drew)); exact HO_6.out) (Kd.R_base ho0) hb); have n2_ := Aside0.mk (Kd.R_below (by (with_reducible repeat (first | apply Kd.R_alloc | apply Kd.R_drewN | apply Kd.R_drew)); exact HO375.out) hb); have n3_ := Aside0.mk (Kd.R_lower (Kd.R_new' ho0 (Kd.R_lt (by (with_reducible repeat (first | apply Kd.R_alloc | apply Kd.R_drewN | apply Kd.R_drew)); exact HO_6.out))) (below_size (by repeat (first | (with_reducible first | exact HB.out | apply below_alloc | apply pw_below_drewN | apply below_drew1) | exact HB.out)))); have n4_ := Aside0.mk (Kd.C_below (show Kd.C (Kd.int .u8) _ Ao27 y368.length y368 from by repeat (first | (with_reducible exact HR371.out) | (with_reducible refine Kd.C_alloc ?_ _) | (with_reducible refine Kd.C_drewN ?_ _) | (with_reducible refine Kd.C_drew ?_) | exact HR371.out)) hb); have n5_ := Aside0.mk (Kd.C_below (show Kd.C k50 _ Ao9 y376.length y376 from by repeat (first | (with_reducible exact HR379.out) | (with_reducible refine Kd.C_alloc ?_ _) | (with_reducible refine Kd.C_drewN ?_ _) | (with_reducible refine Kd.C_drew ?_) | exact HR379.out)) hb); have n6_ := Aside0.mk (below_step (by repeat (first | (with_reducible first | exact HB.out | apply below_alloc | apply pw_below_drewN | apply below_drew1) | exact HB.out)) hb); clear HO_3; clear HO_6; clear HO375; clear HR371; clear HR379; clear HB; have HO_3 := n0_; have HO_6 := n1_; have HO375 := n2_; have HO384 := n3_; have HR371 := n4_; have HR379 := n5_; have HB := n6_; clear n0_ n1_ n2_ n3_ n4_ n5_ n6_; (try clear hb); (try clear hb2); (try clear hk); (try clear hi); (try clear ho0); obtain ⟨Ao67, co67, eo67⟩ := Kd.R_slice HO384.out; subst eo67))
                                      go_ret
                                      exact ⟨by first | rfl | (simp [errW_none, errW_some] <;> rfl) | (simp only [← hji36]; first | rfl | (simp [errW_none, errW_some] <;> rfl)) | (simp [*, errW_none, errW_some] <;> rfl), by repeat (first | (with_reducible first | exact HB.out | apply below_alloc | apply pw_below_drewN | apply below_drew1) | exact HB.out)⟩
                                  · replace c47 := Bool.eq_false_iff.mpr c47
                                    subst c47
                                    have H1 : (some false) = some r := by rw [if_neg (show ¬ (false = true) by decide)] at H; exact H
                                    clear H
                                    have H := H1
                                    clear H1
                                    obtain rfl := Option.some.inj H
                                    go_wp2_with (first | ((with_reducible refine gate_callee (f := 51) rfl ?_); refine goesL_ (some 61) rfl rfl Try.func51 (by kernel_rfl) rfl #[.slice A0 l0.length c0, .int .i64 0] rfl (by (try simp only [List.map_toArray, List.map_cons, List.map_nil]); first | done | rfl | (simp only [List.length_drop, List.length_take]; rfl)) ?_; (with_reducible refine (laws_at.calls _ _ l0 0 t366 _ ?side1 ?side2 A33.out).mono ?_); (case side1 => repeat (first | exact (Kd.C_below HR0.out HB.out) | (with_reducible refine Kd.C_alloc ?_ _) | (with_reducible refine Kd.C_drewN ?_ _) | (with_reducible refine Kd.C_drew ?_))); (case side2 => exact HC0.out); rintro e w' ⟨rfl, ⟨nd, rfl⟩⟩; refine ⟨_, rfl, ?_⟩) | ((with_reducible refine gate_callee (f := 51) rfl ?_); refine goesL_ (some 63) rfl rfl Try.func51 (by kernel_rfl) rfl #[.slice A0 l0.length c0, .int .i64 1] rfl (by (try simp only [List.map_toArray, List.map_cons, List.map_nil]); first | done | rfl | (simp only [List.length_drop, List.length_take]; rfl)) ?_; (with_reducible refine (laws_at.calls _ _ l0 1 t367 _ ?side1 ?side2 A34.out).mono ?_); (case side1 => repeat (first | exact (Kd.C_below HR0.out (by repeat (first | (with_reducible first | exact HB.out | apply below_alloc | apply pw_below_drewN | apply below_drew1) | exact HB.out))) | (with_reducible refine Kd.C_alloc ?_ _) | (with_reducible refine Kd.C_drewN ?_ _) | (with_reducible refine Kd.C_drew ?_))); (case side2 => exact HC0.out); rintro e w' ⟨rfl, ⟨nd, rfl⟩⟩; refine ⟨_, rfl, ?_⟩; have q68 : ((ji36) : Int) ≤ ((t354.length : Int) : Int) := of_decide_eq_true (by first | (with_reducible assumption) | assumption); obtain ⟨i068, hi068, _, hsz68, _⟩ := info_parts info5; have hroom68 : t354.length ≤ co27 := (Kd.R_reads' HO_6.out).2.1; have hC68 : Kd.C (Kd.int .u8) _ Ao27 t354.length t354 := (Kd.R_reads' HO_6.out).2.2; have hcut68 := cut_to (P := Try.prog) 30 5 .i64 Try.underlying30 hi068 Ao27 t354.length co27 (ji36) (of_decide_eq_true (by first | (with_reducible assumption) | assumption)) q68 hroom68; have hr68 := Kd.C_take (m := ((ji36) : Int).toNat) hC68 (by omega); have hy68 : y368.length = ((ji36) : Int).toNat := (by rw [Ny368.out, List.length_take]; omega); rw [← Ny368.out] at hr68; rw [← hy68] at hcut68; have HR371 := Aside0.mk hr68; have HC371 := Aside0.mk (show y368.length ≤ co27 from by omega); clear hr68 hC68 hroom68 hi068 hsz68; have KY68 := Aside0.mk hy68; clear hy68; have KL68 := Aside0.mk (show ((ji36) : Int).toNat ≤ t354.length from by omega); replace q68 := eq_true q68) | ((with_reducible refine gate_callee (f := 32) rfl ?_); refine goesL_ (some 74) rfl rfl Try.func32 (by kernel_rfl) rfl #[.slice Ao27 y368.length co27] rfl (by (try simp only [List.map_toArray, List.map_cons, List.map_nil]); first | done | rfl | (simp only [List.length_drop, List.length_take]; rfl)) ?_; (with_reducible refine (impl_TakeMost.calls kj25 _ _ y368 t372 t373 _ ?side1 ?side2 A39.out).mono ?_); (case side1 => repeat (first | exact (by repeat (first | (with_reducible exact HR371.out) | (with_reducible refine Kd.C_alloc ?_ _) | (with_reducible refine Kd.C_drewN ?_ _) | (with_reducible refine Kd.C_drew ?_) | exact HR371.out)) | (with_reducible refine Kd.C_alloc ?_ _) | (with_reducible refine Kd.C_drewN ?_ _) | (with_reducible refine Kd.C_drew ?_))); (case side2 => exact HC371.out); rintro e w69 ⟨v374, rfl, ho0, hb⟩; refine ⟨_, rfl, ?_⟩; have n0_ := Aside0.mk (Kd.R_elder' (by (with_reducible repeat (first | apply Kd.R_alloc | apply Kd.R_drewN | apply Kd.R_drew)); exact HO_3.out) (Kd.R_base ho0) hb); have n1_ := Aside0.mk (Kd.R_below (by (with_reducible repeat (first | apply Kd.R_alloc | apply Kd.R_drewN | apply Kd.R_drew)); exact HO_6.out) hb); have n2_ := Aside0.mk (Kd.R_lower (Kd.R_new' ho0 (Kd.R_lt (by (with_reducible repeat (first | apply Kd.R_alloc | apply Kd.R_drewN | apply Kd.R_drew)); exact HO_3.out))) (below_size (by repeat (first | (with_reducible first | exact HB.out | apply below_alloc | apply pw_below_drewN | apply below_drew1) | exact HB.out)))); have n3_ := Aside0.mk (Kd.C_below (show Kd.C (Kd.int .u8) _ Ao27 y368.length y368 from by repeat (first | (with_reducible exact HR371.out) | (with_reducible refine Kd.C_alloc ?_ _) | (with_reducible refine Kd.C_drewN ?_ _) | (with_reducible refine Kd.C_drew ?_) | exact HR371.out)) hb); have n4_ := Aside0.mk (below_step (by repeat (first | (with_reducible first | exact HB.out | apply below_alloc | apply pw_below_drewN | apply below_drew1) | exact HB.out)) hb); clear HO_3; clear HO_6; clear HR371; clear HB; have HO_3 := n0_; have HO_6 := n1_; have HO375 := n2_; have HR371 := n3_; have HB := n4_; clear n0_ n1_ n2_ n3_ n4_; (try clear hb); (try clear hb2); (try clear hk); (try clear hi); (try clear ho0); obtain ⟨Ao70, co70, eo70⟩ := Kd.R_slice HO375.out; subst eo70; have q71 : ((t372.length : Int) : Int) ≤ ((t347.length : Int) : Int) := of_decide_eq_true (by first | (with_reducible assumption) | assumption); obtain ⟨i071, hi071, _, hsz71, _⟩ := info_parts info50; have hroom71 : t347.length ≤ co9 := (Kd.R_reads' HO_3.out).2.1; have hC71 : Kd.C k50 _ Ao9 t347.length t347 := (Kd.R_reads' HO_3.out).2.2; have hcut71 := cut_to (P := Try.prog) 25 50 .i64 Try.underlying25 hi071 Ao9 t347.length co9 (t372.length : Int) (of_decide_eq_true (by first | (with_reducible assumption) | assumption)) q71 hroom71; have hr71 := Kd.C_take (m := ((t372.length : Int) : Int).toNat) hC71 (by omega); have hy71 : y376.length = ((t372.length : Int) : Int).toNat := (by rw [Ny376.out, List.length_take]; omega); rw [← Ny376.out] at hr71; rw [← hy71] at hcut71; have HR379 := Aside0.mk hr71; have HC379 := Aside0.mk (show y376.length ≤ co9 from by omega); clear hr71 hC71 hroom71 hi071 hsz71; have KY71 := Aside0.mk hy71; clear hy71; have KL71 := Aside0.mk (show ((t372.length : Int) : Int).toNat ≤ t347.length from by omega); replace q71 := eq_true q71) | (go_at_call 50; (with_reducible refine (laws_sameEvents.calls kj25 _ _ t372 _ _ y376 true _ ?side1 ?side2 ?side3 ?side4 A44.out).mono ?_); (case side1 => repeat (first | (with_reducible refine Kd.C_alloc ?_ _) | (with_reducible refine Kd.C_drewN ?_ _) | (with_reducible refine Kd.C_drew ?_) | exact (Kd.R_reads' HO375.out).2.2)); (case side2 => exact (Kd.R_reads' HO375.out).2.1); (case side3 => repeat (first | exact (by repeat (first | (with_reducible exact HR379.out) | (with_reducible refine Kd.C_alloc ?_ _) | (with_reducible refine Kd.C_drewN ?_ _) | (with_reducible refine Kd.C_drew ?_) | exact HR379.out)) | (with_reducible refine Kd.C_alloc ?_ _) | (with_reducible refine Kd.C_drewN ?_ _) | (with_reducible refine Kd.C_drew ?_))); (case side4 => exact HC379.out); rintro e w' ⟨rfl, ⟨nd, rfl⟩⟩) | ((with_reducible refine gate_callee (f := 25) rfl ?_); refine goesL_ (some 98) rfl rfl Try.func25 (by kernel_rfl) rfl #[.slice Ao70 t372.length co70] rfl (by (try simp only [List.map_toArray, List.map_cons, List.map_nil]); first | done | rfl | (simp only [List.length_drop, List.length_take]; rfl)) ?_; (with_reducible refine (impl_PutLog.calls kj25 _ _ t372 t381 false _ ?side1 ?side2 A46.out).mono ?_); (case side1 => repeat (first | (with_reducible refine Kd.C_alloc ?_ _) | (with_reducible refine Kd.C_drewN ?_ _) | (with_reducible refine Kd.C_drew ?_) | exact (Kd.R_reads' HO375.out).2.2)); (case side2 => exact (Kd.R_reads' HO375.out).2.1); rintro e w72 ⟨v383, rfl, ho0, hb⟩; refine ⟨_, rfl, ?_⟩; have n0_ := Aside0.mk (Kd.R_below (by (with_reducible repeat (first | apply Kd.R_alloc | apply Kd.R_drewN | apply Kd.R_drew)); exact HO_3.out) hb); have n1_ := Aside0.mk (Kd.R_elder' (by (with_reducible repeat (first | apply Kd.R_alloc | apply Kd.R_drewN | apply Kd.R_drew)); exact HO_6.out) (Kd.R_base ho0) hb); have n2_ := Aside0.mk (Kd.R_below (by (with_reducible repeat (first | apply Kd.R_alloc | apply Kd.R_drewN | apply Kd.R_drew)); exact HO375.out) hb); have n3_ := Aside0.mk (Kd.R_lower (Kd.R_new' ho0 (Kd.R_lt (by (with_reducible repeat (first | apply Kd.R_alloc | apply Kd.R_drewN | apply Kd.R_drew)); exact HO_6.out))) (below_size (by repeat (first | (with_reducible first | exact HB.out | apply below_alloc | apply pw_below_drewN | apply below_drew1) | exact HB.out)))); have n4_ := Aside0.mk (Kd.C_below (show Kd.C (Kd.int .u8) _ Ao27 y368.length y368 from by repeat (first | (with_reducible exact HR371.out) | (with_reducible refine Kd.C_alloc ?_ _) | (with_reducible refine Kd.C_drewN ?_ _) | (with_reducible refine Kd.C_drew ?_) | exact HR371.out)) hb); have n5_ := Aside0.mk (Kd.C_below (show Kd.C k50 _ Ao9 y376.length y376 from by repeat (first | (with_reducible exact HR379.out) | (with_reducible refine Kd.C_alloc ?_ _) | (with_reducible refine Kd.C_drewN ?_ _) | (with_reducible refine Kd.C_drew ?_) | exact HR379.out)) hb); have n6_ := Aside0.mk (below_step (by repeat (first | (with_reducible first | exact HB.out | apply below_alloc | apply pw_below_drewN | apply below_drew1) | exact HB.out)) hb); clear HO_3; clear HO_6; clear HO375; clear HR371; clear HR379; clear HB; have HO_3 := n0_; have HO_6 := n1_; have HO375 := n2_; have HO384 := n3_; have HR371 := n4_; have HR379 := n5_; have HB := n6_; clear n0_ n1_ n2_ n3_ n4_ n5_ n6_; (try clear hb); (try clear hb2); (try clear hk); (try clear hi); (try clear ho0)))
                                    go_ret
                                    exact ⟨by first | rfl | (simp [errW_none, errW_some] <;> rfl) | (simp only [← hji36]; first | rfl | (simp [errW_none, errW_some] <;> rfl)) | (simp [*, errW_none, errW_some] <;> rfl), by repeat (first | (with_reducible first | exact HB.out | apply below_alloc | apply pw_below_drewN | apply below_drew1) | exact HB.out)⟩
                                · replace c45 := Bool.eq_false_iff.mpr c45
                                  subst c45
                                  have H1 : (none) = some r := by rw [if_neg (show ¬ (false = true) by decide)] at H; exact H
                                  clear H
                                  have H := H1
                                  clear H1
                                  exact absurd H (by simp)
                              · rw [if_neg c43] at H
                                exact absurd H (by simp)
                            · rw [if_neg c42] at H
                              exact absurd H (by simp)
                      · rw [if_neg c38] at H
                        exact absurd H (by simp)
                    · rw [if_neg c37] at H
                      exact absurd H (by simp)
          · replace c24 := Bool.eq_false_iff.mpr c24
            subst c24
            have H1 : (some true) = some r := by rw [if_neg (show ¬ (false = true) by decide)] at H; exact H
            clear H
            have H := H1
            clear H1
            obtain rfl := Option.some.inj H
            go_wp2
            go_ret
            exact ⟨by first | rfl | (simp [errW_none, errW_some] <;> rfl) | (simp [*, errW_none, errW_some] <;> rfl), by repeat (first | (with_reducible first | exact HB.out | apply below_alloc | apply pw_below_drewN | apply below_drew1) | exact HB.out)⟩

/-- THE ONE PURE STATEMENT of laws_FnBytes: yours. -/
def laws_FnBytes.Pure : Prop := ∀ (l0 : List Int), l0.length ≤ maxLen → l0.length * 1 ≤ 140737488351232 → (∀ x ∈ l0, (Lit.int .u8 x).wf = true) → ∃ k, laws_FnBytes.f k l0 = some true
theorem laws_FnBytes.walk (P : laws_FnBytes.Pure) (a0 : Option Addr) (len0 cap0 : Nat) (z0 : List Int) (w : World) (w0 : (a0 = none ∧ len0 = 0 ∧ cap0 = 0 ∧ z0 = []) ∨ ∃ x, a0 = some x ∧ len0 ≤ cap0 ∧ cap0 ≤ maxLen ∧ z0.length = cap0 ∧ (∀ i, i < z0.length → w.cell? (x.add i) = some (.int .u8 (z0.getD i 0))) ∧ ∀ n ∈ z0, (Lit.int .u8 n).wf = true) (y0 : len0 * 1 ≤ 140737488351232) :
    Calls Try.prog 13 #[.slice a0 len0 cap0] w fun e w' => e = .returned (.bool true) ∧ Below w.heap.size w w' := by
  obtain ⟨l0, rfl, hr0, hm0, hw0, hc0⟩ := ReadsInt.ofRowC w0
  obtain ⟨k, h⟩ := P l0 hm0 y0 hw0
  refine (laws_FnBytes.calls k _ _ l0 true w (Kd.C_of_reads (d := (0 : Int)) (h1 := fun _ => rfl) hr0) hc0 h).mono ?_
  rintro e w' ⟨rfl, hd⟩
  exact ⟨rfl, hd⟩

end Go.Proofs.Ytladnbmemohekaa.PFnBytes
