/- What the call of each function that the law reaches comes to: it answers as the plain function of the same name does, wherever that one answers; and the law itself out of its plain form. Written by a program of this session (an extended copy of the printer); no condition but what stands in each theorem. -/
import Derived.Test.YtkfbfgkdabljiaaPShadowHoldsx0
import Derived.Test.YtkfbfgkdabljiaaPShadowHoldsx5
import Derived.Test.YtkfbfgkdabljiaaPShadowHoldsx7
import Derived.Test.YtkfbfgkdabljiaaPShadowHoldsx9
import Derived.Test.YtkfbfgkdabljiaaPShadowHoldsx12
namespace Go.Proofs.Ytkfbfgkdabljiaa.PShadowHolds
open Go.RowKit Go.Proofs.YtkfbfgkdabljiaaW.PrintWords Go.Proofs.YtkfbfgkdabljiaaW.PrintLast Go.Proofs.YtkfbfgkdabljiaaW.PrintMore
open Go.Proofs.YtkfbfgkdabljiaaW.PrintWords renaming blk_drewN → zN, blk_drew → zD, blk_alloc → zA, below_alloc → yA, pw_below_drewN → yN, below_drew1 → yD, below_set → yS, gate_callee → zC
open Go.Proofs.YtkfbfgkdabljiaaW.PrintWords.Kd renaming V_alloc → vA, V_drewN → vN, V_drew → vD, N_alloc → nA, N_drewN → nN, N_drew → nD, C_alloc → cA, C_drewN → cN, C_drew → cD, V_mono → vM, V_far → vF
open Go.Proofs.YtkfbfgkdabljiaaW.PrintWords.Aside0 renaming mk → zK
attribute [local go_sem] max2_int min2_int max_two min_two max_three min_three max_four min_four   -- for this text's walks alone
set_option linter.unusedVariables false
set_option linter.unusedSimpArgs false

/-! ### sequiturlaw30_ShadowHolds: function 9 -/
mutual
def sequiturlaw30_ShadowHolds.j0 : Nat → List (S70) → List Int → Bool → Option (Bool)
 | 0, _, _, _ => none
 | k + 1, x0, x1, x27 => if x27 = true then (some true) else ((shadow_Real.f k x0 (wrap64 ((x1.length : Int) - 1))).bind fun bt366 => ((shadow_Dark.f k x0 (wrap64 ((x1.length : Int) - 1))).bind fun bt370 => (if bt366.2 = 0 then (if bt370.2 = 0 then ((sequiturlaw30_plain.f k bt366.1).bind fun t374 => ((sequiturref30_Holds.f k t374 x1).bind fun t377 => (sequiturlaw30_ShadowHolds.j1 k x0 x1 (wrap64 ((x1.length : Int) - 1)) bt370.1 (!t377)))) else (sequiturlaw30_ShadowHolds.j1 k x0 x1 (wrap64 ((x1.length : Int) - 1)) bt370.1 true)) else (sequiturlaw30_ShadowHolds.j1 k x0 x1 (wrap64 ((x1.length : Int) - 1)) bt370.1 true))))
def sequiturlaw30_ShadowHolds.j1 : Nat → List (S70) → List Int → Int → List (S72) → Bool → Option (Bool)
 | 0, _, _, _, _, _ => none
 | k + 1, x0, x1, x5, x8, x55 => if x55 = true then (none) else ((sequiturlaw30_plain.f k x8).bind fun t378 => ((sequiturref30_Holds.f k t378 x1).bind fun t381 => (if t381 = true then (some true) else ((shadow_Splits.f k x0 x5).bind fun bt382 => (if bt382.2 = 0 then (sequiturlaw30_ShadowHolds.l0 k x1 bt382.1 (bt382.1.length : Int) 0) else (some (bt382.2 == 2)))))))
def sequiturlaw30_ShadowHolds.l0 : Nat → List Int → List (S62) → Int → Int → Option (Bool)
 | 0, _, _, _, _ => none
 | k + 1, x1, x70, x71, x72 => if x72 < x71 then (if 0 ≤ x72 then (if x72 < (x70.length : Int) then ((sequiturref27_Eval.f k ((rd_T62 x70 x72).f0) ((rd_T62 x70 x72).f1) x1).bind fun bt388 => (if bt388.2 = 0 then (if bt388.1 = 0 then (some true) else (sequiturlaw30_ShadowHolds.l0 k x1 x70 x71 (wrap64 (x72 + 1)))) else (sequiturlaw30_ShadowHolds.l0 k x1 x70 x71 (wrap64 (x72 + 1))))) else (none)) else (none)) else (none)
end
def sequiturlaw30_ShadowHolds.f (k : Nat) (l0 : List (S70)) (l1 : List Int) : Option (Bool) := (sequiturlaw30_alive.f k).bind fun t363 => (if t363 = true then ((sequiturlaw30_small.f k l0 l1).bind fun t364 => (if t364 = true then ((sequiturref30_Holds.f k l0 l1).bind fun t365 => (sequiturlaw30_ShadowHolds.j0 k l0 l1 (!t365))) else (sequiturlaw30_ShadowHolds.j0 k l0 l1 true))) else (none))
theorem sequiturlaw30_ShadowHolds.mono_l : ∀ k, (∀ y0 y1 y2, LeO (sequiturlaw30_ShadowHolds.j0 k y0 y1 y2) (sequiturlaw30_ShadowHolds.j0 (k + 1) y0 y1 y2)) ∧ (∀ y0 y1 y2 y3 y4, LeO (sequiturlaw30_ShadowHolds.j1 k y0 y1 y2 y3 y4) (sequiturlaw30_ShadowHolds.j1 (k + 1) y0 y1 y2 y3 y4)) ∧ (∀ y0 y1 y2 y3, LeO (sequiturlaw30_ShadowHolds.l0 k y0 y1 y2 y3) (sequiturlaw30_ShadowHolds.l0 (k + 1) y0 y1 y2 y3))
 | 0 => ⟨fun _ _ _ r h => by simp [sequiturlaw30_ShadowHolds.j0] at h, fun _ _ _ _ _ r h => by simp [sequiturlaw30_ShadowHolds.j1] at h, fun _ _ _ _ r h => by simp [sequiturlaw30_ShadowHolds.l0] at h⟩
 | k + 1 => by
  obtain ⟨ih0, ih1, ih2⟩ := sequiturlaw30_ShadowHolds.mono_l k
  refine ⟨?_, ?_, ?_⟩
  ·intro y0 y1 y2
   unfold sequiturlaw30_ShadowHolds.j0
   repeat' first
   | (with_reducible exact ih0 _ _ _)
   | (with_reducible exact ih1 _ _ _ _ _)
   | (with_reducible exact ih2 _ _ _ _)
   | (with_reducible exact sequiturlaw30_alive.mono _)
   | (with_reducible exact sequiturlaw30_plain.mono _ _)
   | (with_reducible exact sequiturlaw30_small.mono _ _ _)
   | (with_reducible exact sequiturref27_Eval.mono _ _ _ _)
   | (with_reducible exact sequiturref30_Holds.mono _ _ _)
   | (with_reducible exact shadow_Dark.mono _ _ _)
   | (with_reducible exact shadow_Real.mono _ _ _)
   | (with_reducible exact shadow_Splits.mono _ _ _)
   | (with_reducible exact LeO.refl _)
   | (with_reducible exact LeO.none _)
   | (with_reducible refine LeO.ite ?_ ?_)
   | (with_reducible refine LeO.bind ?_ (fun _ => ?_))
   | exact ih0 _ _ _
   | exact ih1 _ _ _ _ _
   | exact ih2 _ _ _ _
   | exact sequiturlaw30_alive.mono _
   | exact sequiturlaw30_plain.mono _ _
   | exact sequiturlaw30_small.mono _ _ _
   | exact sequiturref27_Eval.mono _ _ _ _
   | exact sequiturref30_Holds.mono _ _ _
   | exact shadow_Dark.mono _ _ _
   | exact shadow_Real.mono _ _ _
   | exact shadow_Splits.mono _ _ _
   | exact LeO.none _
   | refine LeO.ite ?_ ?_
   | refine LeO.bind ?_ (fun _ => ?_)
  ·intro y0 y1 y2 y3 y4
   unfold sequiturlaw30_ShadowHolds.j1
   repeat' first
   | (with_reducible exact ih0 _ _ _)
   | (with_reducible exact ih1 _ _ _ _ _)
   | (with_reducible exact ih2 _ _ _ _)
   | (with_reducible exact sequiturlaw30_alive.mono _)
   | (with_reducible exact sequiturlaw30_plain.mono _ _)
   | (with_reducible exact sequiturlaw30_small.mono _ _ _)
   | (with_reducible exact sequiturref27_Eval.mono _ _ _ _)
   | (with_reducible exact sequiturref30_Holds.mono _ _ _)
   | (with_reducible exact shadow_Dark.mono _ _ _)
   | (with_reducible exact shadow_Real.mono _ _ _)
   | (with_reducible exact shadow_Splits.mono _ _ _)
   | (with_reducible exact LeO.refl _)
   | (with_reducible exact LeO.none _)
   | (with_reducible refine LeO.ite ?_ ?_)
   | (with_reducible refine LeO.bind ?_ (fun _ => ?_))
   | exact ih0 _ _ _
   | exact ih1 _ _ _ _ _
   | exact ih2 _ _ _ _
   | exact sequiturlaw30_alive.mono _
   | exact sequiturlaw30_plain.mono _ _
   | exact sequiturlaw30_small.mono _ _ _
   | exact sequiturref27_Eval.mono _ _ _ _
   | exact sequiturref30_Holds.mono _ _ _
   | exact shadow_Dark.mono _ _ _
   | exact shadow_Real.mono _ _ _
   | exact shadow_Splits.mono _ _ _
   | exact LeO.none _
   | refine LeO.ite ?_ ?_
   | refine LeO.bind ?_ (fun _ => ?_)
  ·intro y0 y1 y2 y3
   unfold sequiturlaw30_ShadowHolds.l0
   repeat' first
   | (with_reducible exact ih0 _ _ _)
   | (with_reducible exact ih1 _ _ _ _ _)
   | (with_reducible exact ih2 _ _ _ _)
   | (with_reducible exact sequiturlaw30_alive.mono _)
   | (with_reducible exact sequiturlaw30_plain.mono _ _)
   | (with_reducible exact sequiturlaw30_small.mono _ _ _)
   | (with_reducible exact sequiturref27_Eval.mono _ _ _ _)
   | (with_reducible exact sequiturref30_Holds.mono _ _ _)
   | (with_reducible exact shadow_Dark.mono _ _ _)
   | (with_reducible exact shadow_Real.mono _ _ _)
   | (with_reducible exact shadow_Splits.mono _ _ _)
   | (with_reducible exact LeO.refl _)
   | (with_reducible exact LeO.none _)
   | (with_reducible refine LeO.ite ?_ ?_)
   | (with_reducible refine LeO.bind ?_ (fun _ => ?_))
   | exact ih0 _ _ _
   | exact ih1 _ _ _ _ _
   | exact ih2 _ _ _ _
   | exact sequiturlaw30_alive.mono _
   | exact sequiturlaw30_plain.mono _ _
   | exact sequiturlaw30_small.mono _ _ _
   | exact sequiturref27_Eval.mono _ _ _ _
   | exact sequiturref30_Holds.mono _ _ _
   | exact shadow_Dark.mono _ _ _
   | exact shadow_Real.mono _ _ _
   | exact shadow_Splits.mono _ _ _
   | exact LeO.none _
   | refine LeO.ite ?_ ?_
   | refine LeO.bind ?_ (fun _ => ?_)
theorem sequiturlaw30_ShadowHolds.mono : ∀ a0 a1 k, LeO (sequiturlaw30_ShadowHolds.f k a0 a1) (sequiturlaw30_ShadowHolds.f (k + 1) a0 a1) := by
 intro a0 a1 k
 obtain ⟨ih0, ih1, ih2⟩ := sequiturlaw30_ShadowHolds.mono_l k
 unfold sequiturlaw30_ShadowHolds.f
 repeat' first
   | (with_reducible exact ih0 _ _ _)
   | (with_reducible exact ih1 _ _ _ _ _)
   | (with_reducible exact ih2 _ _ _ _)
   | (with_reducible exact sequiturlaw30_alive.mono _)
   | (with_reducible exact sequiturlaw30_plain.mono _ _)
   | (with_reducible exact sequiturlaw30_small.mono _ _ _)
   | (with_reducible exact sequiturref27_Eval.mono _ _ _ _)
   | (with_reducible exact sequiturref30_Holds.mono _ _ _)
   | (with_reducible exact shadow_Dark.mono _ _ _)
   | (with_reducible exact shadow_Real.mono _ _ _)
   | (with_reducible exact shadow_Splits.mono _ _ _)
   | (with_reducible exact LeO.refl _)
   | (with_reducible exact LeO.none _)
   | (with_reducible refine LeO.ite ?_ ?_)
   | (with_reducible refine LeO.bind ?_ (fun _ => ?_))
   | exact ih0 _ _ _
   | exact ih1 _ _ _ _ _
   | exact ih2 _ _ _ _
   | exact sequiturlaw30_alive.mono _
   | exact sequiturlaw30_plain.mono _ _
   | exact sequiturlaw30_small.mono _ _ _
   | exact sequiturref27_Eval.mono _ _ _ _
   | exact sequiturref30_Holds.mono _ _ _
   | exact shadow_Dark.mono _ _ _
   | exact shadow_Real.mono _ _ _
   | exact shadow_Splits.mono _ _ _
   | exact LeO.none _
   | refine LeO.ite ?_ ?_
   | refine LeO.bind ?_ (fun _ => ?_)
set_option maxHeartbeats 8000000 in
set_option maxRecDepth 100000 in
theorem sequiturlaw30_ShadowHolds.calls (k : Nat) (A0 : Option Addr) (c0 : Nat) (l0 : List (S70)) (A1 : Option Addr) (c1 : Nat) (l1 : List Int) (r : Bool) (w : World) (hr0 : Kd.C k70 w A0 l0.length l0) (hc0 : l0.length ≤ c0) (hr1 : Kd.C (Kd.int .i64) w A1 l1.length l1) (hc1 : l1.length ≤ c1) (h : sequiturlaw30_ShadowHolds.f k l0 l1 = some r) :
  Calls Try.prog 9 #[.slice A0 l0.length c0, .slice A1 l1.length c1] w fun e w' => e = .returned (.bool r) ∧ Below w.heap.size w w' := by
 have hu62 := Try.underlying62
 have HR0 := zK hr0
 have HC0 := zK hc0; clear hr0 hc0
 have HR1 := zK hr1
 have HC1 := zK hc1; clear hr1 hc1
 have HB := zK (Below.refl w.heap.size w)
 have H : ((sequiturlaw30_alive.f k).bind fun t363 => (if t363 = true then ((sequiturlaw30_small.f k l0 l1).bind fun t364 => (if t364 = true then ((sequiturref30_Holds.f k l0 l1).bind fun t365 => (sequiturlaw30_ShadowHolds.j0 k l0 l1 (!t365))) else (sequiturlaw30_ShadowHolds.j0 k l0 l1 true))) else (none))) = some r := h
 clear h; replace H := Option.bind_eq_some_iff.mp H
 obtain ⟨t363, A30, H⟩ := H
 replace H : (if t363 = true then ((sequiturlaw30_small.f k l0 l1).bind fun t364 => (if t364 = true then ((sequiturref30_Holds.f k l0 l1).bind fun t365 => (sequiturlaw30_ShadowHolds.j0 k l0 l1 (!t365))) else (sequiturlaw30_ShadowHolds.j0 k l0 l1 true))) else (none)) = some r := H
 have A3 := zK A30; clear A30
 by_cases c4 : t363 = true
 ·subst c4
  have H1 : ((sequiturlaw30_small.f k l0 l1).bind fun t364 => (if t364 = true then ((sequiturref30_Holds.f k l0 l1).bind fun t365 => (sequiturlaw30_ShadowHolds.j0 k l0 l1 (!t365))) else (sequiturlaw30_ShadowHolds.j0 k l0 l1 true))) = some r := by rw [if_pos rfl] at H; exact H
  clear H; have H := H1; clear H1
  have HC5 := zK H; clear H
  go_enter Try.func9, Try.ntmps9
  go_upto_region 3 with (first | ((with_reducible refine zC (f := 12) rfl ?_); refine goesL_ (some 16) rfl rfl Try.func12 (by kernel_rfl) rfl #[] rfl (by (try simp only [List.map_toArray, List.map_cons, List.map_nil]); first | done | rfl | (simp only [List.length_drop, List.length_take]; rfl)) ?_; (with_reducible refine (sequiturlaw30_alive.calls k  true _ A3.out).mono ?_); rintro e w6 ⟨rfl, hb⟩; refine ⟨_, rfl, ?_⟩; replace HB := zK (below_step (zo HB) hb); (try clear hb); (try clear hb2); (try clear hk); (try clear hi)))
  (try simp only [Act.put, List.setIfInBounds_toArray, List.set_cons_zero, List.set_cons_succ])
  go_cut [27] (fun v27 wc => ∃ (kq : Nat) (x27_4 : Bool), v27 = .bool x27_4 ∧ Aside0 (sequiturlaw30_ShadowHolds.j0 kq l0 l1 x27_4 = some r) ∧ Aside0 (kq ≤ k) ∧ Aside0 (Below w.heap.size w wc))
  case first =>
   have H := HC5.out; clear HC5; replace H := Option.bind_eq_some_iff.mp H
   obtain ⟨t364, A70, H⟩ := H
   replace H : (if t364 = true then ((sequiturref30_Holds.f k l0 l1).bind fun t365 => (sequiturlaw30_ShadowHolds.j0 k l0 l1 (!t365))) else (sequiturlaw30_ShadowHolds.j0 k l0 l1 true)) = some r := H
   have A7 := zK A70; clear A70
   by_cases c8 : t364 = true
   ·subst c8
    have H1 : ((sequiturref30_Holds.f k l0 l1).bind fun t365 => (sequiturlaw30_ShadowHolds.j0 k l0 l1 (!t365))) = some r := by rw [if_pos rfl] at H; exact H
    clear H; have H := H1
    clear H1; replace H := Option.bind_eq_some_iff.mp H
    obtain ⟨t365, A90, H⟩ := H
    replace H : (sequiturlaw30_ShadowHolds.j0 k l0 l1 (!t365)) = some r := H
    have A9 := zK A90; clear A90
    have H' := zK H; clear H
    go_wp2_with (first | ((with_reducible refine zC (f := 34) rfl ?_); refine goesL_ (some 20) rfl rfl Try.func34 (by kernel_rfl) rfl #[.slice A0 l0.length c0, .slice A1 l1.length c1] rfl (by (try simp only [List.map_toArray, List.map_cons, List.map_nil]); first | done | rfl | (simp only [List.length_drop, List.length_take]; rfl)) ?_; (with_reducible refine (sequiturlaw30_small.calls k _ _ l0 _ _ l1 true _ ?side1 ?side2 ?side3 ?side4 A7.out).mono ?_); (case side1 => repeat (first | exact (Kd.C_below HR0.out HB.out) | (with_reducible refine cA ?_ _) | (with_reducible refine cN ?_ _) | (with_reducible refine cD ?_))); (case side2 => exact HC0.out); (case side3 => repeat (first | exact (Kd.C_below HR1.out HB.out) | (with_reducible refine cA ?_ _) | (with_reducible refine cN ?_ _) | (with_reducible refine cD ?_))); (case side4 => exact HC1.out); rintro e w10 ⟨rfl, hb⟩; refine ⟨_, rfl, ?_⟩; replace HB := zK (below_step (zo HB) hb); (try clear hb); (try clear hb2); (try clear hk); (try clear hi)) | (go_at_call 35; (with_reducible refine (sequiturref30_Holds.calls k _ _ l0 _ _ l1 t365 _ ?side1 ?side2 ?side3 ?side4 A9.out).mono ?_); (case side1 => repeat (first | exact (Kd.C_below HR0.out HB.out) | (with_reducible refine cA ?_ _) | (with_reducible refine cN ?_ _) | (with_reducible refine cD ?_))); (case side2 => exact HC0.out); (case side3 => repeat (first | exact (Kd.C_below HR1.out HB.out) | (with_reducible refine cA ?_ _) | (with_reducible refine cN ?_ _) | (with_reducible refine cD ?_))); (case side4 => exact HC1.out); rintro e w11 ⟨rfl, hb⟩; replace HB := zK (below_step (zo HB) hb); (try clear hb); (try clear hb2); (try clear hk); (try clear hi)))
    go_meet
    case rel => exact ⟨_, (!t365), (by first | rfl | (simp; done) | (simp [*]; done)), H', ⟨by first | omega | exact Nat.le_refl _⟩, ⟨zo HB⟩⟩
   ·replace c8 := Bool.eq_false_iff.mpr c8
    subst c8
    have H1 : (sequiturlaw30_ShadowHolds.j0 k l0 l1 true) = some r := by rw [if_neg (show ¬ (false = true) by decide)] at H; exact H
    clear H; have H := H1; clear H1
    have H' := zK H; clear H
    go_wp2_with (first | ((with_reducible refine zC (f := 34) rfl ?_); refine goesL_ (some 20) rfl rfl Try.func34 (by kernel_rfl) rfl #[.slice A0 l0.length c0, .slice A1 l1.length c1] rfl (by (try simp only [List.map_toArray, List.map_cons, List.map_nil]); first | done | rfl | (simp only [List.length_drop, List.length_take]; rfl)) ?_; (with_reducible refine (sequiturlaw30_small.calls k _ _ l0 _ _ l1 false _ ?side1 ?side2 ?side3 ?side4 A7.out).mono ?_); (case side1 => repeat (first | exact (Kd.C_below HR0.out HB.out) | (with_reducible refine cA ?_ _) | (with_reducible refine cN ?_ _) | (with_reducible refine cD ?_))); (case side2 => exact HC0.out); (case side3 => repeat (first | exact (Kd.C_below HR1.out HB.out) | (with_reducible refine cA ?_ _) | (with_reducible refine cN ?_ _) | (with_reducible refine cD ?_))); (case side4 => exact HC1.out); rintro e w12 ⟨rfl, hb⟩; refine ⟨_, rfl, ?_⟩; replace HB := zK (below_step (zo HB) hb); (try clear hb); (try clear hb2); (try clear hk); (try clear hi)))
    go_meet
    case rel => exact ⟨_, (true), (by first | rfl | (simp; done) | (simp [*]; done)), H', ⟨by first | omega | exact Nat.le_refl _⟩, ⟨zo HB⟩⟩
  case rest =>
   clear HC5; try clear c1; try clear p2; try clear c3
   try clear c4; try clear c8; try clear c9; try clear c12
   obtain ⟨kq, x27_4, rfl, HA, HJ4, HB⟩ := hcut
   cases kq with
   | zero => exact absurd HA.out (by simp [sequiturlaw30_ShadowHolds.j0])
   | succ kj4 =>
    have H := HA.out; clear HA
    simp only [sequiturlaw30_ShadowHolds.j0] at H
    by_cases c13 : x27_4 = true
    ·subst c13
     have H1 : (some true) = some r := by rw [if_pos rfl] at H; exact H
     clear H; have H := H1; clear H1
     obtain rfl := Option.some.inj H
     go_wp2
     go_ret
     exact ⟨by first | rfl | (simp [errW_none, errW_some] <;> rfl) | (simp [*, errW_none, errW_some] <;> rfl), zo HB⟩
    ·replace c13 := Bool.eq_false_iff.mpr c13
     subst c13
     have H1 : ((shadow_Real.f kj4 l0 (wrap64 ((l1.length : Int) - 1))).bind fun bt366 => ((shadow_Dark.f kj4 l0 (wrap64 ((l1.length : Int) - 1))).bind fun bt370 => (if bt366.2 = 0 then (if bt370.2 = 0 then ((sequiturlaw30_plain.f kj4 bt366.1).bind fun t374 => ((sequiturref30_Holds.f kj4 t374 l1).bind fun t377 => (sequiturlaw30_ShadowHolds.j1 kj4 l0 l1 (wrap64 ((l1.length : Int) - 1)) bt370.1 (!t377)))) else (sequiturlaw30_ShadowHolds.j1 kj4 l0 l1 (wrap64 ((l1.length : Int) - 1)) bt370.1 true)) else (sequiturlaw30_ShadowHolds.j1 kj4 l0 l1 (wrap64 ((l1.length : Int) - 1)) bt370.1 true)))) = some r := by rw [if_neg (show ¬ (false = true) by decide)] at H; exact H
     clear H; have H := H1
     clear H1; replace H := Option.bind_eq_some_iff.mp H
     obtain ⟨⟨t366, t369⟩, A140, H⟩ := H
     replace H : ((shadow_Dark.f kj4 l0 (wrap64 ((l1.length : Int) - 1))).bind fun bt370 => (if t369 = 0 then (if bt370.2 = 0 then ((sequiturlaw30_plain.f kj4 t366).bind fun t374 => ((sequiturref30_Holds.f kj4 t374 l1).bind fun t377 => (sequiturlaw30_ShadowHolds.j1 kj4 l0 l1 (wrap64 ((l1.length : Int) - 1)) bt370.1 (!t377)))) else (sequiturlaw30_ShadowHolds.j1 kj4 l0 l1 (wrap64 ((l1.length : Int) - 1)) bt370.1 true)) else (sequiturlaw30_ShadowHolds.j1 kj4 l0 l1 (wrap64 ((l1.length : Int) - 1)) bt370.1 true))) = some r := H
     have A14 := zK A140; clear A140; replace H := Option.bind_eq_some_iff.mp H
     obtain ⟨⟨t370, t373⟩, A150, H⟩ := H
     replace H : (if t369 = 0 then (if t373 = 0 then ((sequiturlaw30_plain.f kj4 t366).bind fun t374 => ((sequiturref30_Holds.f kj4 t374 l1).bind fun t377 => (sequiturlaw30_ShadowHolds.j1 kj4 l0 l1 (wrap64 ((l1.length : Int) - 1)) t370 (!t377)))) else (sequiturlaw30_ShadowHolds.j1 kj4 l0 l1 (wrap64 ((l1.length : Int) - 1)) t370 true)) else (sequiturlaw30_ShadowHolds.j1 kj4 l0 l1 (wrap64 ((l1.length : Int) - 1)) t370 true)) = some r := H
     have A15 := zK A150; clear A150
     have HC16 := zK H; clear H
     go_upto_region 8 with (first | ((with_reducible refine zC (f := 14) rfl ?_); refine goesL_ (some 34) rfl rfl Try.func14 (by kernel_rfl) rfl #[.slice A0 l0.length c0, .int .i64 (wrap64 ((l1.length : Int) - 1))] rfl (by (try simp only [List.map_toArray, List.map_cons, List.map_nil]); first | done | rfl | (simp only [List.length_drop, List.length_take]; rfl)) ?_; (with_reducible refine (shadow_Real.calls kj4 (fun k_ => k_ < w.heap.size) _ _ l0 (wrap64 ((l1.length : Int) - 1)) t366 t369 _ ?side1 A14.out).mono ?_); (case side1 => exact Kd.V_mk HC0.out (Kd.F_below (Kd.C_F k70_heap HR0.out) (zo HB))); rintro e w17 ⟨v367, rfl, ho0, hb⟩; refine ⟨_, rfl, ?_⟩; have HO368 := zK (Kd.N_lower (Kd.N_mono (ok' := fun k_ => True) ho0 (fun k_ hk_ => trivial)) (below_size (zo HB))); replace HB := zK (below_step (zo HB) hb); (try clear hb); (try clear hb2); (try clear hk); (try clear hi); (try clear ho0)) | ((with_reducible refine zC (f := 16) rfl ?_); refine goesL_ (some 40) rfl rfl Try.func16 (by kernel_rfl) rfl #[.slice A0 l0.length c0, .int .i64 (wrap64 ((l1.length : Int) - 1))] rfl (by (try simp only [List.map_toArray, List.map_cons, List.map_nil]); first | done | rfl | (simp only [List.length_drop, List.length_take]; rfl)) ?_; (with_reducible refine (shadow_Dark.calls kj4 (fun k_ => k_ < w.heap.size) _ _ l0 (wrap64 ((l1.length : Int) - 1)) t370 t373 _ ?side1 A15.out).mono ?_); (case side1 => exact Kd.V_mk HC0.out (Kd.F_below (Kd.C_F k70_heap HR0.out) (zo HB))); rintro e w18 ⟨v371, rfl, ho0, hb⟩; refine ⟨_, rfl, ?_⟩; have HO372 := zK (Kd.N_lower (Kd.N_mono (ok' := fun k_ => some k_ ≠ (v367 : Value).ownBlock) ho0 (fun k_ hk_ => Or.elim hk_ (fun hs_ => fun e_ => Nat.not_le.2 hs_ (Kd.N_base HO368.out k_ e_.symm)) (fun hn_ => (Kd.fresh' (Kd.N_lt (zn HO368)) k_ hn_)))) (below_size (zo HB))); replace HO368 := zK (Kd.N_elder' (zn HO368) (Kd.N_base ho0) hb); replace HB := zK (below_step (zo HB) hb); (try clear hb); (try clear hb2); (try clear hk); (try clear hi); (try clear ho0)))
     (try simp only [Act.put, List.setIfInBounds_toArray, List.set_cons_zero, List.set_cons_succ])
     go_cut [55] (fun v55 wc => ∃ (kq : Nat) (x55_15 : Bool), v55 = .bool x55_15 ∧ Aside0 (sequiturlaw30_ShadowHolds.j1 kq l0 l1 (wrap64 ((l1.length : Int) - 1)) t370 x55_15 = some r) ∧ Aside0 (kq ≤ kj4) ∧ Aside0 (Kd.N k72 72 wc w.heap.size (fun _ => True) v371 t370) ∧ Aside0 (Below w.heap.size w wc))
     case first =>
      have H := HC16.out; clear HC16
      by_cases c19 : t369 = 0
      ·rw [if_pos c19] at H
       have c19b0 : (t369 == 0) = true := beq_iff_eq.mpr c19
       have c19b1 : (t369 != 0) = false := bne_eq_false_iff_eq.mpr c19; clear c19
       (first | rw [c19b0] | (simp only [i64_w, i32_w]; rw [c19b0]) | skip)
       by_cases c20 : t373 = 0
       ·rw [if_pos c20] at H
        have c20b0 : (t373 == 0) = true := beq_iff_eq.mpr c20
        have c20b1 : (t373 != 0) = false := bne_eq_false_iff_eq.mpr c20; clear c20
        replace H := Option.bind_eq_some_iff.mp H
        obtain ⟨t374, A210, H⟩ := H
        replace H : ((sequiturref30_Holds.f kj4 t374 l1).bind fun t377 => (sequiturlaw30_ShadowHolds.j1 kj4 l0 l1 (wrap64 ((l1.length : Int) - 1)) t370 (!t377))) = some r := H
        have A21 := zK A210; clear A210; replace H := Option.bind_eq_some_iff.mp H
        obtain ⟨t377, A220, H⟩ := H
        replace H : (sequiturlaw30_ShadowHolds.j1 kj4 l0 l1 (wrap64 ((l1.length : Int) - 1)) t370 (!t377)) = some r := H
        have A22 := zK A220; clear A220
        have H' := zK H; clear H
        obtain ⟨Ao23, co23, eo23⟩ := Kd.N_slice HO368.out
        subst eo23
        go_wp2_with (first | (go_at_call 36; (with_reducible refine (sequiturlaw30_plain.calls kj4 (fun k_ => (True ∧ some k_ ≠ (v371 : Value).ownBlock)) _ _ t366 t374 _ ?side1 A21.out).mono ?_); (case side1 => exact Kd.N_V (HO368.out)); rintro e w24 ⟨v375, rfl, ho0, hb⟩; replace HO368 := zK (Kd.N_elder' (zn HO368) (Kd.N_base ho0) hb); have HO376 := zK (Kd.N_lower (Kd.N_mono (ok' := fun k_ => some k_ ≠ (v371 : Value).ownBlock) ho0 (fun k_ hk_ => Or.elim hk_ (fun hs_ => hs_.2) (fun hn_ => (Kd.fresh' (Kd.N_lt (zn HO372)) k_ hn_)))) (below_size (zo HB))); replace HO372 := zK (Kd.N_elder' (zn HO372) (Kd.N_base ho0) hb); replace HB := zK (below_step (zo HB) hb); (try clear hb); (try clear hb2); (try clear hk); (try clear hi); (try clear ho0); obtain ⟨Ao25, co25, eo25⟩ := Kd.N_slice HO376.out; subst eo25) | (go_at_call 35; (with_reducible refine (sequiturref30_Holds.calls kj4 _ _ t374 _ _ l1 t377 _ ?side1 ?side2 ?side3 ?side4 A22.out).mono ?_); (case side1 => repeat (first | exact (Kd.N_reads' HO376.out).2.2 | (with_reducible refine cA ?_ _) | (with_reducible refine cN ?_ _) | (with_reducible refine cD ?_))); (case side2 => exact (Kd.N_reads' HO376.out).2.1); (case side3 => repeat (first | exact (Kd.C_below HR1.out HB.out) | (with_reducible refine cA ?_ _) | (with_reducible refine cN ?_ _) | (with_reducible refine cD ?_))); (case side4 => exact HC1.out); rintro e w26 ⟨rfl, hb⟩; replace HO368 := zK (Kd.N_below (zn HO368) hb); replace HO372 := zK (Kd.N_below (zn HO372) hb); replace HO376 := zK (Kd.N_below (zn HO376) hb); replace HB := zK (below_step (zo HB) hb); (try clear hb); (try clear hb2); (try clear hk); (try clear hi)))
        go_meet
        case rel => exact ⟨_, (!t377), (by first | rfl | (simp; done) | (simp [*]; done)), H', ⟨by have := HJ4.out; first | omega | exact Nat.le_refl _⟩, ⟨by (with_reducible repeat (first | apply nA | apply nN | apply nD)); exact Kd.N_mono HO372.out (fun _ hk => trivial)⟩, ⟨zo HB⟩⟩
       ·rw [if_neg c20] at H
        have c20b0 : (t373 == 0) = false := beq_eq_false_iff_ne.mpr c20
        have c20b1 : (t373 != 0) = true := bne_iff_ne.mpr c20
        have H' := zK H; clear H
        go_wp2
        go_meet
        case rel => exact ⟨_, (true), (by first | rfl | (simp; done) | (simp [*]; done)), H', ⟨by have := HJ4.out; first | omega | exact Nat.le_refl _⟩, ⟨by (with_reducible repeat (first | apply nA | apply nN | apply nD)); exact Kd.N_mono HO372.out (fun _ hk => trivial)⟩, ⟨zo HB⟩⟩
      ·rw [if_neg c19] at H
       have c19b0 : (t369 == 0) = false := beq_eq_false_iff_ne.mpr c19
       have c19b1 : (t369 != 0) = true := bne_iff_ne.mpr c19
       (first | rw [c19b0] | (simp only [i64_w, i32_w]; rw [c19b0]) | skip)
       have H' := zK H; clear H
       go_wp2
       go_meet
       case rel => exact ⟨_, (true), (by first | rfl | (simp; done) | (simp [*]; done)), H', ⟨by have := HJ4.out; first | omega | exact Nat.le_refl _⟩, ⟨by (with_reducible repeat (first | apply nA | apply nN | apply nD)); exact Kd.N_mono HO372.out (fun _ hk => trivial)⟩, ⟨zo HB⟩⟩
     case rest =>
      clear HC16; try clear c1; try clear c2; try clear p2
      try clear c3; try clear c4; try clear p6; try clear c8
      try clear c9; try clear c12; try clear c13; try clear c14
      try clear c16; try clear c19; try clear c19b0; try clear c19b1
      try clear c20; try clear c20b0; try clear c20b1; try clear p2
      obtain ⟨kq, x55_15, rfl, HA, HJ15, HO_8, HB⟩ := hcut
      cases kq with
      | zero => exact absurd HA.out (by simp [sequiturlaw30_ShadowHolds.j1])
      | succ kj15 =>
       have H := HA.out; clear HA
       simp only [sequiturlaw30_ShadowHolds.j1] at H
       by_cases c27 : x55_15 = true
       ·subst c27
        have H1 : (none) = some r := by rw [if_pos rfl] at H; exact H
        clear H
        have H := H1; clear H1
        exact absurd H (by simp)
       ·replace c27 := Bool.eq_false_iff.mpr c27
        subst c27
        have H1 : ((sequiturlaw30_plain.f kj15 t370).bind fun t378 => ((sequiturref30_Holds.f kj15 t378 l1).bind fun t381 => (if t381 = true then (some true) else ((shadow_Splits.f kj15 l0 (wrap64 ((l1.length : Int) - 1))).bind fun bt382 => (if bt382.2 = 0 then (sequiturlaw30_ShadowHolds.l0 kj15 l1 bt382.1 (bt382.1.length : Int) 0) else (some (bt382.2 == 2))))))) = some r := by rw [if_neg (show ¬ (false = true) by decide)] at H; exact H
        clear H; have H := H1
        clear H1; replace H := Option.bind_eq_some_iff.mp H
        obtain ⟨t378, A280, H⟩ := H
        replace H : ((sequiturref30_Holds.f kj15 t378 l1).bind fun t381 => (if t381 = true then (some true) else ((shadow_Splits.f kj15 l0 (wrap64 ((l1.length : Int) - 1))).bind fun bt382 => (if bt382.2 = 0 then (sequiturlaw30_ShadowHolds.l0 kj15 l1 bt382.1 (bt382.1.length : Int) 0) else (some (bt382.2 == 2)))))) = some r := H
        have A28 := zK A280; clear A280; replace H := Option.bind_eq_some_iff.mp H
        obtain ⟨t381, A290, H⟩ := H
        replace H : (if t381 = true then (some true) else ((shadow_Splits.f kj15 l0 (wrap64 ((l1.length : Int) - 1))).bind fun bt382 => (if bt382.2 = 0 then (sequiturlaw30_ShadowHolds.l0 kj15 l1 bt382.1 (bt382.1.length : Int) 0) else (some (bt382.2 == 2))))) = some r := H
        have A29 := zK A290; clear A290
        by_cases c30 : t381 = true
        ·subst c30
         have H1 : (some true) = some r := by rw [if_pos rfl] at H; exact H
         clear H; have H := H1; clear H1
         obtain rfl := Option.some.inj H
         obtain ⟨Ao31, co31, eo31⟩ := Kd.N_slice HO_8.out
         subst eo31
         go_wp2_with (first | ((with_reducible refine zC (f := 36) rfl ?_); refine goesL_ (some 57) rfl rfl Try.func36 (by kernel_rfl) rfl #[.slice Ao31 t370.length co31] rfl (by (try simp only [List.map_toArray, List.map_cons, List.map_nil]); first | done | rfl | (simp only [List.length_drop, List.length_take]; rfl)) ?_; (with_reducible refine (sequiturlaw30_plain.calls kj15 (fun k_ => True) _ _ t370 t378 _ ?side1 A28.out).mono ?_); (case side1 => exact Kd.N_V (HO_8.out)); rintro e w32 ⟨v379, rfl, ho0, hb⟩; refine ⟨_, rfl, ?_⟩; replace HO_8 := zK (Kd.N_elder' (zn HO_8) (Kd.N_base ho0) hb); have HO380 := zK (Kd.N_lower (Kd.N_mono (ok' := fun k_ => True) ho0 (fun k_ hk_ => trivial)) (below_size (zo HB))); replace HB := zK (below_step (zo HB) hb); (try clear hb); (try clear hb2); (try clear hk); (try clear hi); (try clear ho0); obtain ⟨Ao33, co33, eo33⟩ := Kd.N_slice HO380.out; subst eo33) | ((with_reducible refine zC (f := 35) rfl ?_); refine goesL_ (some 59) rfl rfl Try.func35 (by kernel_rfl) rfl #[.slice Ao33 t378.length co33, .slice A1 l1.length c1] rfl (by (try simp only [List.map_toArray, List.map_cons, List.map_nil]); first | done | rfl | (simp only [List.length_drop, List.length_take]; rfl)) ?_; (with_reducible refine (sequiturref30_Holds.calls kj15 _ _ t378 _ _ l1 true _ ?side1 ?side2 ?side3 ?side4 A29.out).mono ?_); (case side1 => repeat (first | exact (Kd.N_reads' HO380.out).2.2 | (with_reducible refine cA ?_ _) | (with_reducible refine cN ?_ _) | (with_reducible refine cD ?_))); (case side2 => exact (Kd.N_reads' HO380.out).2.1); (case side3 => repeat (first | exact (Kd.C_below HR1.out HB.out) | (with_reducible refine cA ?_ _) | (with_reducible refine cN ?_ _) | (with_reducible refine cD ?_))); (case side4 => exact HC1.out); rintro e w34 ⟨rfl, hb⟩; refine ⟨_, rfl, ?_⟩; replace HO_8 := zK (Kd.N_below (zn HO_8) hb); replace HO380 := zK (Kd.N_below (zn HO380) hb); replace HB := zK (below_step (zo HB) hb); (try clear hb); (try clear hb2); (try clear hk); (try clear hi)))
         go_ret
         exact ⟨by first | rfl | (simp [errW_none, errW_some] <;> rfl) | (simp [*, errW_none, errW_some] <;> rfl), zo HB⟩
        ·replace c30 := Bool.eq_false_iff.mpr c30
         subst c30
         have H1 : ((shadow_Splits.f kj15 l0 (wrap64 ((l1.length : Int) - 1))).bind fun bt382 => (if bt382.2 = 0 then (sequiturlaw30_ShadowHolds.l0 kj15 l1 bt382.1 (bt382.1.length : Int) 0) else (some (bt382.2 == 2)))) = some r := by rw [if_neg (show ¬ (false = true) by decide)] at H; exact H
         clear H; have H := H1
         clear H1; replace H := Option.bind_eq_some_iff.mp H
         obtain ⟨⟨t382, t383⟩, A350, H⟩ := H
         replace H : (if t383 = 0 then (sequiturlaw30_ShadowHolds.l0 kj15 l1 t382 (t382.length : Int) 0) else (some (t383 == 2))) = some r := H
         have A35 := zK A350; clear A350
         by_cases c36 : t383 = 0
         ·rw [if_pos c36] at H
          have c36b0 : (t383 == 0) = true := beq_iff_eq.mpr c36
          have c36b1 : (t383 != 0) = false := bne_eq_false_iff_eq.mpr c36; clear c36
          have H' := zK H; clear H
          obtain ⟨Ao37, co37, eo37⟩ := Kd.N_slice HO_8.out
          subst eo37
          go_wp2_with (first | ((with_reducible refine zC (f := 36) rfl ?_); refine goesL_ (some 57) rfl rfl Try.func36 (by kernel_rfl) rfl #[.slice Ao37 t370.length co37] rfl (by (try simp only [List.map_toArray, List.map_cons, List.map_nil]); first | done | rfl | (simp only [List.length_drop, List.length_take]; rfl)) ?_; (with_reducible refine (sequiturlaw30_plain.calls kj15 (fun k_ => True) _ _ t370 t378 _ ?side1 A28.out).mono ?_); (case side1 => exact Kd.N_V (HO_8.out)); rintro e w38 ⟨v379, rfl, ho0, hb⟩; refine ⟨_, rfl, ?_⟩; replace HO_8 := zK (Kd.N_elder' (zn HO_8) (Kd.N_base ho0) hb); have HO380 := zK (Kd.N_lower (Kd.N_mono (ok' := fun k_ => True) ho0 (fun k_ hk_ => trivial)) (below_size (zo HB))); replace HB := zK (below_step (zo HB) hb); (try clear hb); (try clear hb2); (try clear hk); (try clear hi); (try clear ho0); obtain ⟨Ao39, co39, eo39⟩ := Kd.N_slice HO380.out; subst eo39) | ((with_reducible refine zC (f := 35) rfl ?_); refine goesL_ (some 59) rfl rfl Try.func35 (by kernel_rfl) rfl #[.slice Ao39 t378.length co39, .slice A1 l1.length c1] rfl (by (try simp only [List.map_toArray, List.map_cons, List.map_nil]); first | done | rfl | (simp only [List.length_drop, List.length_take]; rfl)) ?_; (with_reducible refine (sequiturref30_Holds.calls kj15 _ _ t378 _ _ l1 false _ ?side1 ?side2 ?side3 ?side4 A29.out).mono ?_); (case side1 => repeat (first | exact (Kd.N_reads' HO380.out).2.2 | (with_reducible refine cA ?_ _) | (with_reducible refine cN ?_ _) | (with_reducible refine cD ?_))); (case side2 => exact (Kd.N_reads' HO380.out).2.1); (case side3 => repeat (first | exact (Kd.C_below HR1.out HB.out) | (with_reducible refine cA ?_ _) | (with_reducible refine cN ?_ _) | (with_reducible refine cD ?_))); (case side4 => exact HC1.out); rintro e w40 ⟨rfl, hb⟩; refine ⟨_, rfl, ?_⟩; replace HO_8 := zK (Kd.N_below (zn HO_8) hb); replace HO380 := zK (Kd.N_below (zn HO380) hb); replace HB := zK (below_step (zo HB) hb); (try clear hb); (try clear hb2); (try clear hk); (try clear hi)) | ((with_reducible refine zC (f := 31) rfl ?_); refine goesL_ (some 63) rfl rfl Try.func31 (by kernel_rfl) rfl #[.slice A0 l0.length c0, .int .i64 (wrap64 ((l1.length : Int) - 1))] rfl (by (try simp only [List.map_toArray, List.map_cons, List.map_nil]); first | done | rfl | (simp only [List.length_drop, List.length_take]; rfl)) ?_; (with_reducible refine (shadow_Splits.calls kj15 _ _ l0 (wrap64 ((l1.length : Int) - 1)) t382 t383 _ ?side1 ?side2 A35.out).mono ?_); (case side1 => repeat (first | exact (Kd.C_below HR0.out HB.out) | (with_reducible refine cA ?_ _) | (with_reducible refine cN ?_ _) | (with_reducible refine cD ?_))); (case side2 => exact HC0.out); rintro e w41 ⟨v384, rfl, ho0, hb⟩; refine ⟨_, rfl, ?_⟩; have HO385 := zK (Kd.N_lower (Kd.N_mono (ok' := fun k_ => some k_ ≠ (.slice Ao37 t370.length co37 : Value).ownBlock ∧ some k_ ≠ (.slice Ao39 t378.length co39 : Value).ownBlock) (Kd.S_N (Kd.S_bound ho0)) (fun k_ hk_ => ⟨(Kd.fresh' (Kd.N_lt (zn HO_8)) k_ hk_.2.1), (Kd.fresh' (Kd.N_lt (zn HO380)) k_ hk_.2.1)⟩)) (below_size (zo HB))); replace HO_8 := zK (Kd.N_elder' (zn HO_8) (Kd.N_base (Kd.S_N (Kd.S_bound ho0))) hb); replace HO380 := zK (Kd.N_elder' (zn HO380) (Kd.N_base (Kd.S_N (Kd.S_bound ho0))) hb); replace HB := zK (below_step (zo HB) hb); (try clear hb); (try clear hb2); (try clear hk); (try clear hi); (try clear ho0); obtain ⟨Ao42, co42, eo42⟩ := Kd.N_slice HO385.out; subst eo42))
          go_loopg [72] kj15 (fun kq v72 w' => ∃ (x72_3 : Int), v72 = .int .i64 x72_3 ∧ Aside0 (sequiturlaw30_ShadowHolds.l0 kq l1 t382 (t382.length : Int) x72_3 = some r) ∧ Aside0 (kq ≤ kj15) ∧ Aside0 (Kd.N k62 62 w' w.heap.size (fun _ => True) (.slice Ao42 t382.length co42) t382) ∧ Aside0 (Below w.heap.size w w'))
          case atStart => exact ⟨(0), (by first | rfl | (simp; done) | (simp [*]; done)), H', ⟨Nat.le_refl _⟩, ⟨by (with_reducible repeat (first | apply nA | apply nN | apply nD)); exact Kd.N_mono HO385.out (fun _ hk => trivial)⟩, ⟨zo HB⟩⟩
          case round =>
           clear H'; try clear c1; try clear c2; try clear p2
           try clear c3; try clear c4; try clear p6; try clear c8
           try clear c9; try clear c12; try clear c13; try clear c14
           try clear c16; try clear c19; try clear c19b0; try clear c19b1
           try clear c20; try clear c20b0; try clear c20b1; try clear c27
           try clear c30; try clear c31; try clear c34; try clear c35
           try clear c36; try clear c36b0; try clear c36b1; try clear p2; try clear p6
           obtain ⟨x72_3, rfl, HA, HK3, HO_70, HB⟩ := hrel
           cases gk with
           | zero => exact absurd HA.out (by simp [sequiturlaw30_ShadowHolds.l0])
           | succ k3 =>
            have H := HA.out; clear HA
            simp only [sequiturlaw30_ShadowHolds.l0] at H
            by_cases c43 : x72_3 < (t382.length : Int)
            ·rw [if_pos c43] at H
             have c43b0 : decide (x72_3 < (t382.length : Int)) = true := decide_eq_true c43
             clear c43
             by_cases c44 : 0 ≤ x72_3
             ·rw [if_pos c44] at H
              have c44b0 : decide (0 ≤ x72_3) = true := decide_eq_true c44; clear c44
              by_cases c45 : x72_3 < (t382.length : Int)
              ·rw [if_pos c45] at H
               have c45b0 : decide (x72_3 < (t382.length : Int)) = true := decide_eq_true c45
               clear c45; replace H := Option.bind_eq_some_iff.mp H
               obtain ⟨⟨t388, t389⟩, A460, H⟩ := H
               replace H : (if t389 = 0 then (if t388 = 0 then (some true) else (sequiturlaw30_ShadowHolds.l0 k3 l1 t382 (t382.length : Int) (wrap64 (x72_3 + 1)))) else (sequiturlaw30_ShadowHolds.l0 k3 l1 t382 (t382.length : Int) (wrap64 (x72_3 + 1)))) = some r := H
               have A46 := zK A460; clear A460
               by_cases c47 : t389 = 0
               ·rw [if_pos c47] at H
                have c47b0 : (t389 == 0) = true := beq_iff_eq.mpr c47
                have c47b1 : (t389 != 0) = false := bne_eq_false_iff_eq.mpr c47; clear c47
                by_cases c48 : t388 = 0
                ·rw [if_pos c48] at H
                 have c48b0 : (t388 == 0) = true := beq_iff_eq.mpr c48
                 have c48b1 : (t388 != 0) = false := bne_eq_false_iff_eq.mpr c48; clear c48
                 obtain rfl := Option.some.inj H
                 have p386 : 0 ≤ (x72_3 : Int) := of_decide_eq_true (by first | (with_reducible assumption) | assumption)
                 have q386 : x72_3 < (t382.length : Int) := of_decide_eq_true (by first | (with_reducible assumption) | assumption)
                 obtain ⟨ad386, A386_1, c386_1, e386, hx386_0, hx386_1, hl386_1, hi386_1⟩ := at_T62 (Kd.N_reads' HO_70.out).2.2 x72_3 p386 q386
                 cases e386
                 obtain ⟨ce386, hce386, hMe386, hcc386⟩ := Kd.N_get HO_70.out z62 x72_3 p386 (by first | exact q386 | exact of_decide_eq_true (by first | (with_reducible assumption) | assumption) | (have e_ := (Kd.N_reads' HO_70.out).1; omega))
                 obtain ⟨ua386_1, uc386_1, rfl, ul386_1, ge386_1⟩ := k62_openF hMe386
                 have hv386_1 := hcc386 1 _ rfl
                 rw [add_field _ _ 1 (by omega)] at hv386_1
                 replace hv386_1 := Option.some.inj (hv386_1.symm.trans hx386_1)
                 injection hv386_1 with hva_ hvn_ hvc_
                 rw [hva_] at ge386_1
                 rw [hvc_] at ul386_1
                 have HL386_1 := zK (show Kd.V k68 68 _ w.heap.size _ _ ((rd_T62 t382 x72_3).f1) from Kd.V_mk ul386_1 ge386_1)
                 clear hva_ hvn_ hvc_ ge386_1 ul386_1 hcc386 hce386
                 have HR386_1 := zK hi386_1
                 have HC386_1 := zK hl386_1; clear hi386_1 hl386_1
                 replace p386 := eq_true p386
                 replace q386 := eq_true q386
                 go_wp2_with (first | ((with_reducible refine gate_dst (N := 13) rfl ?_); refine box_event ?hg (N := 13) ?hd (cs := #[.int .i64 0, .slice none 0 0]) (t := 62) ?hr ?_; (case hd => rfl); (case hg => rfl); (case hr => first | (go_simp; done) | (go_simp; rfl)); intro gb387 hg w49 hbox hb; replace HO_70 := zK (Kd.N_below (Kd.N_elderB (zn HO_70) gb387 (Nat.le_of_eq hg.symm)) hb); replace HL386_1 := zK (Kd.V_below (Kd.V_elderB (zv HL386_1) gb387 (Nat.le_of_eq hg.symm)) hb); replace HR386_1 := zK (Kd.C_below (by repeat (first | (with_reducible exact HR386_1.out) | (with_reducible refine cA ?_ _) | (with_reducible refine cN ?_ _) | (with_reducible refine cD ?_) | exact HR386_1.out)) hb); have BK387 := zK (hbox); have GW387 := zK ((by rw [hg]; exact (below_size (zo HB)) : w.heap.size ≤ gb387)); have GE387 := zK ((by rw [hg]; exact (below_size (zo HB)) : w.heap.size ≤ gb387)); replace HB := zK (below_step (zo HB) hb); clear hb hbox hg; have hcz50_0 : w49.cell? ⟨gb387, 0, none⟩ = some (.int .i64 0) := (blk_cell BK387.out 0).trans rfl; have hcz50_1 : w49.cell? ⟨gb387, 1, none⟩ = some (.slice none 0 0) := (blk_cell BK387.out 1).trans rfl; have hfz50_0 := blk_frozen BK387.out 0; have hfz50_1 := blk_frozen BK387.out 1) | ((with_reducible refine zC (f := 37) rfl ?_); refine goesL_ (some 79) rfl rfl Try.func37 (by kernel_rfl) rfl #[.agg #[.int .i64 ((rd_T62 t382 x72_3).f0), .slice A386_1 ((rd_T62 t382 x72_3).f1).length c386_1], .slice A1 l1.length c1] rfl (by (try simp only [List.map_toArray, List.map_cons, List.map_nil]); first | done | rfl | (simp only [List.length_drop, List.length_take]; rfl)) ?_; (with_reducible refine (sequiturref27_Eval.calls k3 ((rd_T62 t382 x72_3).f0) _ _ ((rd_T62 t382 x72_3).f1) _ _ l1 t388 t389 _ ?side1 ?side2 ?side3 ?side4 A46.out).mono ?_); (case side1 => repeat (first | exact ((Kd.V_reads' (by (with_reducible repeat (first | apply vA | apply vN | apply vD)); exact (vM (vF (p := ⟨gb387, 1, none⟩) (vF (p := ⟨gb387, 0, none⟩) (vM HL386_1.out (fun k_ hk => (⟨hk, hk.2⟩ : _ ∧ k_ ≠ gb387))) (fun _ hk => hk.2) (.int .i64 ((rd_T62 t382 x72_3).f0))) (fun _ hk => hk.2) (.slice A386_1 ((rd_T62 t382 x72_3).f1).length c386_1)) (fun _ h_ => h_.1)))).2.2) | (with_reducible refine cA ?_ _) | (with_reducible refine cN ?_ _) | (with_reducible refine cD ?_))); (case side2 => exact HC386_1.out); (case side3 => exact Kd.C_below HR1.out (zo HB)); (case side4 => exact HC1.out); rintro e w51 ⟨rfl, hb⟩; refine ⟨_, rfl, ?_⟩; replace HO_70 := zK (Kd.N_below (by (with_reducible repeat (first | apply nA | apply nN | apply nD)); exact (Kd.N_mono (Kd.N_far (p := ⟨gb387, 1, none⟩) (Kd.N_far (p := ⟨gb387, 0, none⟩) (Kd.N_mono HO_70.out (fun k_ hk => (⟨hk, hk.2⟩ : _ ∧ k_ ≠ gb387))) (fun _ hk => hk.2) (.int .i64 ((rd_T62 t382 x72_3).f0))) (fun _ hk => hk.2) (.slice A386_1 ((rd_T62 t382 x72_3).f1).length c386_1)) (fun _ h_ => h_.1))) hb); replace HR386_1 := zK (Kd.C_below ((Kd.V_reads' (by (with_reducible repeat (first | apply vA | apply vN | apply vD)); exact (vM (vF (p := ⟨gb387, 1, none⟩) (vF (p := ⟨gb387, 0, none⟩) (vM HL386_1.out (fun k_ hk => (⟨hk, hk.2⟩ : _ ∧ k_ ≠ gb387))) (fun _ hk => hk.2) (.int .i64 ((rd_T62 t382 x72_3).f0))) (fun _ hk => hk.2) (.slice A386_1 ((rd_T62 t382 x72_3).f1).length c386_1)) (fun _ h_ => h_.1)))).2.2) hb); replace HL386_1 := zK (Kd.V_below (by (with_reducible repeat (first | apply vA | apply vN | apply vD)); exact (vM (vF (p := ⟨gb387, 1, none⟩) (vF (p := ⟨gb387, 0, none⟩) (vM HL386_1.out (fun k_ hk => (⟨hk, hk.2⟩ : _ ∧ k_ ≠ gb387))) (fun _ hk => hk.2) (.int .i64 ((rd_T62 t382 x72_3).f0))) (fun _ hk => hk.2) (.slice A386_1 ((rd_T62 t382 x72_3).f1).length c386_1)) (fun _ h_ => h_.1))) hb); replace BK387 := zK (blk_below (g := gb387) (o := .cells #[.int .i64 ((rd_T62 t382 x72_3).f0), .slice A386_1 ((rd_T62 t382 x72_3).f1).length c386_1] 62 (0, 0)) (by refine zM ?_; refine blk_put (cs := #[.int .i64 ((rd_T62 t382 x72_3).f0), .slice none 0 0]) ?_ 1 _ rfl; refine zM ?_; refine blk_put (cs := #[.int .i64 0, .slice none 0 0]) ?_ 0 _ rfl; refine zM ?_; exact BK387.out) hb); replace HB := zK (below_step (zo HB) hb); (try clear hb); (try clear hb2); (try clear hk); (try clear hi)))
                 go_ret
                 exact ⟨by first | rfl | (simp [errW_none, errW_some] <;> rfl) | (simp [*, errW_none, errW_some] <;> rfl), zo HB⟩
                ·rw [if_neg c48] at H
                 have c48b0 : (t388 == 0) = false := beq_eq_false_iff_ne.mpr c48
                 have c48b1 : (t388 != 0) = true := bne_iff_ne.mpr c48
                 have H' := zK H; clear H
                 have p386 : 0 ≤ (x72_3 : Int) := of_decide_eq_true (by first | (with_reducible assumption) | assumption)
                 have q386 : x72_3 < (t382.length : Int) := of_decide_eq_true (by first | (with_reducible assumption) | assumption)
                 obtain ⟨ad386, A386_1, c386_1, e386, hx386_0, hx386_1, hl386_1, hi386_1⟩ := at_T62 (Kd.N_reads' HO_70.out).2.2 x72_3 p386 q386
                 cases e386
                 obtain ⟨ce386, hce386, hMe386, hcc386⟩ := Kd.N_get HO_70.out z62 x72_3 p386 (by first | exact q386 | exact of_decide_eq_true (by first | (with_reducible assumption) | assumption) | (have e_ := (Kd.N_reads' HO_70.out).1; omega))
                 obtain ⟨ua386_1, uc386_1, rfl, ul386_1, ge386_1⟩ := k62_openF hMe386
                 have hv386_1 := hcc386 1 _ rfl
                 rw [add_field _ _ 1 (by omega)] at hv386_1
                 replace hv386_1 := Option.some.inj (hv386_1.symm.trans hx386_1)
                 injection hv386_1 with hva_ hvn_ hvc_
                 rw [hva_] at ge386_1
                 rw [hvc_] at ul386_1
                 have HL386_1 := zK (show Kd.V k68 68 _ w.heap.size _ _ ((rd_T62 t382 x72_3).f1) from Kd.V_mk ul386_1 ge386_1)
                 clear hva_ hvn_ hvc_ ge386_1 ul386_1 hcc386 hce386
                 have HR386_1 := zK hi386_1
                 have HC386_1 := zK hl386_1; clear hi386_1 hl386_1
                 replace p386 := eq_true p386
                 replace q386 := eq_true q386
                 go_wp2_with (first | ((with_reducible refine gate_dst (N := 13) rfl ?_); refine box_event ?hg (N := 13) ?hd (cs := #[.int .i64 0, .slice none 0 0]) (t := 62) ?hr ?_; (case hd => rfl); (case hg => rfl); (case hr => first | (go_simp; done) | (go_simp; rfl)); intro gb387 hg w52 hbox hb; replace HO_70 := zK (Kd.N_below (Kd.N_elderB (zn HO_70) gb387 (Nat.le_of_eq hg.symm)) hb); replace HL386_1 := zK (Kd.V_below (Kd.V_elderB (zv HL386_1) gb387 (Nat.le_of_eq hg.symm)) hb); replace HR386_1 := zK (Kd.C_below (by repeat (first | (with_reducible exact HR386_1.out) | (with_reducible refine cA ?_ _) | (with_reducible refine cN ?_ _) | (with_reducible refine cD ?_) | exact HR386_1.out)) hb); have BK387 := zK (hbox); have GW387 := zK ((by rw [hg]; exact (below_size (zo HB)) : w.heap.size ≤ gb387)); have GE387 := zK ((by rw [hg]; exact (below_size (zo HB)) : w.heap.size ≤ gb387)); replace HB := zK (below_step (zo HB) hb); clear hb hbox hg; have hcz53_0 : w52.cell? ⟨gb387, 0, none⟩ = some (.int .i64 0) := (blk_cell BK387.out 0).trans rfl; have hcz53_1 : w52.cell? ⟨gb387, 1, none⟩ = some (.slice none 0 0) := (blk_cell BK387.out 1).trans rfl; have hfz53_0 := blk_frozen BK387.out 0; have hfz53_1 := blk_frozen BK387.out 1) | ((with_reducible refine zC (f := 37) rfl ?_); refine goesL_ (some 79) rfl rfl Try.func37 (by kernel_rfl) rfl #[.agg #[.int .i64 ((rd_T62 t382 x72_3).f0), .slice A386_1 ((rd_T62 t382 x72_3).f1).length c386_1], .slice A1 l1.length c1] rfl (by (try simp only [List.map_toArray, List.map_cons, List.map_nil]); first | done | rfl | (simp only [List.length_drop, List.length_take]; rfl)) ?_; (with_reducible refine (sequiturref27_Eval.calls k3 ((rd_T62 t382 x72_3).f0) _ _ ((rd_T62 t382 x72_3).f1) _ _ l1 t388 t389 _ ?side1 ?side2 ?side3 ?side4 A46.out).mono ?_); (case side1 => repeat (first | exact ((Kd.V_reads' (by (with_reducible repeat (first | apply vA | apply vN | apply vD)); exact (vM (vF (p := ⟨gb387, 1, none⟩) (vF (p := ⟨gb387, 0, none⟩) (vM HL386_1.out (fun k_ hk => (⟨hk, hk.2⟩ : _ ∧ k_ ≠ gb387))) (fun _ hk => hk.2) (.int .i64 ((rd_T62 t382 x72_3).f0))) (fun _ hk => hk.2) (.slice A386_1 ((rd_T62 t382 x72_3).f1).length c386_1)) (fun _ h_ => h_.1)))).2.2) | (with_reducible refine cA ?_ _) | (with_reducible refine cN ?_ _) | (with_reducible refine cD ?_))); (case side2 => exact HC386_1.out); (case side3 => exact Kd.C_below HR1.out (zo HB)); (case side4 => exact HC1.out); rintro e w54 ⟨rfl, hb⟩; refine ⟨_, rfl, ?_⟩; replace HO_70 := zK (Kd.N_below (by (with_reducible repeat (first | apply nA | apply nN | apply nD)); exact (Kd.N_mono (Kd.N_far (p := ⟨gb387, 1, none⟩) (Kd.N_far (p := ⟨gb387, 0, none⟩) (Kd.N_mono HO_70.out (fun k_ hk => (⟨hk, hk.2⟩ : _ ∧ k_ ≠ gb387))) (fun _ hk => hk.2) (.int .i64 ((rd_T62 t382 x72_3).f0))) (fun _ hk => hk.2) (.slice A386_1 ((rd_T62 t382 x72_3).f1).length c386_1)) (fun _ h_ => h_.1))) hb); replace HR386_1 := zK (Kd.C_below ((Kd.V_reads' (by (with_reducible repeat (first | apply vA | apply vN | apply vD)); exact (vM (vF (p := ⟨gb387, 1, none⟩) (vF (p := ⟨gb387, 0, none⟩) (vM HL386_1.out (fun k_ hk => (⟨hk, hk.2⟩ : _ ∧ k_ ≠ gb387))) (fun _ hk => hk.2) (.int .i64 ((rd_T62 t382 x72_3).f0))) (fun _ hk => hk.2) (.slice A386_1 ((rd_T62 t382 x72_3).f1).length c386_1)) (fun _ h_ => h_.1)))).2.2) hb); replace HL386_1 := zK (Kd.V_below (by (with_reducible repeat (first | apply vA | apply vN | apply vD)); exact (vM (vF (p := ⟨gb387, 1, none⟩) (vF (p := ⟨gb387, 0, none⟩) (vM HL386_1.out (fun k_ hk => (⟨hk, hk.2⟩ : _ ∧ k_ ≠ gb387))) (fun _ hk => hk.2) (.int .i64 ((rd_T62 t382 x72_3).f0))) (fun _ hk => hk.2) (.slice A386_1 ((rd_T62 t382 x72_3).f1).length c386_1)) (fun _ h_ => h_.1))) hb); replace BK387 := zK (blk_below (g := gb387) (o := .cells #[.int .i64 ((rd_T62 t382 x72_3).f0), .slice A386_1 ((rd_T62 t382 x72_3).f1).length c386_1] 62 (0, 0)) (by refine zM ?_; refine blk_put (cs := #[.int .i64 ((rd_T62 t382 x72_3).f0), .slice none 0 0]) ?_ 1 _ rfl; refine zM ?_; refine blk_put (cs := #[.int .i64 0, .slice none 0 0]) ?_ 0 _ rfl; refine zM ?_; exact BK387.out) hb); replace HB := zK (below_step (zo HB) hb); (try clear hb); (try clear hb2); (try clear hk); (try clear hi)))
                 go_roundg k3
                 case measure => have := HJ4.out; have := HJ15.out; have := HK3.out; omega
                 case rel => exact ⟨(wrap64 (x72_3 + 1)), (by first | rfl | (simp; done) | (simp [*]; done)), H', ⟨by have := HJ4.out; have := HJ15.out; have := HK3.out; omega⟩, ⟨by (with_reducible repeat (first | apply nA | apply nN | apply nD)); exact Kd.N_mono HO_70.out (fun _ hk => trivial)⟩, ⟨zo HB⟩⟩
               ·rw [if_neg c47] at H
                have c47b0 : (t389 == 0) = false := beq_eq_false_iff_ne.mpr c47
                have c47b1 : (t389 != 0) = true := bne_iff_ne.mpr c47
                have H' := zK H; clear H
                have p386 : 0 ≤ (x72_3 : Int) := of_decide_eq_true (by first | (with_reducible assumption) | assumption)
                have q386 : x72_3 < (t382.length : Int) := of_decide_eq_true (by first | (with_reducible assumption) | assumption)
                obtain ⟨ad386, A386_1, c386_1, e386, hx386_0, hx386_1, hl386_1, hi386_1⟩ := at_T62 (Kd.N_reads' HO_70.out).2.2 x72_3 p386 q386
                cases e386
                obtain ⟨ce386, hce386, hMe386, hcc386⟩ := Kd.N_get HO_70.out z62 x72_3 p386 (by first | exact q386 | exact of_decide_eq_true (by first | (with_reducible assumption) | assumption) | (have e_ := (Kd.N_reads' HO_70.out).1; omega))
                obtain ⟨ua386_1, uc386_1, rfl, ul386_1, ge386_1⟩ := k62_openF hMe386
                have hv386_1 := hcc386 1 _ rfl
                rw [add_field _ _ 1 (by omega)] at hv386_1
                replace hv386_1 := Option.some.inj (hv386_1.symm.trans hx386_1)
                injection hv386_1 with hva_ hvn_ hvc_
                rw [hva_] at ge386_1
                rw [hvc_] at ul386_1
                have HL386_1 := zK (show Kd.V k68 68 _ w.heap.size _ _ ((rd_T62 t382 x72_3).f1) from Kd.V_mk ul386_1 ge386_1)
                clear hva_ hvn_ hvc_ ge386_1 ul386_1 hcc386 hce386
                have HR386_1 := zK hi386_1
                have HC386_1 := zK hl386_1; clear hi386_1 hl386_1
                replace p386 := eq_true p386
                replace q386 := eq_true q386
                go_wp2_with (first | ((with_reducible refine gate_dst (N := 13) rfl ?_); refine box_event ?hg (N := 13) ?hd (cs := #[.int .i64 0, .slice none 0 0]) (t := 62) ?hr ?_; (case hd => rfl); (case hg => rfl); (case hr => first | (go_simp; done) | (go_simp; rfl)); intro gb387 hg w55 hbox hb; replace HO_70 := zK (Kd.N_below (Kd.N_elderB (zn HO_70) gb387 (Nat.le_of_eq hg.symm)) hb); replace HL386_1 := zK (Kd.V_below (Kd.V_elderB (zv HL386_1) gb387 (Nat.le_of_eq hg.symm)) hb); replace HR386_1 := zK (Kd.C_below (by repeat (first | (with_reducible exact HR386_1.out) | (with_reducible refine cA ?_ _) | (with_reducible refine cN ?_ _) | (with_reducible refine cD ?_) | exact HR386_1.out)) hb); have BK387 := zK (hbox); have GW387 := zK ((by rw [hg]; exact (below_size (zo HB)) : w.heap.size ≤ gb387)); have GE387 := zK ((by rw [hg]; exact (below_size (zo HB)) : w.heap.size ≤ gb387)); replace HB := zK (below_step (zo HB) hb); clear hb hbox hg; have hcz56_0 : w55.cell? ⟨gb387, 0, none⟩ = some (.int .i64 0) := (blk_cell BK387.out 0).trans rfl; have hcz56_1 : w55.cell? ⟨gb387, 1, none⟩ = some (.slice none 0 0) := (blk_cell BK387.out 1).trans rfl; have hfz56_0 := blk_frozen BK387.out 0; have hfz56_1 := blk_frozen BK387.out 1) | ((with_reducible refine zC (f := 37) rfl ?_); refine goesL_ (some 79) rfl rfl Try.func37 (by kernel_rfl) rfl #[.agg #[.int .i64 ((rd_T62 t382 x72_3).f0), .slice A386_1 ((rd_T62 t382 x72_3).f1).length c386_1], .slice A1 l1.length c1] rfl (by (try simp only [List.map_toArray, List.map_cons, List.map_nil]); first | done | rfl | (simp only [List.length_drop, List.length_take]; rfl)) ?_; (with_reducible refine (sequiturref27_Eval.calls k3 ((rd_T62 t382 x72_3).f0) _ _ ((rd_T62 t382 x72_3).f1) _ _ l1 t388 t389 _ ?side1 ?side2 ?side3 ?side4 A46.out).mono ?_); (case side1 => repeat (first | exact ((Kd.V_reads' (by (with_reducible repeat (first | apply vA | apply vN | apply vD)); exact (vM (vF (p := ⟨gb387, 1, none⟩) (vF (p := ⟨gb387, 0, none⟩) (vM HL386_1.out (fun k_ hk => (⟨hk, hk.2⟩ : _ ∧ k_ ≠ gb387))) (fun _ hk => hk.2) (.int .i64 ((rd_T62 t382 x72_3).f0))) (fun _ hk => hk.2) (.slice A386_1 ((rd_T62 t382 x72_3).f1).length c386_1)) (fun _ h_ => h_.1)))).2.2) | (with_reducible refine cA ?_ _) | (with_reducible refine cN ?_ _) | (with_reducible refine cD ?_))); (case side2 => exact HC386_1.out); (case side3 => exact Kd.C_below HR1.out (zo HB)); (case side4 => exact HC1.out); rintro e w57 ⟨rfl, hb⟩; refine ⟨_, rfl, ?_⟩; replace HO_70 := zK (Kd.N_below (by (with_reducible repeat (first | apply nA | apply nN | apply nD)); exact (Kd.N_mono (Kd.N_far (p := ⟨gb387, 1, none⟩) (Kd.N_far (p := ⟨gb387, 0, none⟩) (Kd.N_mono HO_70.out (fun k_ hk => (⟨hk, hk.2⟩ : _ ∧ k_ ≠ gb387))) (fun _ hk => hk.2) (.int .i64 ((rd_T62 t382 x72_3).f0))) (fun _ hk => hk.2) (.slice A386_1 ((rd_T62 t382 x72_3).f1).length c386_1)) (fun _ h_ => h_.1))) hb); replace HR386_1 := zK (Kd.C_below ((Kd.V_reads' (by (with_reducible repeat (first | apply vA | apply vN | apply vD)); exact (vM (vF (p := ⟨gb387, 1, none⟩) (vF (p := ⟨gb387, 0, none⟩) (vM HL386_1.out (fun k_ hk => (⟨hk, hk.2⟩ : _ ∧ k_ ≠ gb387))) (fun _ hk => hk.2) (.int .i64 ((rd_T62 t382 x72_3).f0))) (fun _ hk => hk.2) (.slice A386_1 ((rd_T62 t382 x72_3).f1).length c386_1)) (fun _ h_ => h_.1)))).2.2) hb); replace HL386_1 := zK (Kd.V_below (by (with_reducible repeat (first | apply vA | apply vN | apply vD)); exact (vM (vF (p := ⟨gb387, 1, none⟩) (vF (p := ⟨gb387, 0, none⟩) (vM HL386_1.out (fun k_ hk => (⟨hk, hk.2⟩ : _ ∧ k_ ≠ gb387))) (fun _ hk => hk.2) (.int .i64 ((rd_T62 t382 x72_3).f0))) (fun _ hk => hk.2) (.slice A386_1 ((rd_T62 t382 x72_3).f1).length c386_1)) (fun _ h_ => h_.1))) hb); replace BK387 := zK (blk_below (g := gb387) (o := .cells #[.int .i64 ((rd_T62 t382 x72_3).f0), .slice A386_1 ((rd_T62 t382 x72_3).f1).length c386_1] 62 (0, 0)) (by refine zM ?_; refine blk_put (cs := #[.int .i64 ((rd_T62 t382 x72_3).f0), .slice none 0 0]) ?_ 1 _ rfl; refine zM ?_; refine blk_put (cs := #[.int .i64 0, .slice none 0 0]) ?_ 0 _ rfl; refine zM ?_; exact BK387.out) hb); replace HB := zK (below_step (zo HB) hb); (try clear hb); (try clear hb2); (try clear hk); (try clear hi)))
                go_roundg k3
                case measure => have := HJ4.out; have := HJ15.out; have := HK3.out; omega
                case rel => exact ⟨(wrap64 (x72_3 + 1)), (by first | rfl | (simp; done) | (simp [*]; done)), H', ⟨by have := HJ4.out; have := HJ15.out; have := HK3.out; omega⟩, ⟨by (with_reducible repeat (first | apply nA | apply nN | apply nD)); exact Kd.N_mono HO_70.out (fun _ hk => trivial)⟩, ⟨zo HB⟩⟩
              ·rw [if_neg c45] at H
               exact absurd H (by simp)
             ·rw [if_neg c44] at H
              exact absurd H (by simp)
            ·rw [if_neg c43] at H
             exact absurd H (by simp)
         ·rw [if_neg c36] at H
          have c36b0 : (t383 == 0) = false := beq_eq_false_iff_ne.mpr c36
          have c36b1 : (t383 != 0) = true := bne_iff_ne.mpr c36
          obtain rfl := Option.some.inj H
          obtain ⟨Ao58, co58, eo58⟩ := Kd.N_slice HO_8.out
          subst eo58
          go_wp2_with (first | ((with_reducible refine zC (f := 36) rfl ?_); refine goesL_ (some 57) rfl rfl Try.func36 (by kernel_rfl) rfl #[.slice Ao58 t370.length co58] rfl (by (try simp only [List.map_toArray, List.map_cons, List.map_nil]); first | done | rfl | (simp only [List.length_drop, List.length_take]; rfl)) ?_; (with_reducible refine (sequiturlaw30_plain.calls kj15 (fun k_ => True) _ _ t370 t378 _ ?side1 A28.out).mono ?_); (case side1 => exact Kd.N_V (HO_8.out)); rintro e w59 ⟨v379, rfl, ho0, hb⟩; refine ⟨_, rfl, ?_⟩; replace HO_8 := zK (Kd.N_elder' (zn HO_8) (Kd.N_base ho0) hb); have HO380 := zK (Kd.N_lower (Kd.N_mono (ok' := fun k_ => True) ho0 (fun k_ hk_ => trivial)) (below_size (zo HB))); replace HB := zK (below_step (zo HB) hb); (try clear hb); (try clear hb2); (try clear hk); (try clear hi); (try clear ho0); obtain ⟨Ao60, co60, eo60⟩ := Kd.N_slice HO380.out; subst eo60) | ((with_reducible refine zC (f := 35) rfl ?_); refine goesL_ (some 59) rfl rfl Try.func35 (by kernel_rfl) rfl #[.slice Ao60 t378.length co60, .slice A1 l1.length c1] rfl (by (try simp only [List.map_toArray, List.map_cons, List.map_nil]); first | done | rfl | (simp only [List.length_drop, List.length_take]; rfl)) ?_; (with_reducible refine (sequiturref30_Holds.calls kj15 _ _ t378 _ _ l1 false _ ?side1 ?side2 ?side3 ?side4 A29.out).mono ?_); (case side1 => repeat (first | exact (Kd.N_reads' HO380.out).2.2 | (with_reducible refine cA ?_ _) | (with_reducible refine cN ?_ _) | (with_reducible refine cD ?_))); (case side2 => exact (Kd.N_reads' HO380.out).2.1); (case side3 => repeat (first | exact (Kd.C_below HR1.out HB.out) | (with_reducible refine cA ?_ _) | (with_reducible refine cN ?_ _) | (with_reducible refine cD ?_))); (case side4 => exact HC1.out); rintro e w61 ⟨rfl, hb⟩; refine ⟨_, rfl, ?_⟩; replace HO_8 := zK (Kd.N_below (zn HO_8) hb); replace HO380 := zK (Kd.N_below (zn HO380) hb); replace HB := zK (below_step (zo HB) hb); (try clear hb); (try clear hb2); (try clear hk); (try clear hi)) | ((with_reducible refine zC (f := 31) rfl ?_); refine goesL_ (some 63) rfl rfl Try.func31 (by kernel_rfl) rfl #[.slice A0 l0.length c0, .int .i64 (wrap64 ((l1.length : Int) - 1))] rfl (by (try simp only [List.map_toArray, List.map_cons, List.map_nil]); first | done | rfl | (simp only [List.length_drop, List.length_take]; rfl)) ?_; (with_reducible refine (shadow_Splits.calls kj15 _ _ l0 (wrap64 ((l1.length : Int) - 1)) t382 t383 _ ?side1 ?side2 A35.out).mono ?_); (case side1 => repeat (first | exact (Kd.C_below HR0.out HB.out) | (with_reducible refine cA ?_ _) | (with_reducible refine cN ?_ _) | (with_reducible refine cD ?_))); (case side2 => exact HC0.out); rintro e w62 ⟨v384, rfl, ho0, hb⟩; refine ⟨_, rfl, ?_⟩; have HO385 := zK (Kd.N_lower (Kd.N_mono (ok' := fun k_ => some k_ ≠ (.slice Ao58 t370.length co58 : Value).ownBlock ∧ some k_ ≠ (.slice Ao60 t378.length co60 : Value).ownBlock) (Kd.S_N (Kd.S_bound ho0)) (fun k_ hk_ => ⟨(Kd.fresh' (Kd.N_lt (zn HO_8)) k_ hk_.2.1), (Kd.fresh' (Kd.N_lt (zn HO380)) k_ hk_.2.1)⟩)) (below_size (zo HB))); replace HO_8 := zK (Kd.N_elder' (zn HO_8) (Kd.N_base (Kd.S_N (Kd.S_bound ho0))) hb); replace HO380 := zK (Kd.N_elder' (zn HO380) (Kd.N_base (Kd.S_N (Kd.S_bound ho0))) hb); replace HB := zK (below_step (zo HB) hb); (try clear hb); (try clear hb2); (try clear hk); (try clear hi); (try clear ho0)))
          go_ret
          exact ⟨by first | rfl | (simp [errW_none, errW_some] <;> rfl) | (simp [*, errW_none, errW_some] <;> rfl), zo HB⟩
 ·replace c4 := Bool.eq_false_iff.mpr c4
  subst c4
  have H1 : (none) = some r := by rw [if_neg (show ¬ (false = true) by decide)] at H; exact H
  clear H; have H := H1; clear H1
  exact absurd H (by simp)

end Go.Proofs.Ytkfbfgkdabljiaa.PShadowHolds
