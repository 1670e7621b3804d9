/- What the call of each function that the law reaches comes to: it answers as the plain function of the same name does, wherever that one answers; and the law itself out of its plain form. Written by a program of this session (an extended copy of the printer); no condition but what stands in each theorem. -/
import Derived.Test.YtkfbfgkdabljiaaPShadowDarkx0
import Derived.Test.YtkfbfgkdabljiaaPShadowDarkx5
import Derived.Test.YtkfbfgkdabljiaaPShadowDarkx7
import Derived.Test.YtkfbfgkdabljiaaPShadowDarkx8
import Derived.Test.YtkfbfgkdabljiaaPShadowDarkx11
namespace Go.Proofs.Ytkfbfgkdabljiaa.PShadowDark
open Go.RowKit Go.Proofs.YtkfbfgkdabljiaaW.PrintWords Go.Proofs.YtkfbfgkdabljiaaW.PrintLast Go.Proofs.YtkfbfgkdabljiaaW.PrintMore
open Go.Proofs.YtkfbfgkdabljiaaW.PrintWords renaming below_alloc → yA, pw_below_drewN → yN, below_drew1 → yD, below_set → yS, gate_callee → zC
open Go.Proofs.YtkfbfgkdabljiaaW.PrintWords.Kd renaming N_alloc → nA, N_drewN → nN, N_drew → nD, C_alloc → cA, C_drewN → cN, C_drew → cD
open Go.Proofs.YtkfbfgkdabljiaaW.PrintWords.Aside0 renaming mk → zK
attribute [local go_sem] max2_int min2_int max_two min_two max_three min_three max_four min_four   -- for this text's walks alone
set_option linter.unusedVariables false
set_option linter.unusedSimpArgs false

/-! ### sequiturlaw30_ShadowDark: function 10 -/
mutual
def sequiturlaw30_ShadowDark.j0 : Nat → List (S70) → List Int → Int → List (S72) → List (S72) → Bool → Option (Bool)
 | 0, _, _, _, _, _, _ => none
 | k + 1, x0, x1, x5, x6, x8, x42 => if x42 = true then (none) else ((sequiturlaw30_plain.f k x8).bind fun t348 => ((sequiturref30_Holds.f k t348 x1).bind fun t351 => (if t351 = true then (sequiturlaw30_ShadowDark.j1 k x0 x1 x5 false) else ((shadow_Exact.f k x0 x5).bind fun t352 => (if t352 = true then ((sequiturlaw30_plain.f k x6).bind fun t353 => ((sequiturref30_Holds.f k t353 x1).bind fun t356 => (sequiturlaw30_ShadowDark.j1 k x0 x1 x5 (!t356)))) else (sequiturlaw30_ShadowDark.j1 k x0 x1 x5 (!false)))))))
def sequiturlaw30_ShadowDark.j1 : Nat → List (S70) → List Int → Int → Bool → Option (Bool)
 | 0, _, _, _, _ => none
 | k + 1, x0, x1, x5, x59 => if x59 = true then (some true) else ((shadow_Between.f k x0 x5 x1).bind fun bt357 => ((some (([] : List Int) : List Int)).bind fun y362 => (if y362.length + x1.length < 17592186044416 then ((some (y362 ++ x1 : List Int)).bind fun y365 => (if 0 ≤ x5 then (if x5 < (y365.length : Int) then ((some (y365.set (x5 : Int).toNat bt357.1 : List Int)).bind fun y368 => (if bt357.2.2.1 = true then (if bt357.2.2.2.2 = 0 then (if bt357.2.2.2.1 = true then (if bt357.1 ≤ bt357.2.1 then ((sequiturref30_Holds.f k x0 y368).bind fun t369 => (some t369)) else (none)) else ((sequiturref30_Holds.f k x0 y368).bind fun t370 => (some t370))) else (none)) else (if bt357.2.2.2.2 = 0 then ((sequiturref30_Holds.f k x0 (y368.set (x5 : Int).toNat bt357.2.1)).bind fun t372 => (some t372)) else (none)))) else (none)) else (none))) else (none))))
end
def sequiturlaw30_ShadowDark.f (k : Nat) (l0 : List (S70)) (l1 : List Int) : Option (Bool) := (sequiturlaw30_alive.f k).bind fun t338 => (if t338 = true then ((sequiturlaw30_small.f k l0 l1).bind fun t339 => (if t339 = true then ((shadow_Real.f k l0 (wrap64 ((l1.length : Int) - 1))).bind fun bt340 => ((shadow_Dark.f k l0 (wrap64 ((l1.length : Int) - 1))).bind fun bt344 => (if bt340.2 = 0 then (sequiturlaw30_ShadowDark.j0 k l0 l1 (wrap64 ((l1.length : Int) - 1)) bt340.1 bt344.1 (bt344.2 != 0)) else (sequiturlaw30_ShadowDark.j0 k l0 l1 (wrap64 ((l1.length : Int) - 1)) bt340.1 bt344.1 true)))) else (some true))) else (none))
theorem sequiturlaw30_ShadowDark.mono_l : ∀ k, (∀ y0 y1 y2 y3 y4 y5, LeO (sequiturlaw30_ShadowDark.j0 k y0 y1 y2 y3 y4 y5) (sequiturlaw30_ShadowDark.j0 (k + 1) y0 y1 y2 y3 y4 y5)) ∧ (∀ y0 y1 y2 y3, LeO (sequiturlaw30_ShadowDark.j1 k y0 y1 y2 y3) (sequiturlaw30_ShadowDark.j1 (k + 1) y0 y1 y2 y3))
 | 0 => ⟨fun _ _ _ _ _ _ r h => by simp [sequiturlaw30_ShadowDark.j0] at h, fun _ _ _ _ r h => by simp [sequiturlaw30_ShadowDark.j1] at h⟩
 | k + 1 => by
  obtain ⟨ih0, ih1⟩ := sequiturlaw30_ShadowDark.mono_l k
  refine ⟨?_, ?_⟩
  ·intro y0 y1 y2 y3 y4 y5
   unfold sequiturlaw30_ShadowDark.j0
   repeat' first
   | (with_reducible exact ih0 _ _ _ _ _ _)
   | (with_reducible exact ih1 _ _ _ _)
   | (with_reducible exact sequiturlaw30_alive.mono _)
   | (with_reducible exact sequiturlaw30_plain.mono _ _)
   | (with_reducible exact sequiturlaw30_small.mono _ _ _)
   | (with_reducible exact sequiturref30_Holds.mono _ _ _)
   | (with_reducible exact shadow_Between.mono _ _ _ _)
   | (with_reducible exact shadow_Dark.mono _ _ _)
   | (with_reducible exact shadow_Exact.mono _ _ _)
   | (with_reducible exact shadow_Real.mono _ _ _)
   | (with_reducible exact LeO.refl _)
   | (with_reducible exact LeO.none _)
   | (with_reducible refine LeO.ite ?_ ?_)
   | (with_reducible refine LeO.bind ?_ (fun _ => ?_))
   | exact ih0 _ _ _ _ _ _
   | exact ih1 _ _ _ _
   | exact sequiturlaw30_alive.mono _
   | exact sequiturlaw30_plain.mono _ _
   | exact sequiturlaw30_small.mono _ _ _
   | exact sequiturref30_Holds.mono _ _ _
   | exact shadow_Between.mono _ _ _ _
   | exact shadow_Dark.mono _ _ _
   | exact shadow_Exact.mono _ _ _
   | exact shadow_Real.mono _ _ _
   | exact LeO.none _
   | refine LeO.ite ?_ ?_
   | refine LeO.bind ?_ (fun _ => ?_)
  ·intro y0 y1 y2 y3
   unfold sequiturlaw30_ShadowDark.j1
   repeat' first
   | (with_reducible exact ih0 _ _ _ _ _ _)
   | (with_reducible exact ih1 _ _ _ _)
   | (with_reducible exact sequiturlaw30_alive.mono _)
   | (with_reducible exact sequiturlaw30_plain.mono _ _)
   | (with_reducible exact sequiturlaw30_small.mono _ _ _)
   | (with_reducible exact sequiturref30_Holds.mono _ _ _)
   | (with_reducible exact shadow_Between.mono _ _ _ _)
   | (with_reducible exact shadow_Dark.mono _ _ _)
   | (with_reducible exact shadow_Exact.mono _ _ _)
   | (with_reducible exact shadow_Real.mono _ _ _)
   | (with_reducible exact LeO.refl _)
   | (with_reducible exact LeO.none _)
   | (with_reducible refine LeO.ite ?_ ?_)
   | (with_reducible refine LeO.bind ?_ (fun _ => ?_))
   | exact ih0 _ _ _ _ _ _
   | exact ih1 _ _ _ _
   | exact sequiturlaw30_alive.mono _
   | exact sequiturlaw30_plain.mono _ _
   | exact sequiturlaw30_small.mono _ _ _
   | exact sequiturref30_Holds.mono _ _ _
   | exact shadow_Between.mono _ _ _ _
   | exact shadow_Dark.mono _ _ _
   | exact shadow_Exact.mono _ _ _
   | exact shadow_Real.mono _ _ _
   | exact LeO.none _
   | refine LeO.ite ?_ ?_
   | refine LeO.bind ?_ (fun _ => ?_)
theorem sequiturlaw30_ShadowDark.mono : ∀ a0 a1 k, LeO (sequiturlaw30_ShadowDark.f k a0 a1) (sequiturlaw30_ShadowDark.f (k + 1) a0 a1) := by
 intro a0 a1 k
 obtain ⟨ih0, ih1⟩ := sequiturlaw30_ShadowDark.mono_l k
 unfold sequiturlaw30_ShadowDark.f
 repeat' first
   | (with_reducible exact ih0 _ _ _ _ _ _)
   | (with_reducible exact ih1 _ _ _ _)
   | (with_reducible exact sequiturlaw30_alive.mono _)
   | (with_reducible exact sequiturlaw30_plain.mono _ _)
   | (with_reducible exact sequiturlaw30_small.mono _ _ _)
   | (with_reducible exact sequiturref30_Holds.mono _ _ _)
   | (with_reducible exact shadow_Between.mono _ _ _ _)
   | (with_reducible exact shadow_Dark.mono _ _ _)
   | (with_reducible exact shadow_Exact.mono _ _ _)
   | (with_reducible exact shadow_Real.mono _ _ _)
   | (with_reducible exact LeO.refl _)
   | (with_reducible exact LeO.none _)
   | (with_reducible refine LeO.ite ?_ ?_)
   | (with_reducible refine LeO.bind ?_ (fun _ => ?_))
   | exact ih0 _ _ _ _ _ _
   | exact ih1 _ _ _ _
   | exact sequiturlaw30_alive.mono _
   | exact sequiturlaw30_plain.mono _ _
   | exact sequiturlaw30_small.mono _ _ _
   | exact sequiturref30_Holds.mono _ _ _
   | exact shadow_Between.mono _ _ _ _
   | exact shadow_Dark.mono _ _ _
   | exact shadow_Exact.mono _ _ _
   | exact shadow_Real.mono _ _ _
   | exact LeO.none _
   | refine LeO.ite ?_ ?_
   | refine LeO.bind ?_ (fun _ => ?_)
set_option maxHeartbeats 8000000 in
set_option maxRecDepth 100000 in
theorem sequiturlaw30_ShadowDark.calls (k : Nat) (A0 : Option Addr) (c0 : Nat) (l0 : List (S70)) (A1 : Option Addr) (c1 : Nat) (l1 : List Int) (r : Bool) (w : World) (hr0 : Kd.C k70 w A0 l0.length l0) (hc0 : l0.length ≤ c0) (hr1 : Kd.C (Kd.int .i64) w A1 l1.length l1) (hc1 : l1.length ≤ c1) (h : sequiturlaw30_ShadowDark.f k l0 l1 = some r) :
  Calls Try.prog 10 #[.slice A0 l0.length c0, .slice A1 l1.length c1] w fun e w' => e = .returned (.bool r) ∧ Below w.heap.size w w' := by
 have HR0 := zK hr0
 have HC0 := zK hc0; clear hr0 hc0
 have HR1 := zK hr1
 have HC1 := zK hc1; clear hr1 hc1
 have HB := zK (Below.refl w.heap.size w)
 have H : ((sequiturlaw30_alive.f k).bind fun t338 => (if t338 = true then ((sequiturlaw30_small.f k l0 l1).bind fun t339 => (if t339 = true then ((shadow_Real.f k l0 (wrap64 ((l1.length : Int) - 1))).bind fun bt340 => ((shadow_Dark.f k l0 (wrap64 ((l1.length : Int) - 1))).bind fun bt344 => (if bt340.2 = 0 then (sequiturlaw30_ShadowDark.j0 k l0 l1 (wrap64 ((l1.length : Int) - 1)) bt340.1 bt344.1 (bt344.2 != 0)) else (sequiturlaw30_ShadowDark.j0 k l0 l1 (wrap64 ((l1.length : Int) - 1)) bt340.1 bt344.1 true)))) else (some true))) else (none))) = some r := h
 clear h; replace H := Option.bind_eq_some_iff.mp H
 obtain ⟨t338, A30, H⟩ := H
 replace H : (if t338 = true then ((sequiturlaw30_small.f k l0 l1).bind fun t339 => (if t339 = true then ((shadow_Real.f k l0 (wrap64 ((l1.length : Int) - 1))).bind fun bt340 => ((shadow_Dark.f k l0 (wrap64 ((l1.length : Int) - 1))).bind fun bt344 => (if bt340.2 = 0 then (sequiturlaw30_ShadowDark.j0 k l0 l1 (wrap64 ((l1.length : Int) - 1)) bt340.1 bt344.1 (bt344.2 != 0)) else (sequiturlaw30_ShadowDark.j0 k l0 l1 (wrap64 ((l1.length : Int) - 1)) bt340.1 bt344.1 true)))) else (some true))) else (none)) = some r := H
 have A3 := zK A30; clear A30
 by_cases c4 : t338 = true
 ·subst c4
  have H1 : ((sequiturlaw30_small.f k l0 l1).bind fun t339 => (if t339 = true then ((shadow_Real.f k l0 (wrap64 ((l1.length : Int) - 1))).bind fun bt340 => ((shadow_Dark.f k l0 (wrap64 ((l1.length : Int) - 1))).bind fun bt344 => (if bt340.2 = 0 then (sequiturlaw30_ShadowDark.j0 k l0 l1 (wrap64 ((l1.length : Int) - 1)) bt340.1 bt344.1 (bt344.2 != 0)) else (sequiturlaw30_ShadowDark.j0 k l0 l1 (wrap64 ((l1.length : Int) - 1)) bt340.1 bt344.1 true)))) else (some true))) = some r := by rw [if_pos rfl] at H; exact H
  clear H; have H := H1
  clear H1; replace H := Option.bind_eq_some_iff.mp H
  obtain ⟨t339, A50, H⟩ := H
  replace H : (if t339 = true then ((shadow_Real.f k l0 (wrap64 ((l1.length : Int) - 1))).bind fun bt340 => ((shadow_Dark.f k l0 (wrap64 ((l1.length : Int) - 1))).bind fun bt344 => (if bt340.2 = 0 then (sequiturlaw30_ShadowDark.j0 k l0 l1 (wrap64 ((l1.length : Int) - 1)) bt340.1 bt344.1 (bt344.2 != 0)) else (sequiturlaw30_ShadowDark.j0 k l0 l1 (wrap64 ((l1.length : Int) - 1)) bt340.1 bt344.1 true)))) else (some true)) = some r := H
  have A5 := zK A50; clear A50
  by_cases c6 : t339 = true
  ·subst c6
   have H1 : ((shadow_Real.f k l0 (wrap64 ((l1.length : Int) - 1))).bind fun bt340 => ((shadow_Dark.f k l0 (wrap64 ((l1.length : Int) - 1))).bind fun bt344 => (if bt340.2 = 0 then (sequiturlaw30_ShadowDark.j0 k l0 l1 (wrap64 ((l1.length : Int) - 1)) bt340.1 bt344.1 (bt344.2 != 0)) else (sequiturlaw30_ShadowDark.j0 k l0 l1 (wrap64 ((l1.length : Int) - 1)) bt340.1 bt344.1 true)))) = some r := by rw [if_pos rfl] at H; exact H
   clear H; have H := H1
   clear H1; replace H := Option.bind_eq_some_iff.mp H
   obtain ⟨⟨t340, t343⟩, A70, H⟩ := H
   replace H : ((shadow_Dark.f k l0 (wrap64 ((l1.length : Int) - 1))).bind fun bt344 => (if t343 = 0 then (sequiturlaw30_ShadowDark.j0 k l0 l1 (wrap64 ((l1.length : Int) - 1)) t340 bt344.1 (bt344.2 != 0)) else (sequiturlaw30_ShadowDark.j0 k l0 l1 (wrap64 ((l1.length : Int) - 1)) t340 bt344.1 true))) = some r := H
   have A7 := zK A70; clear A70; replace H := Option.bind_eq_some_iff.mp H
   obtain ⟨⟨t344, t347⟩, A80, H⟩ := H
   replace H : (if t343 = 0 then (sequiturlaw30_ShadowDark.j0 k l0 l1 (wrap64 ((l1.length : Int) - 1)) t340 t344 (t347 != 0)) else (sequiturlaw30_ShadowDark.j0 k l0 l1 (wrap64 ((l1.length : Int) - 1)) t340 t344 true)) = some r := H
   have A8 := zK A80; clear A80
   have HC9 := zK H; clear H
   go_enter Try.func10, Try.ntmps10
   go_upto_region 8 with (first | ((with_reducible refine zC (f := 12) rfl ?_); refine goesL_ (some 16) rfl rfl Try.func12 (by kernel_rfl) rfl #[] rfl (by (try simp only [List.map_toArray, List.map_cons, List.map_nil]); first | done | rfl | (simp only [List.length_drop, List.length_take]; rfl)) ?_; (with_reducible refine (sequiturlaw30_alive.calls k  true _ A3.out).mono ?_); rintro e w10 ⟨rfl, hb⟩; refine ⟨_, rfl, ?_⟩; replace HB := zK (below_step (zo HB) hb); (try clear hb); (try clear hb2); (try clear hk); (try clear hi)) | ((with_reducible refine zC (f := 34) rfl ?_); refine goesL_ (some 20) rfl rfl Try.func34 (by kernel_rfl) rfl #[.slice A0 l0.length c0, .slice A1 l1.length c1] rfl (by (try simp only [List.map_toArray, List.map_cons, List.map_nil]); first | done | rfl | (simp only [List.length_drop, List.length_take]; rfl)) ?_; (with_reducible refine (sequiturlaw30_small.calls k _ _ l0 _ _ l1 true _ ?side1 ?side2 ?side3 ?side4 A5.out).mono ?_); (case side1 => repeat (first | exact (Kd.C_below HR0.out HB.out) | (with_reducible refine cA ?_ _) | (with_reducible refine cN ?_ _) | (with_reducible refine cD ?_))); (case side2 => exact HC0.out); (case side3 => repeat (first | exact (Kd.C_below HR1.out HB.out) | (with_reducible refine cA ?_ _) | (with_reducible refine cN ?_ _) | (with_reducible refine cD ?_))); (case side4 => exact HC1.out); rintro e w11 ⟨rfl, hb⟩; refine ⟨_, rfl, ?_⟩; replace HB := zK (below_step (zo HB) hb); (try clear hb); (try clear hb2); (try clear hk); (try clear hi)) | ((with_reducible refine zC (f := 14) rfl ?_); refine goesL_ (some 28) rfl rfl Try.func14 (by kernel_rfl) rfl #[.slice A0 l0.length c0, .int .i64 (wrap64 ((l1.length : Int) - 1))] rfl (by (try simp only [List.map_toArray, List.map_cons, List.map_nil]); first | done | rfl | (simp only [List.length_drop, List.length_take]; rfl)) ?_; (with_reducible refine (shadow_Real.calls k (fun k_ => k_ < w.heap.size) _ _ l0 (wrap64 ((l1.length : Int) - 1)) t340 t343 _ ?side1 A7.out).mono ?_); (case side1 => exact Kd.V_mk HC0.out (Kd.F_below (Kd.C_F k70_heap HR0.out) (zo HB))); rintro e w12 ⟨v341, rfl, ho0, hb⟩; refine ⟨_, rfl, ?_⟩; have HO342 := zK (Kd.N_lower (Kd.N_mono (ok' := fun k_ => True) ho0 (fun k_ hk_ => trivial)) (below_size (zo HB))); replace HB := zK (below_step (zo HB) hb); (try clear hb); (try clear hb2); (try clear hk); (try clear hi); (try clear ho0)) | ((with_reducible refine zC (f := 16) rfl ?_); refine goesL_ (some 34) rfl rfl Try.func16 (by kernel_rfl) rfl #[.slice A0 l0.length c0, .int .i64 (wrap64 ((l1.length : Int) - 1))] rfl (by (try simp only [List.map_toArray, List.map_cons, List.map_nil]); first | done | rfl | (simp only [List.length_drop, List.length_take]; rfl)) ?_; (with_reducible refine (shadow_Dark.calls k (fun k_ => k_ < w.heap.size) _ _ l0 (wrap64 ((l1.length : Int) - 1)) t344 t347 _ ?side1 A8.out).mono ?_); (case side1 => exact Kd.V_mk HC0.out (Kd.F_below (Kd.C_F k70_heap HR0.out) (zo HB))); rintro e w13 ⟨v345, rfl, ho0, hb⟩; refine ⟨_, rfl, ?_⟩; have HO346 := zK (Kd.N_lower (Kd.N_mono (ok' := fun k_ => some k_ ≠ (v341 : Value).ownBlock) ho0 (fun k_ hk_ => Or.elim hk_ (fun hs_ => fun e_ => Nat.not_le.2 hs_ (Kd.N_base HO342.out k_ e_.symm)) (fun hn_ => (Kd.fresh' (Kd.N_lt (zn HO342)) k_ hn_)))) (below_size (zo HB))); replace HO342 := zK (Kd.N_elder' (zn HO342) (Kd.N_base ho0) hb); replace HB := zK (below_step (zo HB) hb); (try clear hb); (try clear hb2); (try clear hk); (try clear hi); (try clear ho0)))
   (try simp only [Act.put, List.setIfInBounds_toArray, List.set_cons_zero, List.set_cons_succ])
   go_cut [42] (fun v42 wc => ∃ (kq : Nat) (x42_8 : Bool), v42 = .bool x42_8 ∧ Aside0 (sequiturlaw30_ShadowDark.j0 kq l0 l1 (wrap64 ((l1.length : Int) - 1)) t340 t344 x42_8 = some r) ∧ Aside0 (kq ≤ k) ∧ Aside0 (Kd.N k72 72 wc w.heap.size (fun k_ => some k_ ≠ (v345 : Value).ownBlock) v341 t340) ∧ Aside0 (Kd.N k72 72 wc w.heap.size (fun k_ => some k_ ≠ (v341 : Value).ownBlock) v345 t344) ∧ Aside0 (Below w.heap.size w wc))
   case first =>
    have H := HC9.out; clear HC9
    by_cases c14 : t343 = 0
    ·rw [if_pos c14] at H
     have c14b0 : (t343 == 0) = true := beq_iff_eq.mpr c14
     have c14b1 : (t343 != 0) = false := bne_eq_false_iff_eq.mpr c14; clear c14
     (first | rw [c14b0] | (simp only [i64_w, i32_w]; rw [c14b0]) | skip)
     have H' := zK H; clear H
     go_wp2
     go_meet
     case rel => exact ⟨_, ((t347 != 0)), (by first | rfl | (simp; done) | (simp [*]; done)), H', ⟨by first | omega | exact Nat.le_refl _⟩, ⟨by (with_reducible repeat (first | apply nA | apply nN | apply nD)); exact Kd.N_mono HO342.out (fun _ hk => hk.2)⟩, ⟨zn HO346⟩, ⟨zo HB⟩⟩
    ·rw [if_neg c14] at H
     have c14b0 : (t343 == 0) = false := beq_eq_false_iff_ne.mpr c14
     have c14b1 : (t343 != 0) = true := bne_iff_ne.mpr c14
     (first | rw [c14b0] | (simp only [i64_w, i32_w]; rw [c14b0]) | skip)
     have H' := zK H; clear H
     go_wp2
     go_meet
     case rel => exact ⟨_, (true), (by first | rfl | (simp; done) | (simp [*]; done)), H', ⟨by first | omega | exact Nat.le_refl _⟩, ⟨by (with_reducible repeat (first | apply nA | apply nN | apply nD)); exact Kd.N_mono HO342.out (fun _ hk => hk.2)⟩, ⟨zn HO346⟩, ⟨zo HB⟩⟩
   case rest =>
    clear HC9; try clear c1; try clear p2; try clear c3
    try clear c4; try clear c6; try clear p6; try clear c10
    try clear c12; try clear c14; try clear c14b0; try clear c14b1
    obtain ⟨kq, x42_8, rfl, HA, HJ8, HO_6, HO_8, HB⟩ := hcut
    cases kq with
    | zero => exact absurd HA.out (by simp [sequiturlaw30_ShadowDark.j0])
    | succ kj8 =>
     have H := HA.out; clear HA
     simp only [sequiturlaw30_ShadowDark.j0] at H
     by_cases c15 : x42_8 = true
     ·subst c15
      have H1 : (none) = some r := by rw [if_pos rfl] at H; exact H
      clear H
      have H := H1; clear H1
      exact absurd H (by simp)
     ·replace c15 := Bool.eq_false_iff.mpr c15
      subst c15
      have H1 : ((sequiturlaw30_plain.f kj8 t344).bind fun t348 => ((sequiturref30_Holds.f kj8 t348 l1).bind fun t351 => (if t351 = true then (sequiturlaw30_ShadowDark.j1 kj8 l0 l1 (wrap64 ((l1.length : Int) - 1)) false) else ((shadow_Exact.f kj8 l0 (wrap64 ((l1.length : Int) - 1))).bind fun t352 => (if t352 = true then ((sequiturlaw30_plain.f kj8 t340).bind fun t353 => ((sequiturref30_Holds.f kj8 t353 l1).bind fun t356 => (sequiturlaw30_ShadowDark.j1 kj8 l0 l1 (wrap64 ((l1.length : Int) - 1)) (!t356)))) else (sequiturlaw30_ShadowDark.j1 kj8 l0 l1 (wrap64 ((l1.length : Int) - 1)) (!false))))))) = some r := by rw [if_neg (show ¬ (false = true) by decide)] at H; exact H
      clear H; have H := H1; clear H1
      have HC16 := zK H; clear H
      go_upto_region 10 with (fail)
      go_cut [59] (fun v59 wc => ∃ (kq : Nat) (x59_15 : Bool), v59 = .bool x59_15 ∧ Aside0 (sequiturlaw30_ShadowDark.j1 kq l0 l1 (wrap64 ((l1.length : Int) - 1)) x59_15 = some r) ∧ Aside0 (kq ≤ kj8) ∧ Aside0 (Below w.heap.size w wc))
      case first =>
       have H := HC16.out; clear HC16; replace H := Option.bind_eq_some_iff.mp H
       obtain ⟨t348, A170, H⟩ := H
       replace H : ((sequiturref30_Holds.f kj8 t348 l1).bind fun t351 => (if t351 = true then (sequiturlaw30_ShadowDark.j1 kj8 l0 l1 (wrap64 ((l1.length : Int) - 1)) false) else ((shadow_Exact.f kj8 l0 (wrap64 ((l1.length : Int) - 1))).bind fun t352 => (if t352 = true then ((sequiturlaw30_plain.f kj8 t340).bind fun t353 => ((sequiturref30_Holds.f kj8 t353 l1).bind fun t356 => (sequiturlaw30_ShadowDark.j1 kj8 l0 l1 (wrap64 ((l1.length : Int) - 1)) (!t356)))) else (sequiturlaw30_ShadowDark.j1 kj8 l0 l1 (wrap64 ((l1.length : Int) - 1)) (!false)))))) = some r := H
       have A17 := zK A170; clear A170; replace H := Option.bind_eq_some_iff.mp H
       obtain ⟨t351, A180, H⟩ := H
       replace H : (if t351 = true then (sequiturlaw30_ShadowDark.j1 kj8 l0 l1 (wrap64 ((l1.length : Int) - 1)) false) else ((shadow_Exact.f kj8 l0 (wrap64 ((l1.length : Int) - 1))).bind fun t352 => (if t352 = true then ((sequiturlaw30_plain.f kj8 t340).bind fun t353 => ((sequiturref30_Holds.f kj8 t353 l1).bind fun t356 => (sequiturlaw30_ShadowDark.j1 kj8 l0 l1 (wrap64 ((l1.length : Int) - 1)) (!t356)))) else (sequiturlaw30_ShadowDark.j1 kj8 l0 l1 (wrap64 ((l1.length : Int) - 1)) (!false))))) = some r := H
       have A18 := zK A180; clear A180
       by_cases c19 : t351 = true
       ·subst c19
        have H1 : (sequiturlaw30_ShadowDark.j1 kj8 l0 l1 (wrap64 ((l1.length : Int) - 1)) false) = some r := by rw [if_pos rfl] at H; exact H
        clear H; have H := H1; clear H1
        have H' := zK H; clear H
        obtain ⟨Ao20, co20, eo20⟩ := Kd.N_slice HO_8.out
        subst eo20
        go_wp2_with (first | ((with_reducible refine zC (f := 36) rfl ?_); refine goesL_ (some 44) rfl rfl Try.func36 (by kernel_rfl) rfl #[.slice Ao20 t344.length co20] rfl (by (try simp only [List.map_toArray, List.map_cons, List.map_nil]); first | done | rfl | (simp only [List.length_drop, List.length_take]; rfl)) ?_; (with_reducible refine (sequiturlaw30_plain.calls kj8 (fun k_ => some k_ ≠ (v341 : Value).ownBlock) _ _ t344 t348 _ ?side1 A17.out).mono ?_); (case side1 => exact Kd.N_V (HO_8.out)); rintro e w21 ⟨v349, rfl, ho0, hb⟩; refine ⟨_, rfl, ?_⟩; replace HO_8 := zK (Kd.N_elder' (zn HO_8) (Kd.N_base ho0) hb); have HO350 := zK (Kd.N_lower (Kd.N_mono (ok' := fun k_ => some k_ ≠ (v341 : Value).ownBlock) ho0 (fun k_ hk_ => Or.elim hk_ (fun hs_ => hs_) (fun hn_ => (Kd.fresh' (Kd.N_lt (zn HO_6)) k_ hn_)))) (below_size (zo HB))); replace HO_6 := zK (Kd.N_elder' (zn HO_6) (Kd.N_base ho0) hb); replace HB := zK (below_step (zo HB) hb); (try clear hb); (try clear hb2); (try clear hk); (try clear hi); (try clear ho0); obtain ⟨Ao22, co22, eo22⟩ := Kd.N_slice HO350.out; subst eo22) | ((with_reducible refine zC (f := 35) rfl ?_); refine goesL_ (some 46) rfl rfl Try.func35 (by kernel_rfl) rfl #[.slice Ao22 t348.length co22, .slice A1 l1.length c1] rfl (by (try simp only [List.map_toArray, List.map_cons, List.map_nil]); first | done | rfl | (simp only [List.length_drop, List.length_take]; rfl)) ?_; (with_reducible refine (sequiturref30_Holds.calls kj8 _ _ t348 _ _ l1 true _ ?side1 ?side2 ?side3 ?side4 A18.out).mono ?_); (case side1 => repeat (first | exact (Kd.N_reads' HO350.out).2.2 | (with_reducible refine cA ?_ _) | (with_reducible refine cN ?_ _) | (with_reducible refine cD ?_))); (case side2 => exact (Kd.N_reads' HO350.out).2.1); (case side3 => repeat (first | exact (Kd.C_below HR1.out HB.out) | (with_reducible refine cA ?_ _) | (with_reducible refine cN ?_ _) | (with_reducible refine cD ?_))); (case side4 => exact HC1.out); rintro e w23 ⟨rfl, hb⟩; refine ⟨_, rfl, ?_⟩; replace HO_6 := zK (Kd.N_below (zn HO_6) hb); replace HO_8 := zK (Kd.N_below (zn HO_8) hb); replace HO350 := zK (Kd.N_below (zn HO350) hb); replace HB := zK (below_step (zo HB) hb); (try clear hb); (try clear hb2); (try clear hk); (try clear hi)))
        go_meet
        case rel => exact ⟨_, (false), (by first | rfl | (simp; done) | (simp [*]; done)), H', ⟨by have := HJ8.out; first | omega | exact Nat.le_refl _⟩, ⟨zo HB⟩⟩
       ·replace c19 := Bool.eq_false_iff.mpr c19
        subst c19
        have H1 : ((shadow_Exact.f kj8 l0 (wrap64 ((l1.length : Int) - 1))).bind fun t352 => (if t352 = true then ((sequiturlaw30_plain.f kj8 t340).bind fun t353 => ((sequiturref30_Holds.f kj8 t353 l1).bind fun t356 => (sequiturlaw30_ShadowDark.j1 kj8 l0 l1 (wrap64 ((l1.length : Int) - 1)) (!t356)))) else (sequiturlaw30_ShadowDark.j1 kj8 l0 l1 (wrap64 ((l1.length : Int) - 1)) (!false)))) = some r := by rw [if_neg (show ¬ (false = true) by decide)] at H; exact H
        clear H; have H := H1
        clear H1; replace H := Option.bind_eq_some_iff.mp H
        obtain ⟨t352, A240, H⟩ := H
        replace H : (if t352 = true then ((sequiturlaw30_plain.f kj8 t340).bind fun t353 => ((sequiturref30_Holds.f kj8 t353 l1).bind fun t356 => (sequiturlaw30_ShadowDark.j1 kj8 l0 l1 (wrap64 ((l1.length : Int) - 1)) (!t356)))) else (sequiturlaw30_ShadowDark.j1 kj8 l0 l1 (wrap64 ((l1.length : Int) - 1)) (!false))) = some r := H
        have A24 := zK A240; clear A240
        by_cases c25 : t352 = true
        ·subst c25
         have H1 : ((sequiturlaw30_plain.f kj8 t340).bind fun t353 => ((sequiturref30_Holds.f kj8 t353 l1).bind fun t356 => (sequiturlaw30_ShadowDark.j1 kj8 l0 l1 (wrap64 ((l1.length : Int) - 1)) (!t356)))) = some r := by rw [if_pos rfl] at H; exact H
         clear H; have H := H1
         clear H1; replace H := Option.bind_eq_some_iff.mp H
         obtain ⟨t353, A260, H⟩ := H
         replace H : ((sequiturref30_Holds.f kj8 t353 l1).bind fun t356 => (sequiturlaw30_ShadowDark.j1 kj8 l0 l1 (wrap64 ((l1.length : Int) - 1)) (!t356))) = some r := H
         have A26 := zK A260; clear A260; replace H := Option.bind_eq_some_iff.mp H
         obtain ⟨t356, A270, H⟩ := H
         replace H : (sequiturlaw30_ShadowDark.j1 kj8 l0 l1 (wrap64 ((l1.length : Int) - 1)) (!t356)) = some r := H
         have A27 := zK A270; clear A270
         have H' := zK H; clear H
         obtain ⟨Ao28, co28, eo28⟩ := Kd.N_slice HO_8.out
         subst eo28
         go_wp2_with (first | ((with_reducible refine zC (f := 36) rfl ?_); refine goesL_ (some 44) rfl rfl Try.func36 (by kernel_rfl) rfl #[.slice Ao28 t344.length co28] rfl (by (try simp only [List.map_toArray, List.map_cons, List.map_nil]); first | done | rfl | (simp only [List.length_drop, List.length_take]; rfl)) ?_; (with_reducible refine (sequiturlaw30_plain.calls kj8 (fun k_ => some k_ ≠ (v341 : Value).ownBlock) _ _ t344 t348 _ ?side1 A17.out).mono ?_); (case side1 => exact Kd.N_V (HO_8.out)); rintro e w29 ⟨v349, rfl, ho0, hb⟩; refine ⟨_, rfl, ?_⟩; replace HO_8 := zK (Kd.N_elder' (zn HO_8) (Kd.N_base ho0) hb); have HO350 := zK (Kd.N_lower (Kd.N_mono (ok' := fun k_ => some k_ ≠ (v341 : Value).ownBlock) ho0 (fun k_ hk_ => Or.elim hk_ (fun hs_ => hs_) (fun hn_ => (Kd.fresh' (Kd.N_lt (zn HO_6)) k_ hn_)))) (below_size (zo HB))); replace HO_6 := zK (Kd.N_elder' (zn HO_6) (Kd.N_base ho0) hb); replace HB := zK (below_step (zo HB) hb); (try clear hb); (try clear hb2); (try clear hk); (try clear hi); (try clear ho0); obtain ⟨Ao30, co30, eo30⟩ := Kd.N_slice HO350.out; subst eo30) | ((with_reducible refine zC (f := 35) rfl ?_); refine goesL_ (some 46) rfl rfl Try.func35 (by kernel_rfl) rfl #[.slice Ao30 t348.length co30, .slice A1 l1.length c1] rfl (by (try simp only [List.map_toArray, List.map_cons, List.map_nil]); first | done | rfl | (simp only [List.length_drop, List.length_take]; rfl)) ?_; (with_reducible refine (sequiturref30_Holds.calls kj8 _ _ t348 _ _ l1 false _ ?side1 ?side2 ?side3 ?side4 A18.out).mono ?_); (case side1 => repeat (first | exact (Kd.N_reads' HO350.out).2.2 | (with_reducible refine cA ?_ _) | (with_reducible refine cN ?_ _) | (with_reducible refine cD ?_))); (case side2 => exact (Kd.N_reads' HO350.out).2.1); (case side3 => repeat (first | exact (Kd.C_below HR1.out HB.out) | (with_reducible refine cA ?_ _) | (with_reducible refine cN ?_ _) | (with_reducible refine cD ?_))); (case side4 => exact HC1.out); rintro e w31 ⟨rfl, hb⟩; refine ⟨_, rfl, ?_⟩; replace HO_6 := zK (Kd.N_below (zn HO_6) hb); replace HO_8 := zK (Kd.N_below (zn HO_8) hb); replace HO350 := zK (Kd.N_below (zn HO350) hb); replace HB := zK (below_step (zo HB) hb); (try clear hb); (try clear hb2); (try clear hk); (try clear hi)) | (go_at_call 18; (with_reducible refine (shadow_Exact.calls kj8 _ _ l0 (wrap64 ((l1.length : Int) - 1)) true _ ?side1 ?side2 A24.out).mono ?_); (case side1 => repeat (first | exact (Kd.C_below HR0.out HB.out) | (with_reducible refine cA ?_ _) | (with_reducible refine cN ?_ _) | (with_reducible refine cD ?_))); (case side2 => exact HC0.out); rintro e w32 ⟨rfl, hb⟩; replace HO_6 := zK (Kd.N_below (zn HO_6) hb); replace HO_8 := zK (Kd.N_below (zn HO_8) hb); replace HO350 := zK (Kd.N_below (zn HO350) hb); replace HB := zK (below_step (zo HB) hb); (try clear hb); (try clear hb2); (try clear hk); (try clear hi); obtain ⟨Ao33, co33, eo33⟩ := Kd.N_slice HO_6.out; subst eo33) | (go_at_call 36; (with_reducible refine (sequiturlaw30_plain.calls kj8 (fun k_ => (some k_ ≠ (.slice Ao28 t344.length co28 : Value).ownBlock ∧ some k_ ≠ (.slice Ao30 t348.length co30 : Value).ownBlock)) _ _ t340 t353 _ ?side1 A26.out).mono ?_); (case side1 => exact Kd.N_V (HO_6.out)); rintro e w34 ⟨v354, rfl, ho0, hb⟩; replace HO_6 := zK (Kd.N_elder' (zn HO_6) (Kd.N_base ho0) hb); have HO355 := zK (Kd.N_lower (Kd.N_mono (ok' := fun k_ => some k_ ≠ (.slice Ao28 t344.length co28 : Value).ownBlock ∧ some k_ ≠ (.slice Ao30 t348.length co30 : Value).ownBlock) ho0 (fun k_ hk_ => ⟨Or.elim hk_ (fun hs_ => hs_.1) (fun hn_ => (Kd.fresh' (Kd.N_lt (zn HO_8)) k_ hn_)), Or.elim hk_ (fun hs_ => hs_.2) (fun hn_ => (Kd.fresh' (Kd.N_lt (zn HO350)) k_ hn_))⟩)) (below_size (zo HB))); replace HO_8 := zK (Kd.N_elder' (zn HO_8) (Kd.N_base ho0) hb); replace HO350 := zK (Kd.N_elder' (zn HO350) (Kd.N_base ho0) hb); replace HB := zK (below_step (zo HB) hb); (try clear hb); (try clear hb2); (try clear hk); (try clear hi); (try clear ho0); obtain ⟨Ao35, co35, eo35⟩ := Kd.N_slice HO355.out; subst eo35) | (go_at_call 35; (with_reducible refine (sequiturref30_Holds.calls kj8 _ _ t353 _ _ l1 t356 _ ?side1 ?side2 ?side3 ?side4 A27.out).mono ?_); (case side1 => repeat (first | exact (Kd.N_reads' HO355.out).2.2 | (with_reducible refine cA ?_ _) | (with_reducible refine cN ?_ _) | (with_reducible refine cD ?_))); (case side2 => exact (Kd.N_reads' HO355.out).2.1); (case side3 => repeat (first | exact (Kd.C_below HR1.out HB.out) | (with_reducible refine cA ?_ _) | (with_reducible refine cN ?_ _) | (with_reducible refine cD ?_))); (case side4 => exact HC1.out); rintro e w36 ⟨rfl, hb⟩; replace HO_6 := zK (Kd.N_below (zn HO_6) hb); replace HO_8 := zK (Kd.N_below (zn HO_8) hb); replace HO350 := zK (Kd.N_below (zn HO350) hb); replace HO355 := zK (Kd.N_below (zn HO355) hb); replace HB := zK (below_step (zo HB) hb); (try clear hb); (try clear hb2); (try clear hk); (try clear hi)))
         go_meet
         case rel => exact ⟨_, (!t356), (by first | rfl | (simp; done) | (simp [*]; done)), H', ⟨by have := HJ8.out; first | omega | exact Nat.le_refl _⟩, ⟨zo HB⟩⟩
        ·replace c25 := Bool.eq_false_iff.mpr c25
         subst c25
         have H1 : (sequiturlaw30_ShadowDark.j1 kj8 l0 l1 (wrap64 ((l1.length : Int) - 1)) (!false)) = some r := by rw [if_neg (show ¬ (false = true) by decide)] at H; exact H
         clear H; have H := H1; clear H1
         have H' := zK H; clear H
         obtain ⟨Ao37, co37, eo37⟩ := Kd.N_slice HO_8.out
         subst eo37
         go_wp2_with (first | ((with_reducible refine zC (f := 36) rfl ?_); refine goesL_ (some 44) rfl rfl Try.func36 (by kernel_rfl) rfl #[.slice Ao37 t344.length co37] rfl (by (try simp only [List.map_toArray, List.map_cons, List.map_nil]); first | done | rfl | (simp only [List.length_drop, List.length_take]; rfl)) ?_; (with_reducible refine (sequiturlaw30_plain.calls kj8 (fun k_ => some k_ ≠ (v341 : Value).ownBlock) _ _ t344 t348 _ ?side1 A17.out).mono ?_); (case side1 => exact Kd.N_V (HO_8.out)); rintro e w38 ⟨v349, rfl, ho0, hb⟩; refine ⟨_, rfl, ?_⟩; replace HO_8 := zK (Kd.N_elder' (zn HO_8) (Kd.N_base ho0) hb); have HO350 := zK (Kd.N_lower (Kd.N_mono (ok' := fun k_ => some k_ ≠ (v341 : Value).ownBlock) ho0 (fun k_ hk_ => Or.elim hk_ (fun hs_ => hs_) (fun hn_ => (Kd.fresh' (Kd.N_lt (zn HO_6)) k_ hn_)))) (below_size (zo HB))); replace HO_6 := zK (Kd.N_elder' (zn HO_6) (Kd.N_base ho0) hb); replace HB := zK (below_step (zo HB) hb); (try clear hb); (try clear hb2); (try clear hk); (try clear hi); (try clear ho0); obtain ⟨Ao39, co39, eo39⟩ := Kd.N_slice HO350.out; subst eo39) | ((with_reducible refine zC (f := 35) rfl ?_); refine goesL_ (some 46) rfl rfl Try.func35 (by kernel_rfl) rfl #[.slice Ao39 t348.length co39, .slice A1 l1.length c1] rfl (by (try simp only [List.map_toArray, List.map_cons, List.map_nil]); first | done | rfl | (simp only [List.length_drop, List.length_take]; rfl)) ?_; (with_reducible refine (sequiturref30_Holds.calls kj8 _ _ t348 _ _ l1 false _ ?side1 ?side2 ?side3 ?side4 A18.out).mono ?_); (case side1 => repeat (first | exact (Kd.N_reads' HO350.out).2.2 | (with_reducible refine cA ?_ _) | (with_reducible refine cN ?_ _) | (with_reducible refine cD ?_))); (case side2 => exact (Kd.N_reads' HO350.out).2.1); (case side3 => repeat (first | exact (Kd.C_below HR1.out HB.out) | (with_reducible refine cA ?_ _) | (with_reducible refine cN ?_ _) | (with_reducible refine cD ?_))); (case side4 => exact HC1.out); rintro e w40 ⟨rfl, hb⟩; refine ⟨_, rfl, ?_⟩; replace HO_6 := zK (Kd.N_below (zn HO_6) hb); replace HO_8 := zK (Kd.N_below (zn HO_8) hb); replace HO350 := zK (Kd.N_below (zn HO350) hb); replace HB := zK (below_step (zo HB) hb); (try clear hb); (try clear hb2); (try clear hk); (try clear hi)) | (go_at_call 18; (with_reducible refine (shadow_Exact.calls kj8 _ _ l0 (wrap64 ((l1.length : Int) - 1)) false _ ?side1 ?side2 A24.out).mono ?_); (case side1 => repeat (first | exact (Kd.C_below HR0.out HB.out) | (with_reducible refine cA ?_ _) | (with_reducible refine cN ?_ _) | (with_reducible refine cD ?_))); (case side2 => exact HC0.out); rintro e w41 ⟨rfl, hb⟩; replace HO_6 := zK (Kd.N_below (zn HO_6) hb); replace HO_8 := zK (Kd.N_below (zn HO_8) hb); replace HO350 := zK (Kd.N_below (zn HO350) hb); replace HB := zK (below_step (zo HB) hb); (try clear hb); (try clear hb2); (try clear hk); (try clear hi)))
         go_meet
         case rel => exact ⟨_, (!false), (by first | rfl | (simp; done) | (simp [*]; done)), H', ⟨by have := HJ8.out; first | omega | exact Nat.le_refl _⟩, ⟨zo HB⟩⟩
      case rest =>
       clear HC16; try clear c1; try clear c2; try clear p2
       try clear c3; try clear c4; try clear c6; try clear p6
       try clear c10; try clear c12; try clear c14; try clear c14b0
       try clear c14b1; try clear c15; try clear c16; try clear c19
       try clear c25; try clear c34; try clear c35; try clear c36; try clear p2; try clear p6
       obtain ⟨kq, x59_15, rfl, HA, HJ15, HB⟩ := hcut
       cases kq with
       | zero => exact absurd HA.out (by simp [sequiturlaw30_ShadowDark.j1])
       | succ kj15 =>
        have H := HA.out; clear HA
        simp only [sequiturlaw30_ShadowDark.j1] at H
        by_cases c42 : x59_15 = true
        ·subst c42
         have H1 : (some true) = some r := by rw [if_pos rfl] at H; exact H
         clear H; have H := H1; clear H1
         obtain rfl := Option.some.inj H
         go_wp2
         go_ret
         exact ⟨by first | rfl | (simp [errW_none, errW_some] <;> rfl) | (simp [*, errW_none, errW_some] <;> rfl), zo HB⟩
        ·replace c42 := Bool.eq_false_iff.mpr c42
         subst c42
         have H1 : ((shadow_Between.f kj15 l0 (wrap64 ((l1.length : Int) - 1)) l1).bind fun bt357 => ((some (([] : List Int) : List Int)).bind fun y362 => (if y362.length + l1.length < 17592186044416 then ((some (y362 ++ l1 : List Int)).bind fun y365 => (if 0 ≤ (wrap64 ((l1.length : Int) - 1)) then (if (wrap64 ((l1.length : Int) - 1)) < (y365.length : Int) then ((some (y365.set ((wrap64 ((l1.length : Int) - 1)) : Int).toNat bt357.1 : List Int)).bind fun y368 => (if bt357.2.2.1 = true then (if bt357.2.2.2.2 = 0 then (if bt357.2.2.2.1 = true then (if bt357.1 ≤ bt357.2.1 then ((sequiturref30_Holds.f kj15 l0 y368).bind fun t369 => (some t369)) else (none)) else ((sequiturref30_Holds.f kj15 l0 y368).bind fun t370 => (some t370))) else (none)) else (if bt357.2.2.2.2 = 0 then ((sequiturref30_Holds.f kj15 l0 (y368.set ((wrap64 ((l1.length : Int) - 1)) : Int).toNat bt357.2.1)).bind fun t372 => (some t372)) else (none)))) else (none)) else (none))) else (none)))) = some r := by rw [if_neg (show ¬ (false = true) by decide)] at H; exact H
         clear H; have H := H1
         clear H1; replace H := Option.bind_eq_some_iff.mp H
         obtain ⟨⟨t357, t358, t359, t360, t361⟩, A430, H⟩ := H
         replace H : ((some (([] : List Int) : List Int)).bind fun y362 => (if y362.length + l1.length < 17592186044416 then ((some (y362 ++ l1 : List Int)).bind fun y365 => (if 0 ≤ (wrap64 ((l1.length : Int) - 1)) then (if (wrap64 ((l1.length : Int) - 1)) < (y365.length : Int) then ((some (y365.set ((wrap64 ((l1.length : Int) - 1)) : Int).toNat t357 : List Int)).bind fun y368 => (if t359 = true then (if t361 = 0 then (if t360 = true then (if t357 ≤ t358 then ((sequiturref30_Holds.f kj15 l0 y368).bind fun t369 => (some t369)) else (none)) else ((sequiturref30_Holds.f kj15 l0 y368).bind fun t370 => (some t370))) else (none)) else (if t361 = 0 then ((sequiturref30_Holds.f kj15 l0 (y368.set ((wrap64 ((l1.length : Int) - 1)) : Int).toNat t358)).bind fun t372 => (some t372)) else (none)))) else (none)) else (none))) else (none))) = some r := H
         have A43 := zK A430; clear A430
         obtain ⟨y362, hy362⟩ : ∃ y_ : List Int, y_ = (([] : List Int)) := ⟨_, rfl⟩
         replace H : (if y362.length + l1.length < 17592186044416 then ((some (y362 ++ l1 : List Int)).bind fun y365 => (if 0 ≤ (wrap64 ((l1.length : Int) - 1)) then (if (wrap64 ((l1.length : Int) - 1)) < (y365.length : Int) then ((some (y365.set ((wrap64 ((l1.length : Int) - 1)) : Int).toNat t357 : List Int)).bind fun y368 => (if t359 = true then (if t361 = 0 then (if t360 = true then (if t357 ≤ t358 then ((sequiturref30_Holds.f kj15 l0 y368).bind fun t369 => (some t369)) else (none)) else ((sequiturref30_Holds.f kj15 l0 y368).bind fun t370 => (some t370))) else (none)) else (if t361 = 0 then ((sequiturref30_Holds.f kj15 l0 (y368.set ((wrap64 ((l1.length : Int) - 1)) : Int).toNat t358)).bind fun t372 => (some t372)) else (none)))) else (none)) else (none))) else (none)) = some r := by first | (rw [hy362]; with_reducible exact H) | (have H2_ := (Option.bind_some _ _).symm.trans H; rw [hy362]; with_reducible exact H2_) | (have H2_ := (Option.bind_some _ _).symm.trans H; with_reducible exact H2_) | with_reducible exact H | (rw [hy362]; exact H) | exact H
         have Ny362 := zK hy362; clear hy362
         by_cases c44 : y362.length + l1.length < 17592186044416
         ·rw [if_pos c44] at H
          have LMc44 := zK c44; clear c44
          obtain ⟨y365, hy365⟩ : ∃ y_ : List Int, y_ = (y362 ++ l1) := ⟨_, rfl⟩
          replace H : (if 0 ≤ (wrap64 ((l1.length : Int) - 1)) then (if (wrap64 ((l1.length : Int) - 1)) < (y365.length : Int) then ((some (y365.set ((wrap64 ((l1.length : Int) - 1)) : Int).toNat t357 : List Int)).bind fun y368 => (if t359 = true then (if t361 = 0 then (if t360 = true then (if t357 ≤ t358 then ((sequiturref30_Holds.f kj15 l0 y368).bind fun t369 => (some t369)) else (none)) else ((sequiturref30_Holds.f kj15 l0 y368).bind fun t370 => (some t370))) else (none)) else (if t361 = 0 then ((sequiturref30_Holds.f kj15 l0 (y368.set ((wrap64 ((l1.length : Int) - 1)) : Int).toNat t358)).bind fun t372 => (some t372)) else (none)))) else (none)) else (none)) = some r := by first | (rw [hy365]; with_reducible exact H) | (have H2_ := (Option.bind_some _ _).symm.trans H; rw [hy365]; with_reducible exact H2_) | (have H2_ := (Option.bind_some _ _).symm.trans H; with_reducible exact H2_) | with_reducible exact H | (rw [hy365]; exact H) | exact H
          have Ny365 := zK hy365; clear hy365
          obtain ⟨ji45, hji45⟩ : ∃ j_ : Int, (wrap64 ((l1.length : Int) - 1)) = j_ := ⟨_, rfl⟩
          replace H : (if 0 ≤ (ji45) then (if (ji45) < (y365.length : Int) then ((some (y365.set ((ji45) : Int).toNat t357 : List Int)).bind fun y368 => (if t359 = true then (if t361 = 0 then (if t360 = true then (if t357 ≤ t358 then ((sequiturref30_Holds.f kj15 l0 y368).bind fun t369 => (some t369)) else (none)) else ((sequiturref30_Holds.f kj15 l0 y368).bind fun t370 => (some t370))) else (none)) else (if t361 = 0 then ((sequiturref30_Holds.f kj15 l0 (y368.set ((ji45) : Int).toNat t358)).bind fun t372 => (some t372)) else (none)))) else (none)) else (none)) = some r := by first | (rw [hji45] at H; exact H) | (simp only [hji45] at H ⊢; exact H)
          (try rw [hji45] at A43)
          have hji45w : (IntKind.i64.wrap ((l1.length : Int) - 1)) = ji45 := (i64_w _).trans hji45
          by_cases c46 : 0 ≤ (ji45)
          ·rw [if_pos c46] at H
           have c46b0 : decide (0 ≤ (ji45)) = true := decide_eq_true c46; clear c46
           by_cases c47 : (ji45) < (y365.length : Int)
           ·rw [if_pos c47] at H
            have c47b0 : decide ((ji45) < (y365.length : Int)) = true := decide_eq_true c47
            clear c47
            obtain ⟨y368, hy368⟩ : ∃ y_ : List Int, y_ = (y365.set ((ji45) : Int).toNat t357) := ⟨_, rfl⟩
            replace H : (if t359 = true then (if t361 = 0 then (if t360 = true then (if t357 ≤ t358 then ((sequiturref30_Holds.f kj15 l0 y368).bind fun t369 => (some t369)) else (none)) else ((sequiturref30_Holds.f kj15 l0 y368).bind fun t370 => (some t370))) else (none)) else (if t361 = 0 then ((sequiturref30_Holds.f kj15 l0 (y368.set ((ji45) : Int).toNat t358)).bind fun t372 => (some t372)) else (none))) = some r := by first | (rw [hy368]; with_reducible exact H) | (have H2_ := (Option.bind_some _ _).symm.trans H; rw [hy368]; with_reducible exact H2_) | (have H2_ := (Option.bind_some _ _).symm.trans H; with_reducible exact H2_) | with_reducible exact H | (rw [hy368]; exact H) | exact H
            have Ny368 := zK hy368; clear hy368
            by_cases c49 : t359 = true
            ·subst c49
             have H1 : (if t361 = 0 then (if t360 = true then (if t357 ≤ t358 then ((sequiturref30_Holds.f kj15 l0 y368).bind fun t369 => (some t369)) else (none)) else ((sequiturref30_Holds.f kj15 l0 y368).bind fun t370 => (some t370))) else (none)) = some r := by rw [if_pos rfl] at H; exact H
             clear H; have H := H1; clear H1
             by_cases c50 : t361 = 0
             ·rw [if_pos c50] at H
              have c50b0 : (t361 == 0) = true := beq_iff_eq.mpr c50
              have c50b1 : (t361 != 0) = false := bne_eq_false_iff_eq.mpr c50; clear c50
              by_cases c51 : t360 = true
              ·subst c51
               have H1 : (if t357 ≤ t358 then ((sequiturref30_Holds.f kj15 l0 y368).bind fun t369 => (some t369)) else (none)) = some r := by rw [if_pos rfl] at H; exact H
               clear H; have H := H1; clear H1
               by_cases c52 : t357 ≤ t358
               ·rw [if_pos c52] at H
                have c52b0 : decide (t357 ≤ t358) = true := decide_eq_true c52; clear c52
                replace H := Option.bind_eq_some_iff.mp H
                obtain ⟨t369, A530, H⟩ := H; replace H : (some t369) = some r := H
                have A53 := zK A530; clear A530
                obtain rfl := Option.some.inj H
                go_wp2_with (first | ((with_reducible refine zC (f := 29) rfl ?_); refine goesL_ (some 64) rfl rfl Try.func29 (by kernel_rfl) rfl #[.slice A0 l0.length c0, .int .i64 (ji45), .slice A1 l1.length c1] rfl (by (try simp only [List.map_toArray, List.map_cons, List.map_nil]); first | done | (simp only [hji45]; rfl) | rfl | (simp only [List.length_drop, List.length_take]; rfl)) ?_; (with_reducible refine (shadow_Between.calls kj15 _ _ l0 (ji45) _ _ l1 t357 t358 true true t361 _ ?side1 ?side2 ?side3 ?side4 A43.out).mono ?_); (case side1 => repeat (first | exact (Kd.C_below HR0.out HB.out) | (with_reducible refine cA ?_ _) | (with_reducible refine cN ?_ _) | (with_reducible refine cD ?_))); (case side2 => exact HC0.out); (case side3 => repeat (first | exact (Kd.C_below HR1.out HB.out) | (with_reducible refine cA ?_ _) | (with_reducible refine cN ?_ _) | (with_reducible refine cD ?_))); (case side4 => exact HC1.out); rintro e w54 ⟨rfl, hb⟩; refine ⟨_, rfl, ?_⟩; replace HB := zK (below_step (zo HB) hb); (try clear hb); (try clear hb2); (try clear hk); (try clear hi)) | ((with_reducible refine gate_dst (N := 70) rfl ?_); refine Kd.R_lit (Kd.int .i64) _ 2 ?hg (N := 70) ?hd (xs := ([] : List Int)) (inner := []) (ok := fun _ => True) (okp := fun _ => True) ?hr ?hp (fun _ hk => hk) trivial (Below.refl _ _) (Nat.le_refl _) (by simp) ?_; (case hd => rfl); (case hg => rfl); (case hr => first | (go_simp; done) | (go_simp; rfl)); (case hp => exact (Reps.none _ _)); intro v363 w55 ho56 hb hg_ hnew_; clear hg_ hnew_; (first | rw [← Ny362.out] at ho56 | (simp only [Int.reduceToNat] at ho56; rw [← Ny362.out] at ho56)); have HO364 := zK (Kd.R_lower ho56 (below_size (zo HB))); replace HB := zK (below_step (zo HB) hb); clear hb ho56) | ((with_reducible refine gate_builtin (b := .append) (xs := #[.tmp 70, .tmp 71]) rfl ?_); at_builtin; refine Kd.R_append_rows (Kd.int .i64) (w0 := w) w.heap.size rfl (.tmp 70) (.tmp 71) 33 2 (.int .i64 0) 8 rfl Try.underlying33 info2 rfl (by decide) (by omega) v363 y362 l1 _ _ _ (fun _ => True) (fun _ => False) rfl rfl ?aO ?aR (fun _ _ h => h) (fun _ h => h.elim) ?aF ?aB ?aS ?aL ?_; (case aR => repeat (first | exact (Kd.C_below HR1.out HB.out) | (with_reducible refine cA ?_ _) | (with_reducible refine cN ?_ _) | (with_reducible refine cD ?_))); (case aB => exact (zo HB)); (case aF => exact (fun _ _ => trivial)); (case aO => exact (zr HO364)); (case aS => exact (below_size (zo HB))); (case aL => have := LMc44.out; omega); intro v366 w57 ho hb hg hat; rw [← Ny365.out] at ho; replace HB := zK (hb); have HO367 := zK (ho); clear HO364 ho hb hg hat; have p48 : 0 ≤ ((ji45) : Int) := of_decide_eq_true (by first | (with_reducible assumption) | assumption); have q48 : ((ji45) : Int) < ((y365.length : Int) : Int) := of_decide_eq_true (by first | (with_reducible assumption) | assumption); obtain ⟨go48, co48, eo48, gb48, gl48, cl48, HG48⟩ := Kd.R_form HO367.out (by omega); (first | cases eo48 | (injection eo48 with ea_ en_ ec_; (first | subst ea_ | (injection ea_ with ea_; subst ea_)); subst ec_; clear en_)); have GB48 := zK gb48; have GG48 := zK HG48; clear gb48 gl48 HG48; obtain ⟨hx48_0, hf48_0⟩ := Kd.R_celln 0 HO367.out ((ji45) : Int) p48 q48; replace p48 := eq_true p48; replace q48 := eq_true q48; obtain ⟨hy58_, hz58_⟩ := Kd.R_celln 0 HO367.out ((ji45) : Int) (of_decide_eq_true (by first | (with_reducible assumption) | assumption)) (of_decide_eq_true (by first | (with_reducible assumption) | assumption)); have HP58 := Kd.R_putg HO367.out ((ji45) : Int) t357) | ((with_reducible refine gate_store (t := 2) (p := 76) rfl ?_); refine store_event (t := 2) (p := 76) (v := ?vo_w59) (w1 := (w57.setCell ⟨go48, ((ji45) : Int).toNat, none⟩ (.int .i64 t357))) ?hg ?ho ?hn ?hr ?_; (case ho => rfl); (case hg => rfl); (case hn => rfl); (case hr => first | (go_simp; done) | (go_simp; rfl)); intro w59 hw; have hg : w57.grownBy w59 (some go48) := (by rw [hw]; exact HP58.2); have hp_ : Kd.R (Kd.int .i64) 2 w59 w.heap.size (fun _ => True) (.slice (some ⟨go48, 0, none⟩) y365.length co48) y368 := (by rw [hw, Ny368.out]; exact HP58.1); clear HP58; replace HO367 := zK (hp_); replace HB := zK ((by rw [hw]; exact yS (HB.out) GB48.out : Below w.heap.size w w59)); clear hg hw hp_) | (go_at_call 35; refine calls_of_args (args' := #[.slice A0 l0.length c0, .slice (some ⟨go48, 0, none⟩) y368.length co48]) (by first | (rw [show y368.length = y365.length from (Kd.R_reads' HO367.out).1.symm] <;> rfl) | rfl) ?_; (with_reducible refine (sequiturref30_Holds.calls kj15 _ _ l0 _ _ y368 t369 _ ?side1 ?side2 ?side3 ?side4 A53.out).mono ?_); (case side1 => repeat (first | exact (Kd.C_below HR0.out HB.out) | (with_reducible refine cA ?_ _) | (with_reducible refine cN ?_ _) | (with_reducible refine cD ?_))); (case side2 => exact HC0.out); (case side3 => repeat (first | exact (Kd.R_reads' HO367.out).2.2 | (with_reducible refine cA ?_ _) | (with_reducible refine cN ?_ _) | (with_reducible refine cD ?_))); (case side4 => rw [show y368.length = y365.length from (Kd.R_reads' HO367.out).1.symm]; exact (Kd.R_reads' HO367.out).2.1); rintro e w60 ⟨rfl, hb⟩; replace HO367 := zK (Kd.R_below (zr HO367) hb); replace HB := zK (below_step (zo HB) hb); (try clear hb); (try clear hb2); (try clear hk); (try clear hi)))
                go_ret
                exact ⟨by first | rfl | (simp [errW_none, errW_some] <;> rfl) | (simp only [← hji45]; first | rfl | (simp [errW_none, errW_some] <;> rfl)) | (simp [*, errW_none, errW_some] <;> rfl), zo HB⟩
               ·rw [if_neg c52] at H
                exact absurd H (by simp)
              ·replace c51 := Bool.eq_false_iff.mpr c51
               subst c51
               have H1 : ((sequiturref30_Holds.f kj15 l0 y368).bind fun t370 => (some t370)) = some r := by rw [if_neg (show ¬ (false = true) by decide)] at H; exact H
               clear H; have H := H1
               clear H1; replace H := Option.bind_eq_some_iff.mp H
               obtain ⟨t370, A610, H⟩ := H; replace H : (some t370) = some r := H
               have A61 := zK A610; clear A610
               obtain rfl := Option.some.inj H
               go_wp2_with (first | ((with_reducible refine zC (f := 29) rfl ?_); refine goesL_ (some 64) rfl rfl Try.func29 (by kernel_rfl) rfl #[.slice A0 l0.length c0, .int .i64 (ji45), .slice A1 l1.length c1] rfl (by (try simp only [List.map_toArray, List.map_cons, List.map_nil]); first | done | (simp only [hji45]; rfl) | rfl | (simp only [List.length_drop, List.length_take]; rfl)) ?_; (with_reducible refine (shadow_Between.calls kj15 _ _ l0 (ji45) _ _ l1 t357 t358 true false t361 _ ?side1 ?side2 ?side3 ?side4 A43.out).mono ?_); (case side1 => repeat (first | exact (Kd.C_below HR0.out HB.out) | (with_reducible refine cA ?_ _) | (with_reducible refine cN ?_ _) | (with_reducible refine cD ?_))); (case side2 => exact HC0.out); (case side3 => repeat (first | exact (Kd.C_below HR1.out HB.out) | (with_reducible refine cA ?_ _) | (with_reducible refine cN ?_ _) | (with_reducible refine cD ?_))); (case side4 => exact HC1.out); rintro e w62 ⟨rfl, hb⟩; refine ⟨_, rfl, ?_⟩; replace HB := zK (below_step (zo HB) hb); (try clear hb); (try clear hb2); (try clear hk); (try clear hi)) | ((with_reducible refine gate_dst (N := 70) rfl ?_); refine Kd.R_lit (Kd.int .i64) _ 2 ?hg (N := 70) ?hd (xs := ([] : List Int)) (inner := []) (ok := fun _ => True) (okp := fun _ => True) ?hr ?hp (fun _ hk => hk) trivial (Below.refl _ _) (Nat.le_refl _) (by simp) ?_; (case hd => rfl); (case hg => rfl); (case hr => first | (go_simp; done) | (go_simp; rfl)); (case hp => exact (Reps.none _ _)); intro v363 w63 ho64 hb hg_ hnew_; clear hg_ hnew_; (first | rw [← Ny362.out] at ho64 | (simp only [Int.reduceToNat] at ho64; rw [← Ny362.out] at ho64)); have HO364 := zK (Kd.R_lower ho64 (below_size (zo HB))); replace HB := zK (below_step (zo HB) hb); clear hb ho64) | ((with_reducible refine gate_builtin (b := .append) (xs := #[.tmp 70, .tmp 71]) rfl ?_); at_builtin; refine Kd.R_append_rows (Kd.int .i64) (w0 := w) w.heap.size rfl (.tmp 70) (.tmp 71) 33 2 (.int .i64 0) 8 rfl Try.underlying33 info2 rfl (by decide) (by omega) v363 y362 l1 _ _ _ (fun _ => True) (fun _ => False) rfl rfl ?aO ?aR (fun _ _ h => h) (fun _ h => h.elim) ?aF ?aB ?aS ?aL ?_; (case aR => repeat (first | exact (Kd.C_below HR1.out HB.out) | (with_reducible refine cA ?_ _) | (with_reducible refine cN ?_ _) | (with_reducible refine cD ?_))); (case aB => exact (zo HB)); (case aF => exact (fun _ _ => trivial)); (case aO => exact (zr HO364)); (case aS => exact (below_size (zo HB))); (case aL => have := LMc44.out; omega); intro v366 w65 ho hb hg hat; rw [← Ny365.out] at ho; replace HB := zK (hb); have HO367 := zK (ho); clear HO364 ho hb hg hat; have p48 : 0 ≤ ((ji45) : Int) := of_decide_eq_true (by first | (with_reducible assumption) | assumption); have q48 : ((ji45) : Int) < ((y365.length : Int) : Int) := of_decide_eq_true (by first | (with_reducible assumption) | assumption); obtain ⟨go48, co48, eo48, gb48, gl48, cl48, HG48⟩ := Kd.R_form HO367.out (by omega); (first | cases eo48 | (injection eo48 with ea_ en_ ec_; (first | subst ea_ | (injection ea_ with ea_; subst ea_)); subst ec_; clear en_)); have GB48 := zK gb48; have GG48 := zK HG48; clear gb48 gl48 HG48; obtain ⟨hx48_0, hf48_0⟩ := Kd.R_celln 0 HO367.out ((ji45) : Int) p48 q48; replace p48 := eq_true p48; replace q48 := eq_true q48; obtain ⟨hy66_, hz66_⟩ := Kd.R_celln 0 HO367.out ((ji45) : Int) (of_decide_eq_true (by first | (with_reducible assumption) | assumption)) (of_decide_eq_true (by first | (with_reducible assumption) | assumption)); have HP66 := Kd.R_putg HO367.out ((ji45) : Int) t357) | ((with_reducible refine gate_store (t := 2) (p := 76) rfl ?_); refine store_event (t := 2) (p := 76) (v := ?vo_w67) (w1 := (w65.setCell ⟨go48, ((ji45) : Int).toNat, none⟩ (.int .i64 t357))) ?hg ?ho ?hn ?hr ?_; (case ho => rfl); (case hg => rfl); (case hn => rfl); (case hr => first | (go_simp; done) | (go_simp; rfl)); intro w67 hw; have hg : w65.grownBy w67 (some go48) := (by rw [hw]; exact HP66.2); have hp_ : Kd.R (Kd.int .i64) 2 w67 w.heap.size (fun _ => True) (.slice (some ⟨go48, 0, none⟩) y365.length co48) y368 := (by rw [hw, Ny368.out]; exact HP66.1); clear HP66; replace HO367 := zK (hp_); replace HB := zK ((by rw [hw]; exact yS (HB.out) GB48.out : Below w.heap.size w w67)); clear hg hw hp_) | (go_at_call 35; refine calls_of_args (args' := #[.slice A0 l0.length c0, .slice (some ⟨go48, 0, none⟩) y368.length co48]) (by first | (rw [show y368.length = y365.length from (Kd.R_reads' HO367.out).1.symm] <;> rfl) | rfl) ?_; (with_reducible refine (sequiturref30_Holds.calls kj15 _ _ l0 _ _ y368 t370 _ ?side1 ?side2 ?side3 ?side4 A61.out).mono ?_); (case side1 => repeat (first | exact (Kd.C_below HR0.out HB.out) | (with_reducible refine cA ?_ _) | (with_reducible refine cN ?_ _) | (with_reducible refine cD ?_))); (case side2 => exact HC0.out); (case side3 => repeat (first | exact (Kd.R_reads' HO367.out).2.2 | (with_reducible refine cA ?_ _) | (with_reducible refine cN ?_ _) | (with_reducible refine cD ?_))); (case side4 => rw [show y368.length = y365.length from (Kd.R_reads' HO367.out).1.symm]; exact (Kd.R_reads' HO367.out).2.1); rintro e w68 ⟨rfl, hb⟩; replace HO367 := zK (Kd.R_below (zr HO367) hb); replace HB := zK (below_step (zo HB) hb); (try clear hb); (try clear hb2); (try clear hk); (try clear hi)))
               go_ret
               exact ⟨by first | rfl | (simp [errW_none, errW_some] <;> rfl) | (simp only [← hji45]; first | rfl | (simp [errW_none, errW_some] <;> rfl)) | (simp [*, errW_none, errW_some] <;> rfl), zo HB⟩
             ·rw [if_neg c50] at H
              exact absurd H (by simp)
            ·replace c49 := Bool.eq_false_iff.mpr c49
             subst c49
             have H1 : (if t361 = 0 then ((sequiturref30_Holds.f kj15 l0 (y368.set ((ji45) : Int).toNat t358)).bind fun t372 => (some t372)) else (none)) = some r := by rw [if_neg (show ¬ (false = true) by decide)] at H; exact H
             clear H; have H := H1; clear H1
             obtain ⟨y371, hy371⟩ : ∃ y_ : List Int, y_ = (y368.set ((ji45) : Int).toNat t358) := ⟨_, rfl⟩
             replace H : (if t361 = 0 then ((sequiturref30_Holds.f kj15 l0 y371).bind fun t372 => (some t372)) else (none)) = some r := by first | (rw [hy371]; with_reducible exact H) | (have H2_ := (Option.bind_some _ _).symm.trans H; rw [hy371]; with_reducible exact H2_) | (have H2_ := (Option.bind_some _ _).symm.trans H; with_reducible exact H2_) | with_reducible exact H | (rw [hy371]; exact H) | exact H
             have Ny371 := zK hy371; clear hy371
             by_cases c70 : t361 = 0
             ·rw [if_pos c70] at H
              have c70b0 : (t361 == 0) = true := beq_iff_eq.mpr c70
              have c70b1 : (t361 != 0) = false := bne_eq_false_iff_eq.mpr c70; clear c70
              replace H := Option.bind_eq_some_iff.mp H
              obtain ⟨t372, A710, H⟩ := H; replace H : (some t372) = some r := H
              have A71 := zK A710; clear A710
              obtain rfl := Option.some.inj H
              go_wp2_with (first | ((with_reducible refine zC (f := 29) rfl ?_); refine goesL_ (some 64) rfl rfl Try.func29 (by kernel_rfl) rfl #[.slice A0 l0.length c0, .int .i64 (ji45), .slice A1 l1.length c1] rfl (by (try simp only [List.map_toArray, List.map_cons, List.map_nil]); first | done | (simp only [hji45]; rfl) | rfl | (simp only [List.length_drop, List.length_take]; rfl)) ?_; (with_reducible refine (shadow_Between.calls kj15 _ _ l0 (ji45) _ _ l1 t357 t358 false t360 t361 _ ?side1 ?side2 ?side3 ?side4 A43.out).mono ?_); (case side1 => repeat (first | exact (Kd.C_below HR0.out HB.out) | (with_reducible refine cA ?_ _) | (with_reducible refine cN ?_ _) | (with_reducible refine cD ?_))); (case side2 => exact HC0.out); (case side3 => repeat (first | exact (Kd.C_below HR1.out HB.out) | (with_reducible refine cA ?_ _) | (with_reducible refine cN ?_ _) | (with_reducible refine cD ?_))); (case side4 => exact HC1.out); rintro e w72 ⟨rfl, hb⟩; refine ⟨_, rfl, ?_⟩; replace HB := zK (below_step (zo HB) hb); (try clear hb); (try clear hb2); (try clear hk); (try clear hi)) | ((with_reducible refine gate_dst (N := 70) rfl ?_); refine Kd.R_lit (Kd.int .i64) _ 2 ?hg (N := 70) ?hd (xs := ([] : List Int)) (inner := []) (ok := fun _ => True) (okp := fun _ => True) ?hr ?hp (fun _ hk => hk) trivial (Below.refl _ _) (Nat.le_refl _) (by simp) ?_; (case hd => rfl); (case hg => rfl); (case hr => first | (go_simp; done) | (go_simp; rfl)); (case hp => exact (Reps.none _ _)); intro v363 w73 ho74 hb hg_ hnew_; clear hg_ hnew_; (first | rw [← Ny362.out] at ho74 | (simp only [Int.reduceToNat] at ho74; rw [← Ny362.out] at ho74)); have HO364 := zK (Kd.R_lower ho74 (below_size (zo HB))); replace HB := zK (below_step (zo HB) hb); clear hb ho74) | ((with_reducible refine gate_builtin (b := .append) (xs := #[.tmp 70, .tmp 71]) rfl ?_); at_builtin; refine Kd.R_append_rows (Kd.int .i64) (w0 := w) w.heap.size rfl (.tmp 70) (.tmp 71) 33 2 (.int .i64 0) 8 rfl Try.underlying33 info2 rfl (by decide) (by omega) v363 y362 l1 _ _ _ (fun _ => True) (fun _ => False) rfl rfl ?aO ?aR (fun _ _ h => h) (fun _ h => h.elim) ?aF ?aB ?aS ?aL ?_; (case aR => repeat (first | exact (Kd.C_below HR1.out HB.out) | (with_reducible refine cA ?_ _) | (with_reducible refine cN ?_ _) | (with_reducible refine cD ?_))); (case aB => exact (zo HB)); (case aF => exact (fun _ _ => trivial)); (case aO => exact (zr HO364)); (case aS => exact (below_size (zo HB))); (case aL => have := LMc44.out; omega); intro v366 w75 ho hb hg hat; rw [← Ny365.out] at ho; replace HB := zK (hb); have HO367 := zK (ho); clear HO364 ho hb hg hat; have p48 : 0 ≤ ((ji45) : Int) := of_decide_eq_true (by first | (with_reducible assumption) | assumption); have q48 : ((ji45) : Int) < ((y365.length : Int) : Int) := of_decide_eq_true (by first | (with_reducible assumption) | assumption); obtain ⟨go48, co48, eo48, gb48, gl48, cl48, HG48⟩ := Kd.R_form HO367.out (by omega); (first | cases eo48 | (injection eo48 with ea_ en_ ec_; (first | subst ea_ | (injection ea_ with ea_; subst ea_)); subst ec_; clear en_)); have GB48 := zK gb48; have GG48 := zK HG48; clear gb48 gl48 HG48; obtain ⟨hx48_0, hf48_0⟩ := Kd.R_celln 0 HO367.out ((ji45) : Int) p48 q48; replace p48 := eq_true p48; replace q48 := eq_true q48; obtain ⟨hy76_, hz76_⟩ := Kd.R_celln 0 HO367.out ((ji45) : Int) (of_decide_eq_true (by first | (with_reducible assumption) | assumption)) (of_decide_eq_true (by first | (with_reducible assumption) | assumption)); have HP76 := Kd.R_putg HO367.out ((ji45) : Int) t357) | ((with_reducible refine gate_store (t := 2) (p := 76) rfl ?_); refine store_event (t := 2) (p := 76) (v := ?vo_w77) (w1 := (w75.setCell ⟨go48, ((ji45) : Int).toNat, none⟩ (.int .i64 t357))) ?hg ?ho ?hn ?hr ?_; (case ho => rfl); (case hg => rfl); (case hn => rfl); (case hr => first | (go_simp; done) | (go_simp; rfl)); intro w77 hw; have hg : w75.grownBy w77 (some go48) := (by rw [hw]; exact HP76.2); have hp_ : Kd.R (Kd.int .i64) 2 w77 w.heap.size (fun _ => True) (.slice (some ⟨go48, 0, none⟩) y365.length co48) y368 := (by rw [hw, Ny368.out]; exact HP76.1); clear HP76; replace HO367 := zK (hp_); replace HB := zK ((by rw [hw]; exact yS (HB.out) GB48.out : Below w.heap.size w w77)); clear hg hw hp_; have p69 : 0 ≤ ((ji45) : Int) := of_decide_eq_true (by first | (with_reducible assumption) | assumption); have q69 : ((ji45) : Int) < ((y365.length : Int) : Int) := of_decide_eq_true (by first | (with_reducible assumption) | assumption); obtain ⟨hx69_0, hf69_0⟩ := Kd.R_celln 0 HO367.out ((ji45) : Int) p69 q69; replace p69 := eq_true p69; replace q69 := eq_true q69; obtain ⟨hy78_, hz78_⟩ := Kd.R_celln 0 HO367.out ((ji45) : Int) (of_decide_eq_true (by first | (with_reducible assumption) | assumption)) (of_decide_eq_true (by first | (with_reducible assumption) | assumption)); have HP78 := Kd.R_putg HO367.out ((ji45) : Int) t358) | ((with_reducible refine gate_store (t := 2) (p := 82) rfl ?_); refine store_event (t := 2) (p := 82) (v := ?vo_w79) (w1 := (w77.setCell ⟨go48, ((ji45) : Int).toNat, none⟩ (.int .i64 t358))) ?hg ?ho ?hn ?hr ?_; (case ho => rfl); (case hg => rfl); (case hn => rfl); (case hr => first | (go_simp; done) | (go_simp; rfl)); intro w79 hw; have hg : w77.grownBy w79 (some go48) := (by rw [hw]; exact HP78.2); have hp_ : Kd.R (Kd.int .i64) 2 w79 w.heap.size (fun _ => True) (.slice (some ⟨go48, 0, none⟩) y365.length co48) y371 := (by rw [hw, Ny371.out]; exact HP78.1); clear HP78; replace HO367 := zK (hp_); replace HB := zK ((by rw [hw]; exact yS (HB.out) GB48.out : Below w.heap.size w w79)); clear hg hw hp_) | (go_at_call 35; refine calls_of_args (args' := #[.slice A0 l0.length c0, .slice (some ⟨go48, 0, none⟩) y371.length co48]) (by first | (rw [show y371.length = y365.length from (Kd.R_reads' HO367.out).1.symm] <;> rfl) | rfl) ?_; (with_reducible refine (sequiturref30_Holds.calls kj15 _ _ l0 _ _ y371 t372 _ ?side1 ?side2 ?side3 ?side4 A71.out).mono ?_); (case side1 => repeat (first | exact (Kd.C_below HR0.out HB.out) | (with_reducible refine cA ?_ _) | (with_reducible refine cN ?_ _) | (with_reducible refine cD ?_))); (case side2 => exact HC0.out); (case side3 => repeat (first | exact (Kd.R_reads' HO367.out).2.2 | (with_reducible refine cA ?_ _) | (with_reducible refine cN ?_ _) | (with_reducible refine cD ?_))); (case side4 => rw [show y371.length = y365.length from (Kd.R_reads' HO367.out).1.symm]; exact (Kd.R_reads' HO367.out).2.1); rintro e w80 ⟨rfl, hb⟩; replace HO367 := zK (Kd.R_below (zr HO367) hb); replace HB := zK (below_step (zo HB) hb); (try clear hb); (try clear hb2); (try clear hk); (try clear hi)))
              go_ret
              exact ⟨by first | rfl | (simp [errW_none, errW_some] <;> rfl) | (simp only [← hji45]; first | rfl | (simp [errW_none, errW_some] <;> rfl)) | (simp [*, errW_none, errW_some] <;> rfl), zo HB⟩
             ·rw [if_neg c70] at H
              exact absurd H (by simp)
           ·rw [if_neg c47] at H
            exact absurd H (by simp)
          ·rw [if_neg c46] at H
           exact absurd H (by simp)
         ·rw [if_neg c44] at H
          exact absurd H (by simp)
  ·replace c6 := Bool.eq_false_iff.mpr c6
   subst c6
   have H1 : (some true) = some r := by rw [if_neg (show ¬ (false = true) by decide)] at H; exact H
   clear H; have H := H1; clear H1
   obtain rfl := Option.some.inj H
   go_enter Try.func10, Try.ntmps10
   go_wp2_with (first | ((with_reducible refine zC (f := 12) rfl ?_); refine goesL_ (some 16) rfl rfl Try.func12 (by kernel_rfl) rfl #[] rfl (by (try simp only [List.map_toArray, List.map_cons, List.map_nil]); first | done | rfl | (simp only [List.length_drop, List.length_take]; rfl)) ?_; (with_reducible refine (sequiturlaw30_alive.calls k  true _ A3.out).mono ?_); rintro e w81 ⟨rfl, hb⟩; refine ⟨_, rfl, ?_⟩; replace HB := zK (below_step (zo HB) hb); (try clear hb); (try clear hb2); (try clear hk); (try clear hi)) | ((with_reducible refine zC (f := 34) rfl ?_); refine goesL_ (some 20) rfl rfl Try.func34 (by kernel_rfl) rfl #[.slice A0 l0.length c0, .slice A1 l1.length c1] rfl (by (try simp only [List.map_toArray, List.map_cons, List.map_nil]); first | done | rfl | (simp only [List.length_drop, List.length_take]; rfl)) ?_; (with_reducible refine (sequiturlaw30_small.calls k _ _ l0 _ _ l1 false _ ?side1 ?side2 ?side3 ?side4 A5.out).mono ?_); (case side1 => repeat (first | exact (Kd.C_below HR0.out HB.out) | (with_reducible refine cA ?_ _) | (with_reducible refine cN ?_ _) | (with_reducible refine cD ?_))); (case side2 => exact HC0.out); (case side3 => repeat (first | exact (Kd.C_below HR1.out HB.out) | (with_reducible refine cA ?_ _) | (with_reducible refine cN ?_ _) | (with_reducible refine cD ?_))); (case side4 => exact HC1.out); rintro e w82 ⟨rfl, hb⟩; refine ⟨_, rfl, ?_⟩; replace HB := zK (below_step (zo HB) hb); (try clear hb); (try clear hb2); (try clear hk); (try clear hi)))
   go_ret
   exact ⟨by first | rfl | (simp [errW_none, errW_some] <;> rfl) | (simp [*, errW_none, errW_some] <;> rfl), zo HB⟩
 ·replace c4 := Bool.eq_false_iff.mpr c4
  subst c4
  have H1 : (none) = some r := by rw [if_neg (show ¬ (false = true) by decide)] at H; exact H
  clear H; have H := H1; clear H1
  exact absurd H (by simp)

end Go.Proofs.Ytkfbfgkdabljiaa.PShadowDark
