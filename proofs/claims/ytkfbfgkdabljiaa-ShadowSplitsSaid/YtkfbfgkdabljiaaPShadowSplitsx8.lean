/- What the call of each function that the law reaches comes to: it answers as the plain function of the same name does, wherever that one answers; and the law itself out of its plain form. Written by a program of this session (an extended copy of the printer); no condition but what stands in each theorem. -/
import Derived.Test.YtkfbfgkdabljiaaPShadowSplitsx0
import Derived.Test.YtkfbfgkdabljiaaPShadowSplitsx2
import Derived.Test.YtkfbfgkdabljiaaPShadowSplitsx3
import Derived.Test.YtkfbfgkdabljiaaPShadowSplitsx6
import Derived.Test.YtkfbfgkdabljiaaPShadowSplitsx7
namespace Go.Proofs.Ytkfbfgkdabljiaa.PShadowSplits
open Go.RowKit Go.Proofs.YtkfbfgkdabljiaaW.PrintWords Go.Proofs.YtkfbfgkdabljiaaW.PrintLast Go.Proofs.YtkfbfgkdabljiaaW.PrintMore
open Go.Proofs.YtkfbfgkdabljiaaW.PrintWords renaming blk_drewN → zN, blk_drew → zD, blk_alloc → zA, below_alloc → yA, pw_below_drewN → yN, below_drew1 → yD, below_set → yS, gate_callee → zC
open Go.Proofs.YtkfbfgkdabljiaaW.PrintWords.Kd renaming C_alloc → cA, C_drewN → cN, C_drew → cD
open Go.Proofs.YtkfbfgkdabljiaaW.PrintWords.Aside0 renaming mk → zK
attribute [local go_sem] max2_int min2_int max_two min_two max_three min_three max_four min_four   -- for this text's walks alone
set_option linter.unusedVariables false
set_option linter.unusedSimpArgs false

/-! ### shadow_Splits: function 31 -/
mutual
def shadow_Splits.l0 : Nat → List (S70) → Int → Int → List Int → Int → Int → List (S70) → Int → Option ((List (S62)) × Int)
 | 0, _, _, _, _, _, _, _, _ => none
 | k + 1, x0, x1, x7, x28, x29, x30, x250000, x251000 => if x30 < x29 then (if 0 ≤ x30 then (if x30 < (x28.length : Int) then (if 0 ≤ (rd x28 x30) then (if (rd x28 x30) < (x0.length : Int) then ((lin_By.f k ((rd_T70 x0 (rd x28 x30)).f0.f0) ((rd_T70 x0 (rd x28 x30)).f0.f1) x1).bind fun t256 => (shadow_Splits.l0 k x0 x1 (mx x7 t256) x28 x29 (wrap64 (x30 + 1)) x250000 x251000)) else (none)) else (none)) else (none)) else (none)) else (if x7 < 2 then (some (([] : List (S62)), 0)) else ((shadow_bounds_1.f k (-1) x250000 x251000).bind fun t257 => (shadow_Splits.l1 k x0 x1 x7 0 t257 (t257.length : Int) 0 x250000 x251000)))
def shadow_Splits.l1 : Nat → List (S70) → Int → Int → Int → List Int → Int → Int → List (S70) → Int → Option ((List (S62)) × Int)
 | 0, _, _, _, _, _, _, _, _, _ => none
 | k + 1, x0, x1, x7, x10, x47, x48, x49, x250000, x251000 => if x49 < x48 then (if 0 ≤ x49 then (if x49 < (x47.length : Int) then (if 0 ≤ (rd x47 x49) then (if (rd x47 x49) < (x0.length : Int) then ((lin_By.f k ((rd_T70 x0 (rd x47 x49)).f0.f0) ((rd_T70 x0 (rd x47 x49)).f0.f1) x1).bind fun t262 => (if (IntKind.u64.wrap (-(IntKind.u64.wrap (t262)))) ≥ 2 then ((shadow_many.f (IntKind.u64.wrap (-(IntKind.u64.wrap (t262)))) (IntKind.u64.wrap (x7))).bind fun t263 => (shadow_Splits.l1 k x0 x1 x7 (IntKind.u64.wrap (x10 + (mn t263 1025))) x47 x48 (wrap64 (x49 + 1)) x250000 x251000)) else (shadow_Splits.l1 k x0 x1 x7 x10 x47 x48 (wrap64 (x49 + 1)) x250000 x251000))) else (none)) else (none)) else (none)) else (none)) else (if x10 > 1024 then (some (([] : List (S62)), 2)) else ((shadow_bounds_1.f k (-1) x250000 x251000).bind fun t264 => (shadow_Splits.l2 k x0 x1 x7 ([] : List (S62)) t264 (t264.length : Int) 0)))
def shadow_Splits.l2 : Nat → List (S70) → Int → Int → List (S62) → List Int → Int → Int → Option ((List (S62)) × Int)
 | 0, _, _, _, _, _, _, _ => none
 | k + 1, x0, x1, x7, x14, x75, x76, x77 => if x77 < x76 then (if 0 ≤ x77 then (if x77 < (x75.length : Int) then (if 0 ≤ (rd x75 x77) then (if (rd x75 x77) < (x0.length : Int) then ((lin_By.f k ((rd_T70 x0 (rd x75 x77)).f0.f0) ((rd_T70 x0 (rd x75 x77)).f0.f1) x1).bind fun t269 => (if (IntKind.u64.wrap (-(IntKind.u64.wrap (t269)))) < 2 then (shadow_Splits.l2 k x0 x1 x7 x14 x75 x76 (wrap64 (x77 + 1))) else ((shadow_many.f (IntKind.u64.wrap (-(IntKind.u64.wrap (t269)))) (IntKind.u64.wrap (x7))).bind fun t270 => (shadow_Splits.l3 k x0 x1 x7 x14 (rd x75 x77) x75 x76 x77 t270 0)))) else (none)) else (none)) else (none)) else (none)) else (some (x14, 0))
def shadow_Splits.l3 : Nat → List (S70) → Int → Int → List (S62) → Int → List Int → Int → Int → Int → Int → Option ((List (S62)) × Int)
 | 0, _, _, _, _, _, _, _, _, _, _ => none
 | k + 1, x0, x1, x7, x14, x16, x75, x76, x77, x95, x96 => if x96 < x95 then (if 0 ≤ x16 then (if x16 < (x0.length : Int) then ((shadow_split.f k ((rd_T70 x0 x16).f0.f0) ((rd_T70 x0 x16).f0.f1) x1 (wrap64 (x96))).bind fun bt272 => (if bt272.2.2 = true then (if x14.length < 4398046511104 then (shadow_Splits.l3 k x0 x1 x7 (x14 ++ [(⟨bt272.1, bt272.2.1⟩ : S62)]) x16 x75 x76 x77 x95 (IntKind.u64.wrap (x96 + 1))) else (none)) else (some (([] : List (S62)), 5)))) else (none)) else (none)) else (shadow_Splits.l2 k x0 x1 x7 x14 x75 x76 (wrap64 (x77 + 1)))
end
def shadow_Splits.f (k : Nat) (l0 : List (S70)) (a1 : Int) : Option ((List (S62)) × Int) := (shadow_wrong.f k l0 a1).bind fun t248 => (if t248 = true then (some (([] : List (S62)), 1)) else ((shadow_bounds_1.f k 1 l0 a1).bind fun t251 => (shadow_Splits.l0 k l0 a1 0 t251 (t251.length : Int) 0 l0 a1)))
theorem shadow_Splits.mono_l : ∀ k, (∀ y0 y1 y2 y3 y4 y5 y6 y7, LeO (shadow_Splits.l0 k y0 y1 y2 y3 y4 y5 y6 y7) (shadow_Splits.l0 (k + 1) y0 y1 y2 y3 y4 y5 y6 y7)) ∧ (∀ y0 y1 y2 y3 y4 y5 y6 y7 y8, LeO (shadow_Splits.l1 k y0 y1 y2 y3 y4 y5 y6 y7 y8) (shadow_Splits.l1 (k + 1) y0 y1 y2 y3 y4 y5 y6 y7 y8)) ∧ (∀ y0 y1 y2 y3 y4 y5 y6, LeO (shadow_Splits.l2 k y0 y1 y2 y3 y4 y5 y6) (shadow_Splits.l2 (k + 1) y0 y1 y2 y3 y4 y5 y6)) ∧ (∀ y0 y1 y2 y3 y4 y5 y6 y7 y8 y9, LeO (shadow_Splits.l3 k y0 y1 y2 y3 y4 y5 y6 y7 y8 y9) (shadow_Splits.l3 (k + 1) y0 y1 y2 y3 y4 y5 y6 y7 y8 y9))
 | 0 => ⟨fun _ _ _ _ _ _ _ _ r h => by simp [shadow_Splits.l0] at h, fun _ _ _ _ _ _ _ _ _ r h => by simp [shadow_Splits.l1] at h, fun _ _ _ _ _ _ _ r h => by simp [shadow_Splits.l2] at h, fun _ _ _ _ _ _ _ _ _ _ r h => by simp [shadow_Splits.l3] at h⟩
 | k + 1 => by
  obtain ⟨ih0, ih1, ih2, ih3⟩ := shadow_Splits.mono_l k
  refine ⟨?_, ?_, ?_, ?_⟩
  ·intro y0 y1 y2 y3 y4 y5 y6 y7
   unfold shadow_Splits.l0
   repeat' first
   | (with_reducible exact ih0 _ _ _ _ _ _ _ _)
   | (with_reducible exact ih1 _ _ _ _ _ _ _ _ _)
   | (with_reducible exact ih2 _ _ _ _ _ _ _)
   | (with_reducible exact ih3 _ _ _ _ _ _ _ _ _ _)
   | (with_reducible exact lin_By.mono _ _ _ _)
   | (with_reducible exact shadow_bounds_1.mono _ _ _ _)
   | (with_reducible exact shadow_split.mono _ _ _ _ _)
   | (with_reducible exact shadow_wrong.mono _ _ _)
   | (with_reducible exact LeO.refl _)
   | (with_reducible exact LeO.none _)
   | (with_reducible refine LeO.ite ?_ ?_)
   | (with_reducible refine LeO.bind ?_ (fun _ => ?_))
   | exact ih0 _ _ _ _ _ _ _ _
   | exact ih1 _ _ _ _ _ _ _ _ _
   | exact ih2 _ _ _ _ _ _ _
   | exact ih3 _ _ _ _ _ _ _ _ _ _
   | exact lin_By.mono _ _ _ _
   | exact shadow_bounds_1.mono _ _ _ _
   | exact shadow_split.mono _ _ _ _ _
   | exact shadow_wrong.mono _ _ _
   | exact LeO.none _
   | refine LeO.ite ?_ ?_
   | refine LeO.bind ?_ (fun _ => ?_)
  ·intro y0 y1 y2 y3 y4 y5 y6 y7 y8
   unfold shadow_Splits.l1
   repeat' first
   | (with_reducible exact ih0 _ _ _ _ _ _ _ _)
   | (with_reducible exact ih1 _ _ _ _ _ _ _ _ _)
   | (with_reducible exact ih2 _ _ _ _ _ _ _)
   | (with_reducible exact ih3 _ _ _ _ _ _ _ _ _ _)
   | (with_reducible exact lin_By.mono _ _ _ _)
   | (with_reducible exact shadow_bounds_1.mono _ _ _ _)
   | (with_reducible exact shadow_split.mono _ _ _ _ _)
   | (with_reducible exact shadow_wrong.mono _ _ _)
   | (with_reducible exact LeO.refl _)
   | (with_reducible exact LeO.none _)
   | (with_reducible refine LeO.ite ?_ ?_)
   | (with_reducible refine LeO.bind ?_ (fun _ => ?_))
   | exact ih0 _ _ _ _ _ _ _ _
   | exact ih1 _ _ _ _ _ _ _ _ _
   | exact ih2 _ _ _ _ _ _ _
   | exact ih3 _ _ _ _ _ _ _ _ _ _
   | exact lin_By.mono _ _ _ _
   | exact shadow_bounds_1.mono _ _ _ _
   | exact shadow_split.mono _ _ _ _ _
   | exact shadow_wrong.mono _ _ _
   | exact LeO.none _
   | refine LeO.ite ?_ ?_
   | refine LeO.bind ?_ (fun _ => ?_)
  ·intro y0 y1 y2 y3 y4 y5 y6
   unfold shadow_Splits.l2
   repeat' first
   | (with_reducible exact ih0 _ _ _ _ _ _ _ _)
   | (with_reducible exact ih1 _ _ _ _ _ _ _ _ _)
   | (with_reducible exact ih2 _ _ _ _ _ _ _)
   | (with_reducible exact ih3 _ _ _ _ _ _ _ _ _ _)
   | (with_reducible exact lin_By.mono _ _ _ _)
   | (with_reducible exact shadow_bounds_1.mono _ _ _ _)
   | (with_reducible exact shadow_split.mono _ _ _ _ _)
   | (with_reducible exact shadow_wrong.mono _ _ _)
   | (with_reducible exact LeO.refl _)
   | (with_reducible exact LeO.none _)
   | (with_reducible refine LeO.ite ?_ ?_)
   | (with_reducible refine LeO.bind ?_ (fun _ => ?_))
   | exact ih0 _ _ _ _ _ _ _ _
   | exact ih1 _ _ _ _ _ _ _ _ _
   | exact ih2 _ _ _ _ _ _ _
   | exact ih3 _ _ _ _ _ _ _ _ _ _
   | exact lin_By.mono _ _ _ _
   | exact shadow_bounds_1.mono _ _ _ _
   | exact shadow_split.mono _ _ _ _ _
   | exact shadow_wrong.mono _ _ _
   | exact LeO.none _
   | refine LeO.ite ?_ ?_
   | refine LeO.bind ?_ (fun _ => ?_)
  ·intro y0 y1 y2 y3 y4 y5 y6 y7 y8 y9
   unfold shadow_Splits.l3
   repeat' first
   | (with_reducible exact ih0 _ _ _ _ _ _ _ _)
   | (with_reducible exact ih1 _ _ _ _ _ _ _ _ _)
   | (with_reducible exact ih2 _ _ _ _ _ _ _)
   | (with_reducible exact ih3 _ _ _ _ _ _ _ _ _ _)
   | (with_reducible exact lin_By.mono _ _ _ _)
   | (with_reducible exact shadow_bounds_1.mono _ _ _ _)
   | (with_reducible exact shadow_split.mono _ _ _ _ _)
   | (with_reducible exact shadow_wrong.mono _ _ _)
   | (with_reducible exact LeO.refl _)
   | (with_reducible exact LeO.none _)
   | (with_reducible refine LeO.ite ?_ ?_)
   | (with_reducible refine LeO.bind ?_ (fun _ => ?_))
   | exact ih0 _ _ _ _ _ _ _ _
   | exact ih1 _ _ _ _ _ _ _ _ _
   | exact ih2 _ _ _ _ _ _ _
   | exact ih3 _ _ _ _ _ _ _ _ _ _
   | exact lin_By.mono _ _ _ _
   | exact shadow_bounds_1.mono _ _ _ _
   | exact shadow_split.mono _ _ _ _ _
   | exact shadow_wrong.mono _ _ _
   | exact LeO.none _
   | refine LeO.ite ?_ ?_
   | refine LeO.bind ?_ (fun _ => ?_)
theorem shadow_Splits.mono : ∀ a0 a1 k, LeO (shadow_Splits.f k a0 a1) (shadow_Splits.f (k + 1) a0 a1) := by
 intro a0 a1 k
 obtain ⟨ih0, ih1, ih2, ih3⟩ := shadow_Splits.mono_l k
 unfold shadow_Splits.f
 repeat' first
   | (with_reducible exact ih0 _ _ _ _ _ _ _ _)
   | (with_reducible exact ih1 _ _ _ _ _ _ _ _ _)
   | (with_reducible exact ih2 _ _ _ _ _ _ _)
   | (with_reducible exact ih3 _ _ _ _ _ _ _ _ _ _)
   | (with_reducible exact lin_By.mono _ _ _ _)
   | (with_reducible exact shadow_bounds_1.mono _ _ _ _)
   | (with_reducible exact shadow_split.mono _ _ _ _ _)
   | (with_reducible exact shadow_wrong.mono _ _ _)
   | (with_reducible exact LeO.refl _)
   | (with_reducible exact LeO.none _)
   | (with_reducible refine LeO.ite ?_ ?_)
   | (with_reducible refine LeO.bind ?_ (fun _ => ?_))
   | exact ih0 _ _ _ _ _ _ _ _
   | exact ih1 _ _ _ _ _ _ _ _ _
   | exact ih2 _ _ _ _ _ _ _
   | exact ih3 _ _ _ _ _ _ _ _ _ _
   | exact lin_By.mono _ _ _ _
   | exact shadow_bounds_1.mono _ _ _ _
   | exact shadow_split.mono _ _ _ _ _
   | exact shadow_wrong.mono _ _ _
   | exact LeO.none _
   | refine LeO.ite ?_ ?_
   | refine LeO.bind ?_ (fun _ => ?_)
set_option maxHeartbeats 8000000 in
set_option maxRecDepth 100000 in
theorem shadow_Splits.calls (k : Nat) (A0 : Option Addr) (c0 : Nat) (l0 : List (S70)) (a1 : Int) (r1 : List (S62)) (r2 : Int) (w : World) (hr0 : Kd.C k70 w A0 l0.length l0) (hc0 : l0.length ≤ c0) (h : shadow_Splits.f k l0 a1 = some (r1, r2)) :
  Calls Try.prog 31 #[.slice A0 l0.length c0, .int .i64 a1] w fun e w' => ∃ v0_ : Value, e = .returned (.tuple #[v0_, .int .i64 r2]) ∧ Kd.S k62 62 w' w.heap.size (fun _ => True) v0_ r1 ∧ Below w.heap.size w w' := by
 have hu62 := Try.underlying62
 have HR0 := zK hr0
 have HC0 := zK hc0; clear hr0 hc0
 have HB := zK (Below.refl w.heap.size w)
 have H : ((shadow_wrong.f k l0 a1).bind fun t248 => (if t248 = true then (some (([] : List (S62)), 1)) else ((shadow_bounds_1.f k 1 l0 a1).bind fun t251 => (shadow_Splits.l0 k l0 a1 0 t251 (t251.length : Int) 0 l0 a1)))) = some (r1, r2) := h
 clear h; replace H := Option.bind_eq_some_iff.mp H
 obtain ⟨t248, A30, H⟩ := H
 replace H : (if t248 = true then (some (([] : List (S62)), 1)) else ((shadow_bounds_1.f k 1 l0 a1).bind fun t251 => (shadow_Splits.l0 k l0 a1 0 t251 (t251.length : Int) 0 l0 a1))) = some (r1, r2) := H
 have A3 := zK A30; clear A30
 by_cases c4 : t248 = true
 ·subst c4
  have H1 : (some (([] : List (S62)), 1)) = some (r1, r2) := by rw [if_pos rfl] at H; exact H
  clear H; have H := H1; clear H1
  simp only [Option.some.injEq, Prod.mk.injEq] at H
  obtain ⟨rfl, rfl⟩ := H
  go_enter Try.func31, Try.ntmps31
  go_wp2_with (first | ((with_reducible refine zC (f := 56) rfl ?_); refine goesL_ (some 23) rfl rfl Try.func56 (by kernel_rfl) rfl #[.slice A0 l0.length c0, .int .i64 a1] rfl (by (try simp only [List.map_toArray, List.map_cons, List.map_nil]); first | done | rfl | (simp only [List.length_drop, List.length_take]; rfl)) ?_; (with_reducible refine (shadow_wrong.calls k _ _ l0 a1 true _ ?side1 ?side2 A3.out).mono ?_); (case side1 => repeat (first | exact HR0.out | (with_reducible refine cA ?_ _) | (with_reducible refine cN ?_ _) | (with_reducible refine cD ?_))); (case side2 => exact HC0.out); rintro e w5 ⟨rfl, hb⟩; refine ⟨_, rfl, ?_⟩; replace HB := zK (below_step (zo HB) hb); (try clear hb); (try clear hb2); (try clear hk); (try clear hi)))
  go_ret2
  exact ⟨_, by first | rfl | (simp [errW_none, errW_some] <;> rfl) | (simp [*, errW_none, errW_some] <;> rfl), by first | exact Kd.S_nil _ _ _ _ _ | exact Kd.N_nil _ _ _ _ _ | exact Kd.V_nil _ _ _ _ _ | exact Kd.Q_nil _ _ _ _ _ | exact Kd.R_nil _ _ _ _ _, zo HB⟩
 ·replace c4 := Bool.eq_false_iff.mpr c4
  subst c4
  have H1 : ((shadow_bounds_1.f k 1 l0 a1).bind fun t251 => (shadow_Splits.l0 k l0 a1 0 t251 (t251.length : Int) 0 l0 a1)) = some (r1, r2) := by rw [if_neg (show ¬ (false = true) by decide)] at H; exact H
  clear H; have H := H1
  clear H1; replace H := Option.bind_eq_some_iff.mp H
  obtain ⟨t251, A60, H⟩ := H
  replace H : (shadow_Splits.l0 k l0 a1 0 t251 (t251.length : Int) 0 l0 a1) = some (r1, r2) := H
  have A6 := zK A60; clear A60
  have H' := zK H; clear H
  go_enter Try.func31, Try.ntmps31
  go_wp2_with (first | ((with_reducible refine zC (f := 56) rfl ?_); refine goesL_ (some 23) rfl rfl Try.func56 (by kernel_rfl) rfl #[.slice A0 l0.length c0, .int .i64 a1] rfl (by (try simp only [List.map_toArray, List.map_cons, List.map_nil]); first | done | rfl | (simp only [List.length_drop, List.length_take]; rfl)) ?_; (with_reducible refine (shadow_wrong.calls k _ _ l0 a1 false _ ?side1 ?side2 A3.out).mono ?_); (case side1 => repeat (first | exact HR0.out | (with_reducible refine cA ?_ _) | (with_reducible refine cN ?_ _) | (with_reducible refine cD ?_))); (case side2 => exact HC0.out); rintro e w7 ⟨rfl, hb⟩; refine ⟨_, rfl, ?_⟩; replace HB := zK (below_step (zo HB) hb); (try clear hb); (try clear hb2); (try clear hk); (try clear hi)) | (go_at_call 45; refine shadow_bounds.gate ?_; intro gb249 hg w8 hbox hb; have BK249 := zK (hbox); have GW249 := zK ((by rw [hg]; exact (below_size (zo HB)) : w.heap.size ≤ gb249)); have GE249 := zK ((by rw [hg]; exact (below_size (zo HB)) : w.heap.size ≤ gb249)); replace HB := zK (below_step (zo HB) hb); clear hb hbox hg; intro gb250 hg w9 hbox hb; have BK250 := zK (hbox); have GW250 := zK ((by rw [hg]; exact (below_size (zo HB)) : w.heap.size ≤ gb250)); have GE250 := zK ((by rw [hg]; exact (below_size (zo HB)) : w.heap.size ≤ gb250)); replace HB := zK (below_step (zo HB) hb); have NB249_250 := zK ((by rw [hg]; exact Nat.ne_of_lt (blk_lt (g := gb249) (o := .cells #[.slice A0 l0.length c0] 22 (0, 0)) (zb BK249)) : gb249 ≠ gb250)); have NB250_249 := zK ((by rw [hg]; exact Nat.ne_of_gt (blk_lt (g := gb249) (o := .cells #[.slice A0 l0.length c0] 22 (0, 0)) (zb BK249)) : gb250 ≠ gb249)); replace BK249 := zK (blk_below (g := gb249) (o := .cells #[.slice A0 l0.length c0] 22 (0, 0)) (zb BK249) hb); clear hb hbox hg) | (go_at_call 82; (with_reducible refine (shadow_bounds_1.calls k 1 A0 c0 l0 gb249 a1 gb250 t251 _ ?side1 ?side2 ?side3 ?side4 ?side5 A6.out).mono ?_); (case side1 => repeat (first | exact (Kd.C_below HR0.out HB.out) | (with_reducible refine cA ?_ _) | (with_reducible refine cN ?_ _) | (with_reducible refine cD ?_))); (case side2 => exact HC0.out); (case side3 => exact (zb BK249)); (case side4 => exact (zb BK250)); (case side5 => exact NB249_250.out); rintro e w10 ⟨v252, rfl, ho0, hb⟩; have HO253 := zK (Kd.R_lower (Kd.R_newB ho0 (g := gb250) (o := .cells #[.int .i64 a1] 3 (0, 0)) (zb BK250)) (below_size (zo HB))); replace BK249 := zK (blk_below (g := gb249) (o := .cells #[.slice A0 l0.length c0] 22 (0, 0)) (zb BK249) hb); replace BK250 := zK (blk_below (g := gb250) (o := .cells #[.int .i64 a1] 3 (0, 0)) (zb BK250) hb); replace HB := zK (below_step (zo HB) hb); (try clear hb); (try clear hb2); (try clear hk); (try clear hi); (try clear ho0); obtain ⟨Ao11, co11, eo11⟩ := Kd.R_slice HO253.out; subst eo11))
  go_loopg [7, 30] k (fun kq v7 v30 w' => ∃ (x7_1 : Int) (x30_1 : Int), v7 = .int .i64 x7_1 ∧ v30 = .int .i64 x30_1 ∧ Aside0 (shadow_Splits.l0 kq l0 a1 x7_1 t251 (t251.length : Int) x30_1 l0 a1 = some (r1, r2)) ∧ Aside0 (kq ≤ k) ∧ Aside0 (Kd.R (Kd.int .i64) 3 w' w.heap.size (fun k_ => k_ ≠ gb250) (.slice Ao11 t251.length co11) t251) ∧ Aside0 (w'.heap[gb249]? = some (.cells #[(.slice A0 l0.length c0)] 22 (0, 0))) ∧ Aside0 (w'.heap[gb250]? = some (.cells #[.int .i64 a1] 3 (0, 0))) ∧ Aside0 (Below w.heap.size w w'))
  case atStart => exact ⟨(0), (0), (by first | rfl | (simp; done) | (simp [*]; done)), (by first | rfl | (simp; done) | (simp [*]; done)), H', ⟨Nat.le_refl _⟩, ⟨by (with_reducible repeat (first | apply Kd.R_alloc | apply Kd.R_drewN | apply Kd.R_drew)); exact Kd.R_mono HO253.out (fun _ hk => hk.2)⟩, ⟨zb BK249⟩, ⟨zb BK250⟩, ⟨zo HB⟩⟩
  case round =>
   clear H'; try clear p2; try clear c3; try clear c4; try clear c5
   obtain ⟨x7_1, x30_1, rfl, rfl, HA, HK1, HO_28, BK249, BK250, HB⟩ := hrel
   cases gk with
   | zero => exact absurd HA.out (by simp [shadow_Splits.l0])
   | succ k1 =>
    have H := HA.out; clear HA
    simp only [shadow_Splits.l0] at H
    by_cases c12 : x30_1 < (t251.length : Int)
    ·rw [if_pos c12] at H
     have c12b0 : decide (x30_1 < (t251.length : Int)) = true := decide_eq_true c12
     clear c12
     by_cases c13 : 0 ≤ x30_1
     ·rw [if_pos c13] at H
      have c13b0 : decide (0 ≤ x30_1) = true := decide_eq_true c13; clear c13
      by_cases c14 : x30_1 < (t251.length : Int)
      ·rw [if_pos c14] at H
       have c14b0 : decide (x30_1 < (t251.length : Int)) = true := decide_eq_true c14
       clear c14
       by_cases c15 : 0 ≤ (rd t251 x30_1)
       ·rw [if_pos c15] at H
        have c15b0 : decide (0 ≤ (rd t251 x30_1)) = true := decide_eq_true c15
        clear c15
        by_cases c16 : (rd t251 x30_1) < (l0.length : Int)
        ·rw [if_pos c16] at H
         have c16b0 : decide ((rd t251 x30_1) < (l0.length : Int)) = true := decide_eq_true c16
         clear c16; replace H := Option.bind_eq_some_iff.mp H
         obtain ⟨t256, A170, H⟩ := H
         replace H : (shadow_Splits.l0 k1 l0 a1 (mx x7_1 t256) t251 (t251.length : Int) (wrap64 (x30_1 + 1)) l0 a1) = some (r1, r2) := H
         have A17 := zK A170; clear A170
         obtain ⟨ji18, hji18⟩ : ∃ j_ : Int, (mx x7_1 t256) = j_ := ⟨_, rfl⟩
         replace H : (shadow_Splits.l0 k1 l0 a1 ji18 t251 (t251.length : Int) (wrap64 (x30_1 + 1)) l0 a1) = some (r1, r2) := by first | (rw [hji18] at H; exact H) | (simp only [hji18] at H ⊢; exact H)
         (try rw [hji18] at A17)
         have hji18_ : (if x7_1 < t256 then t256 else x7_1) = ji18 := hji18
         have H' := zK H; clear H
         have p254 : 0 ≤ (x30_1 : Int) := of_decide_eq_true (by first | (with_reducible assumption) | assumption)
         have q254 : x30_1 < (t251.length : Int) := of_decide_eq_true (by first | (with_reducible assumption) | assumption)
         obtain ⟨ad254, e254, hx254_0⟩ := Kd.at_int (Kd.R_reads' HO_28.out).2.2 x30_1 p254 q254
         cases e254
         replace p254 := eq_true p254
         replace q254 := eq_true q254
         have p255 : 0 ≤ ((rd t251 x30_1) : Int) := of_decide_eq_true (by first | (with_reducible assumption) | assumption)
         have q255 : (rd t251 x30_1) < (l0.length : Int) := of_decide_eq_true (by first | (with_reducible assumption) | assumption)
         obtain ⟨ad255, A255_1, c255_1, e255, hx255_0, hx255_1, hx255_2, hl255_1, hi255_1⟩ := at_T70 HR0.out (rd t251 x30_1) p255 q255
         cases e255
         replace hx255_0 := (HB.out.cell (World.block_lt_of_cell? w _ hx255_0)).trans hx255_0
         replace hx255_1 := (HB.out.cell (World.block_lt_of_cell? w _ hx255_1)).trans hx255_1
         replace hx255_2 := (HB.out.cell (World.block_lt_of_cell? w _ hx255_2)).trans hx255_2
         have HR255_1 := zK hi255_1
         have HC255_1 := zK hl255_1; clear hi255_1 hl255_1
         replace p255 := eq_true p255
         replace q255 := eq_true q255
         go_wp2_with (first | ((with_reducible refine zC (f := 46) rfl ?_); refine goesL_ (some 41) rfl rfl Try.func46 (by kernel_rfl) rfl #[.agg #[.int .i64 ((rd_T70 l0 (rd t251 x30_1)).f0.f0), .slice A255_1 ((rd_T70 l0 (rd t251 x30_1)).f0.f1).length c255_1], .int .i64 a1] rfl (by (try simp only [List.map_toArray, List.map_cons, List.map_nil]); first | done | rfl | (simp only [List.length_drop, List.length_take]; rfl)) ?_; (with_reducible refine (lin_By.calls k1 ((rd_T70 l0 (rd t251 x30_1)).f0.f0) _ _ ((rd_T70 l0 (rd t251 x30_1)).f0.f1) a1 t256 _ ?side1 ?side2 A17.out).mono ?_); (case side1 => repeat (first | exact (Kd.C_below HR255_1.out HB.out) | (with_reducible refine cA ?_ _) | (with_reducible refine cN ?_ _) | (with_reducible refine cD ?_))); (case side2 => exact HC255_1.out); rintro e w19 ⟨rfl, hb⟩; refine ⟨_, rfl, ?_⟩; replace HO_28 := zK (Kd.R_below (zr HO_28) hb); replace BK249 := zK (blk_below (g := gb249) (o := .cells #[.slice (some ad255) l0.length c0] 22 (0, 0)) (zb BK249) hb); replace BK250 := zK (blk_below (g := gb250) (o := .cells #[.int .i64 a1] 3 (0, 0)) (zb BK250) hb); replace HB := zK (below_step (zo HB) hb); (try clear hb); (try clear hb2); (try clear hk); (try clear hi)))
         go_roundg k1
         case measure => have := HK1.out; omega
         case rel => exact ⟨(ji18), (wrap64 (x30_1 + 1)), (by first | rfl | (simp; done) | (simp only [← hji18] <;> (first | rfl | simp)) | (simp [*]; done)), (by first | rfl | (simp; done) | (simp [*]; done)), H', ⟨by have := HK1.out; omega⟩, ⟨zr HO_28⟩, ⟨zb BK249⟩, ⟨zb BK250⟩, ⟨zo HB⟩⟩
        ·rw [if_neg c16] at H
         exact absurd H (by simp)
       ·rw [if_neg c15] at H
        exact absurd H (by simp)
      ·rw [if_neg c14] at H
       exact absurd H (by simp)
     ·rw [if_neg c13] at H
      exact absurd H (by simp)
    ·rw [if_neg c12] at H
     have c12b0 : decide (x30_1 < (t251.length : Int)) = false := decide_eq_false c12
     clear c12
     by_cases c20 : x7_1 < 2
     ·rw [if_pos c20] at H
      have c20b0 : decide (x7_1 < 2) = true := decide_eq_true c20; clear c20
      simp only [Option.some.injEq, Prod.mk.injEq] at H
      obtain ⟨rfl, rfl⟩ := H
      go_wp2
      go_ret2
      exact ⟨_, by first | rfl | (simp [errW_none, errW_some] <;> rfl) | (simp [*, errW_none, errW_some] <;> rfl), by first | exact Kd.S_nil _ _ _ _ _ | exact Kd.N_nil _ _ _ _ _ | exact Kd.V_nil _ _ _ _ _ | exact Kd.Q_nil _ _ _ _ _ | exact Kd.R_nil _ _ _ _ _, zo HB⟩
     ·rw [if_neg c20] at H
      have c20b0 : decide (x7_1 < 2) = false := decide_eq_false c20; clear c20
      replace H := Option.bind_eq_some_iff.mp H
      obtain ⟨t257, A210, H⟩ := H
      replace H : (shadow_Splits.l1 k1 l0 a1 x7_1 0 t257 (t257.length : Int) 0 l0 a1) = some (r1, r2) := H
      have A21 := zK A210; clear A210
      have H' := zK H; clear H
      go_wp2_with (first | (go_at_call 82; (with_reducible refine (shadow_bounds_1.calls k1 (-1) A0 c0 l0 gb249 a1 gb250 t257 _ ?side1 ?side2 ?side3 ?side4 ?side5 A21.out).mono ?_); (case side1 => repeat (first | exact (Kd.C_below HR0.out HB.out) | (with_reducible refine cA ?_ _) | (with_reducible refine cN ?_ _) | (with_reducible refine cD ?_))); (case side2 => exact HC0.out); (case side3 => exact (zb BK249)); (case side4 => exact (zb BK250)); (case side5 => exact NB249_250.out); rintro e w22 ⟨v258, rfl, ho0, hb⟩; have HO259 := zK (Kd.R_lower (Kd.R_newB (Kd.R_new' ho0 (Kd.R_lt (zr HO_28))) (g := gb250) (o := .cells #[.int .i64 a1] 3 (0, 0)) (zb BK250)) (below_size (zo HB))); replace HO_28 := zK (Kd.R_elder' (zr HO_28) (Kd.R_base ho0) hb); replace BK249 := zK (blk_below (g := gb249) (o := .cells #[.slice A0 l0.length c0] 22 (0, 0)) (zb BK249) hb); replace BK250 := zK (blk_below (g := gb250) (o := .cells #[.int .i64 a1] 3 (0, 0)) (zb BK250) hb); replace HB := zK (below_step (zo HB) hb); (try clear hb); (try clear hb2); (try clear hk); (try clear hi); (try clear ho0); obtain ⟨Ao23, co23, eo23⟩ := Kd.R_slice HO259.out; subst eo23))
      go_loopg [10, 49] k1 (fun kq v10 v49 w' => ∃ (x10_2 : Int) (x49_2 : Int), v10 = .int .u64 x10_2 ∧ v49 = .int .i64 x49_2 ∧ Aside0 (shadow_Splits.l1 kq l0 a1 x7_1 x10_2 t257 (t257.length : Int) x49_2 l0 a1 = some (r1, r2)) ∧ Aside0 (kq ≤ k1) ∧ Aside0 (Kd.R (Kd.int .i64) 3 w' w.heap.size (fun k_ => k_ ≠ gb250) (.slice Ao23 t257.length co23) t257) ∧ Aside0 (w'.heap[gb249]? = some (.cells #[(.slice A0 l0.length c0)] 22 (0, 0))) ∧ Aside0 (w'.heap[gb250]? = some (.cells #[.int .i64 a1] 3 (0, 0))) ∧ Aside0 (Below w.heap.size w w'))
      case atStart => exact ⟨(0), (0), (by first | rfl | (simp; done) | (simp [*]; done)), (by first | rfl | (simp; done) | (simp [*]; done)), H', ⟨Nat.le_refl _⟩, ⟨by (with_reducible repeat (first | apply Kd.R_alloc | apply Kd.R_drewN | apply Kd.R_drew)); exact Kd.R_mono HO259.out (fun _ hk => hk.2)⟩, ⟨zb BK249⟩, ⟨zb BK250⟩, ⟨zo HB⟩⟩
      case round =>
       clear H'; try clear c1; try clear c2; try clear p2
       try clear q2; try clear hx2; try clear c3; try clear c4
       try clear c5; try clear p6; try clear c12; try clear c12b0
       try clear c13; try clear c13b0; try clear c14; try clear c14b0
       try clear c15; try clear c15b0; try clear c16; try clear c16b0
       try clear c20; try clear c20b0; try clear hx254_0; try clear hx255_0
       try clear hx255_1; try clear hx255_2; try clear p2; try clear p254; try clear p255; try clear q254; try clear q255
       obtain ⟨x10_2, x49_2, rfl, rfl, HA, HK2, HO_47, BK249, BK250, HB⟩ := hrel
       cases gk with
       | zero => exact absurd HA.out (by simp [shadow_Splits.l1])
       | succ k2 =>
        have H := HA.out; clear HA
        simp only [shadow_Splits.l1] at H
        by_cases c24 : x49_2 < (t257.length : Int)
        ·rw [if_pos c24] at H
         have c24b0 : decide (x49_2 < (t257.length : Int)) = true := decide_eq_true c24
         clear c24
         by_cases c25 : 0 ≤ x49_2
         ·rw [if_pos c25] at H
          have c25b0 : decide (0 ≤ x49_2) = true := decide_eq_true c25; clear c25
          by_cases c26 : x49_2 < (t257.length : Int)
          ·rw [if_pos c26] at H
           have c26b0 : decide (x49_2 < (t257.length : Int)) = true := decide_eq_true c26
           clear c26
           by_cases c27 : 0 ≤ (rd t257 x49_2)
           ·rw [if_pos c27] at H
            have c27b0 : decide (0 ≤ (rd t257 x49_2)) = true := decide_eq_true c27
            clear c27
            by_cases c28 : (rd t257 x49_2) < (l0.length : Int)
            ·rw [if_pos c28] at H
             have c28b0 : decide ((rd t257 x49_2) < (l0.length : Int)) = true := decide_eq_true c28
             clear c28; replace H := Option.bind_eq_some_iff.mp H
             obtain ⟨t262, A290, H⟩ := H
             replace H : (if (IntKind.u64.wrap (-(IntKind.u64.wrap (t262)))) ≥ 2 then ((shadow_many.f (IntKind.u64.wrap (-(IntKind.u64.wrap (t262)))) (IntKind.u64.wrap (x7_1))).bind fun t263 => (shadow_Splits.l1 k2 l0 a1 x7_1 (IntKind.u64.wrap (x10_2 + (mn t263 1025))) t257 (t257.length : Int) (wrap64 (x49_2 + 1)) l0 a1)) else (shadow_Splits.l1 k2 l0 a1 x7_1 x10_2 t257 (t257.length : Int) (wrap64 (x49_2 + 1)) l0 a1)) = some (r1, r2) := H
             have A29 := zK A290; clear A290
             by_cases c30 : (IntKind.u64.wrap (-(IntKind.u64.wrap (t262)))) ≥ 2
             ·rw [if_pos c30] at H
              have c30b0 : decide (2 ≤ (IntKind.u64.wrap (-(IntKind.u64.wrap (t262))))) = true := decide_eq_true c30
              clear c30; replace H := Option.bind_eq_some_iff.mp H
              obtain ⟨t263, A310, H⟩ := H
              replace H : (shadow_Splits.l1 k2 l0 a1 x7_1 (IntKind.u64.wrap (x10_2 + (mn t263 1025))) t257 (t257.length : Int) (wrap64 (x49_2 + 1)) l0 a1) = some (r1, r2) := H
              have A31 := zK A310; clear A310
              obtain ⟨ji32, hji32⟩ : ∃ j_ : Int, (mn t263 1025) = j_ := ⟨_, rfl⟩
              replace H : (shadow_Splits.l1 k2 l0 a1 x7_1 (IntKind.u64.wrap (x10_2 + (ji32))) t257 (t257.length : Int) (wrap64 (x49_2 + 1)) l0 a1) = some (r1, r2) := by first | (rw [hji32] at H; exact H) | (simp only [hji32] at H ⊢; exact H)
              (try rw [hji32] at A29)
              (try rw [hji32] at A31)
              (try (have hji32h : ji32 ≤ 1025 := by (rw [← hji32]; unfold mn; (repeat' split) <;> omega)))
              (try (have hji32g : ji32 ≤ 64 := by omega))
              have hji32_ : (if 1025 < t263 then 1025 else t263) = ji32 := hji32
              have H' := zK H; clear H
              have p260 : 0 ≤ (x49_2 : Int) := of_decide_eq_true (by first | (with_reducible assumption) | assumption)
              have q260 : x49_2 < (t257.length : Int) := of_decide_eq_true (by first | (with_reducible assumption) | assumption)
              obtain ⟨ad260, e260, hx260_0⟩ := Kd.at_int (Kd.R_reads' HO_47.out).2.2 x49_2 p260 q260
              cases e260
              replace p260 := eq_true p260
              replace q260 := eq_true q260
              have p261 : 0 ≤ ((rd t257 x49_2) : Int) := of_decide_eq_true (by first | (with_reducible assumption) | assumption)
              have q261 : (rd t257 x49_2) < (l0.length : Int) := of_decide_eq_true (by first | (with_reducible assumption) | assumption)
              obtain ⟨ad261, A261_1, c261_1, e261, hx261_0, hx261_1, hx261_2, hl261_1, hi261_1⟩ := at_T70 HR0.out (rd t257 x49_2) p261 q261
              cases e261
              replace hx261_0 := (HB.out.cell (World.block_lt_of_cell? w _ hx261_0)).trans hx261_0
              replace hx261_1 := (HB.out.cell (World.block_lt_of_cell? w _ hx261_1)).trans hx261_1
              replace hx261_2 := (HB.out.cell (World.block_lt_of_cell? w _ hx261_2)).trans hx261_2
              have HR261_1 := zK hi261_1
              have HC261_1 := zK hl261_1; clear hi261_1 hl261_1
              replace p261 := eq_true p261
              replace q261 := eq_true q261
              go_wp2_with (first | ((with_reducible refine zC (f := 46) rfl ?_); refine goesL_ (some 59) rfl rfl Try.func46 (by kernel_rfl) rfl #[.agg #[.int .i64 ((rd_T70 l0 (rd t257 x49_2)).f0.f0), .slice A261_1 ((rd_T70 l0 (rd t257 x49_2)).f0.f1).length c261_1], .int .i64 a1] rfl (by (try simp only [List.map_toArray, List.map_cons, List.map_nil]); first | done | rfl | (simp only [List.length_drop, List.length_take]; rfl)) ?_; (with_reducible refine (lin_By.calls k2 ((rd_T70 l0 (rd t257 x49_2)).f0.f0) _ _ ((rd_T70 l0 (rd t257 x49_2)).f0.f1) a1 t262 _ ?side1 ?side2 A29.out).mono ?_); (case side1 => repeat (first | exact (Kd.C_below HR261_1.out HB.out) | (with_reducible refine cA ?_ _) | (with_reducible refine cN ?_ _) | (with_reducible refine cD ?_))); (case side2 => exact HC261_1.out); rintro e w33 ⟨rfl, hb⟩; refine ⟨_, rfl, ?_⟩; replace HO_47 := zK (Kd.R_below (zr HO_47) hb); replace BK249 := zK (blk_below (g := gb249) (o := .cells #[.slice (some ad261) l0.length c0] 22 (0, 0)) (zb BK249) hb); replace BK250 := zK (blk_below (g := gb250) (o := .cells #[.int .i64 a1] 3 (0, 0)) (zb BK250) hb); replace HB := zK (below_step (zo HB) hb); (try clear hb); (try clear hb2); (try clear hk); (try clear hi)) | ((with_reducible refine zC (f := 64) rfl ?_); refine goesL_ (some 68) rfl rfl Try.func64 (by kernel_rfl) rfl #[.int .u64 (IntKind.u64.wrap (-(IntKind.u64.wrap (t262)))), .int .u64 (IntKind.u64.wrap (x7_1))] rfl (by (try simp only [List.map_toArray, List.map_cons, List.map_nil]); first | done | rfl | (simp only [List.length_drop, List.length_take]; rfl)) ?_; (with_reducible refine (shadow_many.calls (IntKind.u64.wrap (-(IntKind.u64.wrap (t262)))) (IntKind.u64.wrap (x7_1)) t263 _ A31.out).mono ?_); rintro e w' ⟨rfl, ⟨nd, rfl⟩⟩; refine ⟨_, rfl, ?_⟩))
              go_roundg k2
              case measure => have := HK1.out; have := HK2.out; omega
              case rel => exact ⟨(IntKind.u64.wrap (x10_2 + (ji32))), (wrap64 (x49_2 + 1)), (by first | rfl | (simp; done) | (simp only [← hji32] <;> (first | rfl | simp)) | (simp [*]; done)), (by first | rfl | (simp; done) | (simp [*]; done)), H', ⟨by have := HK1.out; have := HK2.out; omega⟩, ⟨zr HO_47⟩, ⟨zb BK249⟩, ⟨zb BK250⟩, ⟨zo HB⟩⟩
             ·rw [if_neg c30] at H
              have c30b0 : decide (2 ≤ (IntKind.u64.wrap (-(IntKind.u64.wrap (t262))))) = false := decide_eq_false c30
              clear c30
              have H' := zK H; clear H
              have p260 : 0 ≤ (x49_2 : Int) := of_decide_eq_true (by first | (with_reducible assumption) | assumption)
              have q260 : x49_2 < (t257.length : Int) := of_decide_eq_true (by first | (with_reducible assumption) | assumption)
              obtain ⟨ad260, e260, hx260_0⟩ := Kd.at_int (Kd.R_reads' HO_47.out).2.2 x49_2 p260 q260
              cases e260
              replace p260 := eq_true p260
              replace q260 := eq_true q260
              have p261 : 0 ≤ ((rd t257 x49_2) : Int) := of_decide_eq_true (by first | (with_reducible assumption) | assumption)
              have q261 : (rd t257 x49_2) < (l0.length : Int) := of_decide_eq_true (by first | (with_reducible assumption) | assumption)
              obtain ⟨ad261, A261_1, c261_1, e261, hx261_0, hx261_1, hx261_2, hl261_1, hi261_1⟩ := at_T70 HR0.out (rd t257 x49_2) p261 q261
              cases e261
              replace hx261_0 := (HB.out.cell (World.block_lt_of_cell? w _ hx261_0)).trans hx261_0
              replace hx261_1 := (HB.out.cell (World.block_lt_of_cell? w _ hx261_1)).trans hx261_1
              replace hx261_2 := (HB.out.cell (World.block_lt_of_cell? w _ hx261_2)).trans hx261_2
              have HR261_1 := zK hi261_1
              have HC261_1 := zK hl261_1; clear hi261_1 hl261_1
              replace p261 := eq_true p261
              replace q261 := eq_true q261
              go_wp2_with (first | ((with_reducible refine zC (f := 46) rfl ?_); refine goesL_ (some 59) rfl rfl Try.func46 (by kernel_rfl) rfl #[.agg #[.int .i64 ((rd_T70 l0 (rd t257 x49_2)).f0.f0), .slice A261_1 ((rd_T70 l0 (rd t257 x49_2)).f0.f1).length c261_1], .int .i64 a1] rfl (by (try simp only [List.map_toArray, List.map_cons, List.map_nil]); first | done | rfl | (simp only [List.length_drop, List.length_take]; rfl)) ?_; (with_reducible refine (lin_By.calls k2 ((rd_T70 l0 (rd t257 x49_2)).f0.f0) _ _ ((rd_T70 l0 (rd t257 x49_2)).f0.f1) a1 t262 _ ?side1 ?side2 A29.out).mono ?_); (case side1 => repeat (first | exact (Kd.C_below HR261_1.out HB.out) | (with_reducible refine cA ?_ _) | (with_reducible refine cN ?_ _) | (with_reducible refine cD ?_))); (case side2 => exact HC261_1.out); rintro e w34 ⟨rfl, hb⟩; refine ⟨_, rfl, ?_⟩; replace HO_47 := zK (Kd.R_below (zr HO_47) hb); replace BK249 := zK (blk_below (g := gb249) (o := .cells #[.slice (some ad261) l0.length c0] 22 (0, 0)) (zb BK249) hb); replace BK250 := zK (blk_below (g := gb250) (o := .cells #[.int .i64 a1] 3 (0, 0)) (zb BK250) hb); replace HB := zK (below_step (zo HB) hb); (try clear hb); (try clear hb2); (try clear hk); (try clear hi)))
              go_roundg k2
              case measure => have := HK1.out; have := HK2.out; omega
              case rel => exact ⟨(x10_2), (wrap64 (x49_2 + 1)), (by first | rfl | (simp; done) | (simp [*]; done)), (by first | rfl | (simp; done) | (simp [*]; done)), H', ⟨by have := HK1.out; have := HK2.out; omega⟩, ⟨zr HO_47⟩, ⟨zb BK249⟩, ⟨zb BK250⟩, ⟨zo HB⟩⟩
            ·rw [if_neg c28] at H
             exact absurd H (by simp)
           ·rw [if_neg c27] at H
            exact absurd H (by simp)
          ·rw [if_neg c26] at H
           exact absurd H (by simp)
         ·rw [if_neg c25] at H
          exact absurd H (by simp)
        ·rw [if_neg c24] at H
         have c24b0 : decide (x49_2 < (t257.length : Int)) = false := decide_eq_false c24
         clear c24
         by_cases c35 : x10_2 > 1024
         ·rw [if_pos c35] at H
          have c35b0 : decide (1024 < x10_2) = true := decide_eq_true c35; clear c35
          simp only [Option.some.injEq, Prod.mk.injEq] at H
          obtain ⟨rfl, rfl⟩ := H
          go_wp2
          go_ret2
          exact ⟨_, by first | rfl | (simp [errW_none, errW_some] <;> rfl) | (simp [*, errW_none, errW_some] <;> rfl), by first | exact Kd.S_nil _ _ _ _ _ | exact Kd.N_nil _ _ _ _ _ | exact Kd.V_nil _ _ _ _ _ | exact Kd.Q_nil _ _ _ _ _ | exact Kd.R_nil _ _ _ _ _, zo HB⟩
         ·rw [if_neg c35] at H
          have c35b0 : decide (1024 < x10_2) = false := decide_eq_false c35; clear c35
          replace H := Option.bind_eq_some_iff.mp H
          obtain ⟨t264, A360, H⟩ := H
          replace H : (shadow_Splits.l2 k2 l0 a1 x7_1 ([] : List (S62)) t264 (t264.length : Int) 0) = some (r1, r2) := H
          have A36 := zK A360; clear A360
          have H' := zK H; clear H
          go_wp2_with (first | (go_at_call 82; (with_reducible refine (shadow_bounds_1.calls k2 (-1) A0 c0 l0 gb249 a1 gb250 t264 _ ?side1 ?side2 ?side3 ?side4 ?side5 A36.out).mono ?_); (case side1 => repeat (first | exact (Kd.C_below HR0.out HB.out) | (with_reducible refine cA ?_ _) | (with_reducible refine cN ?_ _) | (with_reducible refine cD ?_))); (case side2 => exact HC0.out); (case side3 => exact (zb BK249)); (case side4 => exact (zb BK250)); (case side5 => exact NB249_250.out); rintro e w37 ⟨v265, rfl, ho0, hb⟩; have HO266 := zK (Kd.R_lower (Kd.R_newB (Kd.R_new' ho0 (Kd.R_lt (zr HO_47))) (g := gb250) (o := .cells #[.int .i64 a1] 3 (0, 0)) (zb BK250)) (below_size (zo HB))); replace HO_47 := zK (Kd.R_elder' (zr HO_47) (Kd.R_base ho0) hb); replace BK249 := zK (blk_below (g := gb249) (o := .cells #[.slice A0 l0.length c0] 22 (0, 0)) (zb BK249) hb); replace BK250 := zK (blk_below (g := gb250) (o := .cells #[.int .i64 a1] 3 (0, 0)) (zb BK250) hb); replace HB := zK (below_step (zo HB) hb); (try clear hb); (try clear hb2); (try clear hk); (try clear hi); (try clear ho0); obtain ⟨Ao38, co38, eo38⟩ := Kd.R_slice HO266.out; subst eo38))
          go_loopg [14, 77] k2 (fun kq v14 v77 w' => ∃ (x14_3 : List (S62)) (x77_3 : Int), v77 = .int .i64 x77_3 ∧ Aside0 (shadow_Splits.l2 kq l0 a1 x7_1 x14_3 t264 (t264.length : Int) x77_3 = some (r1, r2)) ∧ Aside0 (kq ≤ k2) ∧ Aside0 (Kd.S k62 62 w' w.heap.size (fun _ => True) v14 x14_3) ∧ Aside0 (Kd.R (Kd.int .i64) 3 w' w.heap.size (fun k_ => k_ ≠ gb250) (.slice Ao38 t264.length co38) t264) ∧ Aside0 (w'.heap[gb249]? = some (.cells #[(.slice A0 l0.length c0)] 22 (0, 0))) ∧ Aside0 (w'.heap[gb250]? = some (.cells #[.int .i64 a1] 3 (0, 0))) ∧ Aside0 (Below w.heap.size w w'))
          case atStart => exact ⟨(([] : List (S62))), (0), (by first | rfl | (simp; done) | (simp [*]; done)), H', ⟨Nat.le_refl _⟩, ⟨by first | exact Kd.S_nil _ _ _ _ _ | exact Kd.N_nil _ _ _ _ _ | exact Kd.V_nil _ _ _ _ _ | exact Kd.Q_nil _ _ _ _ _ | exact Kd.R_nil _ _ _ _ _⟩, ⟨by (with_reducible repeat (first | apply Kd.R_alloc | apply Kd.R_drewN | apply Kd.R_drew)); exact Kd.R_mono HO266.out (fun _ hk => hk.2)⟩, ⟨zb BK249⟩, ⟨zb BK250⟩, ⟨zo HB⟩⟩
          case round =>
           clear H'; try clear c1; try clear c2; try clear p2
           try clear q2; try clear hx2; try clear c3; try clear c4
           try clear c5; try clear c6; try clear p6; try clear c12
           try clear c12b0; try clear c13; try clear c13b0; try clear c14
           try clear c14b0; try clear c15; try clear c15b0; try clear c16
           try clear c16b0; try clear c20; try clear c20b0; try clear c24
           try clear c24b0; try clear c25; try clear c25b0; try clear p25
           try clear q25; try clear hx25; try clear c26; try clear c26b0
           try clear p26; try clear q26; try clear hx26; try clear c27
           try clear c27b0; try clear c28; try clear c28b0; try clear c30
           try clear c30b0; try clear c31; try clear c35; try clear c35b0
           try clear hx254_0; try clear hx255_0; try clear hx255_1; try clear hx255_2
           try clear hx260_0; try clear hx261_0; try clear hx261_1; try clear hx261_2
           try clear p2; try clear p254; try clear p255; try clear p260
           try clear p261; try clear p6; try clear q2; try clear q254; try clear q255; try clear q260; try clear q261
           obtain ⟨x14_3, x77_3, rfl, HA, HK3, HO_14, HO_75, BK249, BK250, HB⟩ := hrel
           cases gk with
           | zero => exact absurd HA.out (by simp [shadow_Splits.l2])
           | succ k3 =>
            have H := HA.out; clear HA
            simp only [shadow_Splits.l2] at H
            by_cases c39 : x77_3 < (t264.length : Int)
            ·rw [if_pos c39] at H
             have c39b0 : decide (x77_3 < (t264.length : Int)) = true := decide_eq_true c39
             clear c39
             by_cases c40 : 0 ≤ x77_3
             ·rw [if_pos c40] at H
              have c40b0 : decide (0 ≤ x77_3) = true := decide_eq_true c40; clear c40
              by_cases c41 : x77_3 < (t264.length : Int)
              ·rw [if_pos c41] at H
               have c41b0 : decide (x77_3 < (t264.length : Int)) = true := decide_eq_true c41
               clear c41
               by_cases c42 : 0 ≤ (rd t264 x77_3)
               ·rw [if_pos c42] at H
                have c42b0 : decide (0 ≤ (rd t264 x77_3)) = true := decide_eq_true c42
                clear c42
                by_cases c43 : (rd t264 x77_3) < (l0.length : Int)
                ·rw [if_pos c43] at H
                 have c43b0 : decide ((rd t264 x77_3) < (l0.length : Int)) = true := decide_eq_true c43
                 clear c43; replace H := Option.bind_eq_some_iff.mp H
                 obtain ⟨t269, A440, H⟩ := H
                 replace H : (if (IntKind.u64.wrap (-(IntKind.u64.wrap (t269)))) < 2 then (shadow_Splits.l2 k3 l0 a1 x7_1 x14_3 t264 (t264.length : Int) (wrap64 (x77_3 + 1))) else ((shadow_many.f (IntKind.u64.wrap (-(IntKind.u64.wrap (t269)))) (IntKind.u64.wrap (x7_1))).bind fun t270 => (shadow_Splits.l3 k3 l0 a1 x7_1 x14_3 (rd t264 x77_3) t264 (t264.length : Int) x77_3 t270 0))) = some (r1, r2) := H
                 have A44 := zK A440; clear A440
                 by_cases c45 : (IntKind.u64.wrap (-(IntKind.u64.wrap (t269)))) < 2
                 ·rw [if_pos c45] at H
                  have c45b0 : decide ((IntKind.u64.wrap (-(IntKind.u64.wrap (t269)))) < 2) = true := decide_eq_true c45
                  clear c45
                  have H' := zK H; clear H
                  have p267 : 0 ≤ (x77_3 : Int) := of_decide_eq_true (by first | (with_reducible assumption) | assumption)
                  have q267 : x77_3 < (t264.length : Int) := of_decide_eq_true (by first | (with_reducible assumption) | assumption)
                  obtain ⟨ad267, e267, hx267_0⟩ := Kd.at_int (Kd.R_reads' HO_75.out).2.2 x77_3 p267 q267
                  cases e267
                  replace p267 := eq_true p267
                  replace q267 := eq_true q267
                  have p268 : 0 ≤ ((rd t264 x77_3) : Int) := of_decide_eq_true (by first | (with_reducible assumption) | assumption)
                  have q268 : (rd t264 x77_3) < (l0.length : Int) := of_decide_eq_true (by first | (with_reducible assumption) | assumption)
                  obtain ⟨ad268, A268_1, c268_1, e268, hx268_0, hx268_1, hx268_2, hl268_1, hi268_1⟩ := at_T70 HR0.out (rd t264 x77_3) p268 q268
                  cases e268
                  replace hx268_0 := (HB.out.cell (World.block_lt_of_cell? w _ hx268_0)).trans hx268_0
                  replace hx268_1 := (HB.out.cell (World.block_lt_of_cell? w _ hx268_1)).trans hx268_1
                  replace hx268_2 := (HB.out.cell (World.block_lt_of_cell? w _ hx268_2)).trans hx268_2
                  have HR268_1 := zK hi268_1
                  have HC268_1 := zK hl268_1; clear hi268_1 hl268_1
                  replace p268 := eq_true p268
                  replace q268 := eq_true q268
                  go_wp2_with (first | ((with_reducible refine zC (f := 46) rfl ?_); refine goesL_ (some 87) rfl rfl Try.func46 (by kernel_rfl) rfl #[.agg #[.int .i64 ((rd_T70 l0 (rd t264 x77_3)).f0.f0), .slice A268_1 ((rd_T70 l0 (rd t264 x77_3)).f0.f1).length c268_1], .int .i64 a1] rfl (by (try simp only [List.map_toArray, List.map_cons, List.map_nil]); first | done | rfl | (simp only [List.length_drop, List.length_take]; rfl)) ?_; (with_reducible refine (lin_By.calls k3 ((rd_T70 l0 (rd t264 x77_3)).f0.f0) _ _ ((rd_T70 l0 (rd t264 x77_3)).f0.f1) a1 t269 _ ?side1 ?side2 A44.out).mono ?_); (case side1 => repeat (first | exact (Kd.C_below HR268_1.out HB.out) | (with_reducible refine cA ?_ _) | (with_reducible refine cN ?_ _) | (with_reducible refine cD ?_))); (case side2 => exact HC268_1.out); rintro e w46 ⟨rfl, hb⟩; refine ⟨_, rfl, ?_⟩; replace HO_14 := zK (Kd.S_below (by (with_reducible repeat (first | apply Kd.S_alloc | apply Kd.S_drewN | apply Kd.S_drew)); exact HO_14.out) hb); replace HO_75 := zK (Kd.R_below (zr HO_75) hb); replace BK249 := zK (blk_below (g := gb249) (o := .cells #[.slice (some ad268) l0.length c0] 22 (0, 0)) (zb BK249) hb); replace BK250 := zK (blk_below (g := gb250) (o := .cells #[.int .i64 a1] 3 (0, 0)) (zb BK250) hb); replace HB := zK (below_step (zo HB) hb); (try clear hb); (try clear hb2); (try clear hk); (try clear hi)))
                  go_roundg k3
                  case measure => have := HK1.out; have := HK2.out; have := HK3.out; omega
                  case rel => exact ⟨(x14_3), (wrap64 (x77_3 + 1)), (by first | rfl | (simp; done) | (simp [*]; done)), H', ⟨by have := HK1.out; have := HK2.out; have := HK3.out; omega⟩, ⟨by (with_reducible repeat (first | apply Kd.S_alloc | apply Kd.S_drewN | apply Kd.S_drew)); exact HO_14.out⟩, ⟨zr HO_75⟩, ⟨zb BK249⟩, ⟨zb BK250⟩, ⟨zo HB⟩⟩
                 ·rw [if_neg c45] at H
                  have c45b0 : decide ((IntKind.u64.wrap (-(IntKind.u64.wrap (t269)))) < 2) = false := decide_eq_false c45
                  clear c45; replace H := Option.bind_eq_some_iff.mp H
                  obtain ⟨t270, A470, H⟩ := H
                  replace H : (shadow_Splits.l3 k3 l0 a1 x7_1 x14_3 (rd t264 x77_3) t264 (t264.length : Int) x77_3 t270 0) = some (r1, r2) := H
                  have A47 := zK A470; clear A470
                  have H' := zK H; clear H
                  have p267 : 0 ≤ (x77_3 : Int) := of_decide_eq_true (by first | (with_reducible assumption) | assumption)
                  have q267 : x77_3 < (t264.length : Int) := of_decide_eq_true (by first | (with_reducible assumption) | assumption)
                  obtain ⟨ad267, e267, hx267_0⟩ := Kd.at_int (Kd.R_reads' HO_75.out).2.2 x77_3 p267 q267
                  cases e267
                  replace p267 := eq_true p267
                  replace q267 := eq_true q267
                  have p268 : 0 ≤ ((rd t264 x77_3) : Int) := of_decide_eq_true (by first | (with_reducible assumption) | assumption)
                  have q268 : (rd t264 x77_3) < (l0.length : Int) := of_decide_eq_true (by first | (with_reducible assumption) | assumption)
                  obtain ⟨ad268, A268_1, c268_1, e268, hx268_0, hx268_1, hx268_2, hl268_1, hi268_1⟩ := at_T70 HR0.out (rd t264 x77_3) p268 q268
                  cases e268
                  replace hx268_0 := (HB.out.cell (World.block_lt_of_cell? w _ hx268_0)).trans hx268_0
                  replace hx268_1 := (HB.out.cell (World.block_lt_of_cell? w _ hx268_1)).trans hx268_1
                  replace hx268_2 := (HB.out.cell (World.block_lt_of_cell? w _ hx268_2)).trans hx268_2
                  have HR268_1 := zK hi268_1
                  have HC268_1 := zK hl268_1; clear hi268_1 hl268_1
                  replace p268 := eq_true p268
                  replace q268 := eq_true q268
                  go_wp2_with (first | ((with_reducible refine zC (f := 46) rfl ?_); refine goesL_ (some 87) rfl rfl Try.func46 (by kernel_rfl) rfl #[.agg #[.int .i64 ((rd_T70 l0 (rd t264 x77_3)).f0.f0), .slice A268_1 ((rd_T70 l0 (rd t264 x77_3)).f0.f1).length c268_1], .int .i64 a1] rfl (by (try simp only [List.map_toArray, List.map_cons, List.map_nil]); first | done | rfl | (simp only [List.length_drop, List.length_take]; rfl)) ?_; (with_reducible refine (lin_By.calls k3 ((rd_T70 l0 (rd t264 x77_3)).f0.f0) _ _ ((rd_T70 l0 (rd t264 x77_3)).f0.f1) a1 t269 _ ?side1 ?side2 A44.out).mono ?_); (case side1 => repeat (first | exact (Kd.C_below HR268_1.out HB.out) | (with_reducible refine cA ?_ _) | (with_reducible refine cN ?_ _) | (with_reducible refine cD ?_))); (case side2 => exact HC268_1.out); rintro e w48 ⟨rfl, hb⟩; refine ⟨_, rfl, ?_⟩; replace HO_14 := zK (Kd.S_below (by (with_reducible repeat (first | apply Kd.S_alloc | apply Kd.S_drewN | apply Kd.S_drew)); exact HO_14.out) hb); replace HO_75 := zK (Kd.R_below (zr HO_75) hb); replace BK249 := zK (blk_below (g := gb249) (o := .cells #[.slice (some ad268) l0.length c0] 22 (0, 0)) (zb BK249) hb); replace BK250 := zK (blk_below (g := gb250) (o := .cells #[.int .i64 a1] 3 (0, 0)) (zb BK250) hb); replace HB := zK (below_step (zo HB) hb); (try clear hb); (try clear hb2); (try clear hk); (try clear hi)) | ((with_reducible refine zC (f := 64) rfl ?_); refine goesL_ (some 95) rfl rfl Try.func64 (by kernel_rfl) rfl #[.int .u64 (IntKind.u64.wrap (-(IntKind.u64.wrap (t269)))), .int .u64 (IntKind.u64.wrap (x7_1))] rfl (by (try simp only [List.map_toArray, List.map_cons, List.map_nil]); first | done | rfl | (simp only [List.length_drop, List.length_take]; rfl)) ?_; (with_reducible refine (shadow_many.calls (IntKind.u64.wrap (-(IntKind.u64.wrap (t269)))) (IntKind.u64.wrap (x7_1)) t270 _ A47.out).mono ?_); rintro e w' ⟨rfl, ⟨nd, rfl⟩⟩; refine ⟨_, rfl, ?_⟩))
                  go_loopg [14, 96] k3 (fun kq v14 v96 w' => ∃ (x14_4 : List (S62)) (x96_4 : Int), v96 = .int .u64 x96_4 ∧ Aside0 (shadow_Splits.l3 kq l0 a1 x7_1 x14_4 (rd t264 x77_3) t264 (t264.length : Int) x77_3 t270 x96_4 = some (r1, r2)) ∧ Aside0 (kq ≤ k3) ∧ Aside0 (Kd.S k62 62 w' w.heap.size (fun _ => True) v14 x14_4) ∧ Aside0 (Kd.R (Kd.int .i64) 3 w' w.heap.size (fun k_ => k_ ≠ gb250) (.slice (some ad267) t264.length co38) t264) ∧ Aside0 (w'.heap[gb249]? = some (.cells #[(.slice (some ad268) l0.length c0)] 22 (0, 0))) ∧ Aside0 (w'.heap[gb250]? = some (.cells #[.int .i64 a1] 3 (0, 0))) ∧ Aside0 (Below w.heap.size w w'))
                  case atStart => exact ⟨(x14_3), (0), (by first | rfl | (simp; done) | (simp [*]; done)), H', ⟨Nat.le_refl _⟩, ⟨by (with_reducible repeat (first | apply Kd.S_alloc | apply Kd.S_drewN | apply Kd.S_drew)); exact HO_14.out⟩, ⟨zr HO_75⟩, ⟨zb BK249⟩, ⟨zb BK250⟩, ⟨zo HB⟩⟩
                  case round =>
                   clear H'; try clear c1; try clear c2; try clear p2
                   try clear q2; try clear hx2; try clear c3; try clear c4
                   try clear c5; try clear c6; try clear p6; try clear c12
                   try clear c12b0; try clear c13; try clear c13b0; try clear c14
                   try clear c14b0; try clear c15; try clear c15b0; try clear c16
                   try clear c16b0; try clear c20; try clear c20b0; try clear c24
                   try clear c24b0; try clear c25; try clear c25b0; try clear p25
                   try clear q25; try clear hx25; try clear c26; try clear c26b0
                   try clear p26; try clear q26; try clear hx26; try clear c27
                   try clear c27b0; try clear c28; try clear c28b0; try clear c30
                   try clear c30b0; try clear c31; try clear c35; try clear c35b0
                   try clear c39; try clear c39b0; try clear c40; try clear c40b0
                   try clear c41; try clear c41b0; try clear c42; try clear c42b0
                   try clear c43; try clear c43b0; try clear c45; try clear c45b0
                   try clear c46; try clear hx254_0; try clear hx255_0; try clear hx255_1
                   try clear hx255_2; try clear hx260_0; try clear hx261_0; try clear hx261_1
                   try clear hx261_2; try clear hx267_0; try clear hx268_0; try clear hx268_1
                   try clear hx268_2; try clear p2; try clear p25; try clear p254
                   try clear p255; try clear p26; try clear p260; try clear p261
                   try clear p267; try clear p268; try clear p6; try clear q2
                   try clear q25; try clear q254; try clear q255; try clear q26
                   try clear q260; try clear q261; try clear q267; try clear q268
                   obtain ⟨x14_4, x96_4, rfl, HA, HK4, HO_14, HO_75, BK249, BK250, HB⟩ := hrel
                   cases gk with
                   | zero => exact absurd HA.out (by simp [shadow_Splits.l3])
                   | succ k4 =>
                    have H := HA.out; clear HA
                    simp only [shadow_Splits.l3] at H
                    by_cases c49 : x96_4 < t270
                    ·rw [if_pos c49] at H
                     have c49b0 : decide (x96_4 < t270) = true := decide_eq_true c49; clear c49
                     by_cases c50 : 0 ≤ (rd t264 x77_3)
                     ·rw [if_pos c50] at H
                      have c50b0 : decide (0 ≤ (rd t264 x77_3)) = true := decide_eq_true c50
                      clear c50
                      by_cases c51 : (rd t264 x77_3) < (l0.length : Int)
                      ·rw [if_pos c51] at H
                       have c51b0 : decide ((rd t264 x77_3) < (l0.length : Int)) = true := decide_eq_true c51
                       clear c51; replace H := Option.bind_eq_some_iff.mp H
                       obtain ⟨⟨t272, t273, t276⟩, A520, H⟩ := H
                       replace H : (if t276 = true then (if x14_4.length < 4398046511104 then (shadow_Splits.l3 k4 l0 a1 x7_1 (x14_4 ++ [(⟨t272, t273⟩ : S62)]) (rd t264 x77_3) t264 (t264.length : Int) x77_3 t270 (IntKind.u64.wrap (x96_4 + 1))) else (none)) else (some (([] : List (S62)), 5))) = some (r1, r2) := H
                       have A52 := zK A520; clear A520
                       by_cases c53 : t276 = true
                       ·subst c53
                        have H1 : (if x14_4.length < 4398046511104 then (shadow_Splits.l3 k4 l0 a1 x7_1 (x14_4 ++ [(⟨t272, t273⟩ : S62)]) (rd t264 x77_3) t264 (t264.length : Int) x77_3 t270 (IntKind.u64.wrap (x96_4 + 1))) else (none)) = some (r1, r2) := by rw [if_pos rfl] at H; exact H
                        clear H; have H := H1; clear H1
                        by_cases c54 : x14_4.length < 4398046511104
                        ·rw [if_pos c54] at H
                         have LMc54 := zK c54; clear c54
                         obtain ⟨y278, hy278⟩ : ∃ y_ : List (S62), y_ = (x14_4 ++ [(⟨t272, t273⟩ : S62)]) := ⟨_, rfl⟩
                         replace H : (shadow_Splits.l3 k4 l0 a1 x7_1 y278 (rd t264 x77_3) t264 (t264.length : Int) x77_3 t270 (IntKind.u64.wrap (x96_4 + 1))) = some (r1, r2) := by first | (rw [hy278]; with_reducible exact H) | (have H2_ := (Option.bind_some _ _).symm.trans H; rw [hy278]; with_reducible exact H2_) | (have H2_ := (Option.bind_some _ _).symm.trans H; with_reducible exact H2_) | with_reducible exact H | (rw [hy278]; exact H) | exact H
                         have Ny278 := zK hy278; clear hy278
                         have H' := zK H; clear H
                         have p271 : 0 ≤ ((rd t264 x77_3) : Int) := of_decide_eq_true (by first | (with_reducible assumption) | assumption)
                         have q271 : (rd t264 x77_3) < (l0.length : Int) := of_decide_eq_true (by first | (with_reducible assumption) | assumption)
                         obtain ⟨ad271, A271_1, c271_1, e271, hx271_0, hx271_1, hx271_2, hl271_1, hi271_1⟩ := at_T70 HR0.out (rd t264 x77_3) p271 q271
                         obtain rfl : ad268 = ad271 := (by injection e271)
                         replace hx271_0 := (HB.out.cell (World.block_lt_of_cell? w _ hx271_0)).trans hx271_0
                         replace hx271_1 := (HB.out.cell (World.block_lt_of_cell? w _ hx271_1)).trans hx271_1
                         replace hx271_2 := (HB.out.cell (World.block_lt_of_cell? w _ hx271_2)).trans hx271_2
                         have HR271_1 := zK hi271_1
                         have HC271_1 := zK hl271_1; clear hi271_1 hl271_1
                         replace p271 := eq_true p271
                         replace q271 := eq_true q271
                         go_wp2_with (first | ((with_reducible refine zC (f := 65) rfl ?_); refine goesL_ (some 108) rfl rfl Try.func65 (by kernel_rfl) rfl #[.agg #[.int .i64 ((rd_T70 l0 (rd t264 x77_3)).f0.f0), .slice A271_1 ((rd_T70 l0 (rd t264 x77_3)).f0.f1).length c271_1], .int .i64 a1, .int .i64 (wrap64 (x96_4))] rfl (by (try simp only [List.map_toArray, List.map_cons, List.map_nil]); first | done | rfl | (simp only [List.length_drop, List.length_take]; rfl)) ?_; (with_reducible refine (shadow_split.calls k4 ((rd_T70 l0 (rd t264 x77_3)).f0.f0) _ _ ((rd_T70 l0 (rd t264 x77_3)).f0.f1) a1 (wrap64 (x96_4)) t272 t273 true _ ?side1 ?side2 A52.out).mono ?_); (case side1 => repeat (first | exact (Kd.C_below HR271_1.out HB.out) | (with_reducible refine cA ?_ _) | (with_reducible refine cN ?_ _) | (with_reducible refine cD ?_))); (case side2 => exact HC271_1.out); rintro e w55 ⟨v274, rfl, ho0, hb⟩; refine ⟨_, rfl, ?_⟩; replace HO_14 := zK (Kd.S_elder' (by (with_reducible repeat (first | apply Kd.S_alloc | apply Kd.S_drewN | apply Kd.S_drew)); exact HO_14.out) (Kd.R_base ho0) hb); replace HO_75 := zK (Kd.R_below (zr HO_75) hb); have HO275 := zK (Kd.R_lower ho0 (below_size (zo HB))); replace BK249 := zK (blk_below (g := gb249) (o := .cells #[.slice (some ad268) l0.length c0] 22 (0, 0)) (zb BK249) hb); replace BK250 := zK (blk_below (g := gb250) (o := .cells #[.int .i64 a1] 3 (0, 0)) (zb BK250) hb); replace HB := zK (below_step (zo HB) hb); (try clear hb); (try clear hb2); (try clear hk); (try clear hi); (try clear ho0)) | ((with_reducible refine gate_dst (N := 19) rfl ?_); refine box_event ?hg (N := 19) ?hd (cs := #[.int .i64 0, .slice none 0 0]) (t := 62) ?hr ?_; (case hd => rfl); (case hg => rfl); (case hr => first | (go_simp; done) | (go_simp; rfl)); intro gb277 hg w56 hbox hb; replace HO_14 := zK (Kd.S_below (Kd.S_elderB (by (with_reducible repeat (first | apply Kd.S_alloc | apply Kd.S_drewN | apply Kd.S_drew)); exact HO_14.out) gb277 (Nat.le_of_eq hg.symm)) hb); replace HO_75 := zK (Kd.R_below (zr HO_75) hb); replace HO275 := zK (Kd.R_below (zr HO275) hb); have BK277 := zK (hbox); have GW277 := zK ((by rw [hg]; exact (below_size (zo HB)) : w.heap.size ≤ gb277)); have GE277 := zK ((by rw [hg]; exact (below_size (zo HB)) : w.heap.size ≤ gb277)); replace HB := zK (below_step (zo HB) hb); have NB249_277 := zK ((by rw [hg]; exact Nat.ne_of_lt (blk_lt (g := gb249) (o := .cells #[.slice (some ad268) l0.length c0] 22 (0, 0)) (zb BK249)) : gb249 ≠ gb277)); have NB277_249 := zK ((by rw [hg]; exact Nat.ne_of_gt (blk_lt (g := gb249) (o := .cells #[.slice (some ad268) l0.length c0] 22 (0, 0)) (zb BK249)) : gb277 ≠ gb249)); replace BK249 := zK (blk_below (g := gb249) (o := .cells #[.slice (some ad268) l0.length c0] 22 (0, 0)) (zb BK249) hb); have NB250_277 := zK ((by rw [hg]; exact Nat.ne_of_lt (blk_lt (g := gb250) (o := .cells #[.int .i64 a1] 3 (0, 0)) (zb BK250)) : gb250 ≠ gb277)); have NB277_250 := zK ((by rw [hg]; exact Nat.ne_of_gt (blk_lt (g := gb250) (o := .cells #[.int .i64 a1] 3 (0, 0)) (zb BK250)) : gb277 ≠ gb250)); replace BK250 := zK (blk_below (g := gb250) (o := .cells #[.int .i64 a1] 3 (0, 0)) (zb BK250) hb); clear hb hbox hg; have hnb57 := NB277_249.out; have hnc57 := NB249_277.out; have hnb58 := NB277_250.out; have hnc58 := NB250_277.out; have hcz59_0 : w56.cell? ⟨gb277, 0, none⟩ = some (.int .i64 0) := (blk_cell BK277.out 0).trans rfl; have hcz59_1 : w56.cell? ⟨gb277, 1, none⟩ = some (.slice none 0 0) := (blk_cell BK277.out 1).trans rfl; have hfz59_0 := blk_frozen BK277.out 0; have hfz59_1 := blk_frozen BK277.out 1; obtain ⟨Ao60, co60, eo60⟩ := Kd.R_slice HO275.out; subst eo60) | ((with_reducible refine gate_store (t := 62) (p := 19) rfl ?_); refine store_event (t := 62) (p := 19) (v := ?vo_w61) (w1 := ((w56.setCell ⟨gb277, 0, none⟩ (.int .i64 t272)).setCell ⟨gb277, 1, none⟩ (.slice Ao60 t273.length co60))) ?hg ?ho ?hn ?hr ?_; (case ho => rfl); (case hg => rfl); (case hn => rfl); (case hr => first | (go_simp; done) | (go_simp; rfl)); intro w61 hw; have n0_ : Aside0 (Kd.S k62 62 w61 w.heap.size (fun k_ => some k_ ≠ (.slice Ao60 t273.length co60 : Value).ownBlock ∧ k_ ≠ gb277) u14 x14_4) := ⟨(by rw [hw]; exact (by (with_reducible repeat (first | apply Kd.S_alloc | apply Kd.S_drewN | apply Kd.S_drew)); exact Kd.S_mono (Kd.S_far (p := ⟨gb277, 1, none⟩) (Kd.S_far (p := ⟨gb277, 0, none⟩) (Kd.S_mono HO_14.out (fun k_ hk => (⟨hk, hk.2⟩ : _ ∧ k_ ≠ gb277))) (fun _ hk => hk.2) (.int .i64 t272)) (fun _ hk => hk.2) (.slice Ao60 t273.length co60)) (fun _ hk => ⟨hk.1.1.2, hk.1.2⟩)))⟩; have n1_ : Aside0 (Kd.R (Kd.int .i64) 3 w61 w.heap.size (fun k_ => k_ ≠ gb250) (.slice (some ad267) t264.length co38) t264) := ⟨(by rw [hw]; exact (by (with_reducible repeat (first | apply Kd.R_alloc | apply Kd.R_drewN | apply Kd.R_drew)); exact Kd.R_mono (Kd.R_far (p := ⟨gb277, 1, none⟩) (Kd.R_far (p := ⟨gb277, 0, none⟩) (Kd.R_types HO_75.out BK277.out (by decide)) (fun _ hk => hk.2) (.int .i64 t272)) (fun _ hk => hk.2) (.slice Ao60 t273.length co60)) (fun _ hk => hk.1)))⟩; have n2_ : Aside0 (Kd.R k68 68 w61 w.heap.size (fun _ => True) (.slice Ao60 t273.length co60) t273) := ⟨(by rw [hw]; exact (by (with_reducible repeat (first | apply Kd.R_alloc | apply Kd.R_drewN | apply Kd.R_drew)); exact Kd.R_mono (Kd.R_far (p := ⟨gb277, 1, none⟩) (Kd.R_far (p := ⟨gb277, 0, none⟩) (Kd.R_types HO275.out BK277.out (by decide)) (fun _ hk => hk.2) (.int .i64 t272)) (fun _ hk => hk.2) (.slice Ao60 t273.length co60)) (fun _ hk => trivial)))⟩; have n3_ : Aside0 (w61.heap[gb249]? = some (.cells #[.slice (some ad268) l0.length c0] 22 (0, 0))) := ⟨(by rw [hw]; exact (zb BK249))⟩; have n4_ : Aside0 (w61.heap[gb250]? = some (.cells #[.int .i64 a1] 3 (0, 0))) := ⟨(by rw [hw]; exact (zb BK250))⟩; have n5_ : Aside0 (w61.heap[gb277]? = some (.cells #[.int .i64 t272, .slice Ao60 t273.length co60] 62 (0, 0))) := ⟨(by rw [hw]; exact (by refine zM ?_; refine blk_put (cs := #[.int .i64 t272, .slice none 0 0]) ?_ 1 _ rfl; refine zM ?_; refine blk_put (cs := #[.int .i64 0, .slice none 0 0]) ?_ 0 _ rfl; refine zM ?_; exact BK277.out))⟩; have n6_ : Aside0 (Below w.heap.size w w61) := ⟨(by rw [hw]; exact (zo HB))⟩; clear hw HO_14 HO_75 HO275 BK249 BK250 BK277 HB; have HO_14 := n0_; have HO_75 := n1_; have HO275 := n2_; have BK249 := n3_; have BK250 := n4_; have BK277 := n5_; have HB := n6_; clear n0_ n1_ n2_ n3_ n4_ n5_ n6_; have hcz62_0 : w61.cell? ⟨gb277, 0, none⟩ = some (.int .i64 t272) := (blk_cell BK277.out 0).trans rfl; have hcz62_1 : w61.cell? ⟨gb277, 1, none⟩ = some (.slice Ao60 t273.length co60) := (blk_cell BK277.out 1).trans rfl; have hfz62_0 := blk_frozen BK277.out 0; have hfz62_1 := blk_frozen BK277.out 1) | ((with_reducible refine gate_builtin (b := .append) (xs := #[.tmp 113, .tmp 115]) rfl ?_); at_builtin; refine Kd.S_append k62 (w0 := w) w.heap.size rfl (.tmp 113) (.tmp 115) 54 62 (.agg #[(.int .i64 0), (.slice none 0 0)]) 32 rfl Try.underlying54 info62 rfl (by decide) (by omega) u14 x14_4 (⟨t272, t273⟩ : S62) [.int .i64 t272, .slice Ao60 t273.length co60] (fun k_ => k_ ≠ gb277) (fun k_ => some k_ = (.slice Ao60 t273.length co60 : Value).ownBlock) rfl rfl ?aP (fun k_ hk_ => ((Kd.R_mono (ok' := fun k_ => ((fun k_ => k_ ≠ gb277)) k_ ∧ some k_ ≠ (u14 : Value).ownBlock) (Kd.R_types (Kd.R_apart' (HO275.out) (Kd.S_typed HO_14.out) (by decide)) BK277.out (by decide)) (fun k_ hk => ⟨hk.2, hk.1.2⟩))).1 k_ hk_.symm) ?aF ?aO ?aB ?aS ?aL ?_; (case aP => exact k62_mkM _ _ _ (⟨t272, t273⟩ : S62) (Kd.R_mono (Kd.R_tight rfl (Kd.R_mono (ok' := fun k_ => ((fun k_ => k_ ≠ gb277)) k_ ∧ some k_ ≠ (u14 : Value).ownBlock) (Kd.R_types (Kd.R_apart' (HO275.out) (Kd.S_typed HO_14.out) (by decide)) BK277.out (by decide)) (fun k_ hk => ⟨hk.2, hk.1.2⟩))) (fun _ h_ => h_))); (case aB => exact (zo HB)); (case aF => exact (fun k_ hk => Kd.freshB (g := gb277) (o := .cells #[.int .i64 t272, .slice Ao60 t273.length co60] 62 (0, 0)) (zb BK277) k_ hk)); (case aO => exact (by (with_reducible repeat (first | apply Kd.S_alloc | apply Kd.S_drewN | apply Kd.S_drew)); exact Kd.S_mono HO_14.out (fun k_ hk => ⟨hk.2, fun e_ => hk.1 e_⟩))); (case aS => exact (below_size (zo HB))); (case aL => have := LMc54.out; omega); intro v279 w63 ho hb hg hat; rw [← Ny278.out] at ho; replace HO_75 := zK (Kd.R_over' (zr HO_75) (Kd.S_typed (by (with_reducible repeat (first | apply Kd.S_alloc | apply Kd.S_drewN | apply Kd.S_drew)); exact HO_14.out)) (by decide) hg); replace BK249 := zK (blk_grown (g := gb249) (o := .cells #[.slice (some ad268) l0.length c0] 22 (0, 0)) (zb BK249) hg (Kd.S_ne HO_14.out BK249.out (by decide))); replace BK250 := zK (blk_grown (g := gb250) (o := .cells #[.int .i64 a1] 3 (0, 0)) (zb BK250) hg (Kd.S_ne HO_14.out BK250.out (by decide))); replace BK277 := zK (blk_grown (g := gb277) (o := .cells #[.int .i64 t272, .slice Ao60 t273.length co60] 62 (0, 0)) (zb BK277) hg (Kd.S_away HO_14.out (fun _ hk => hk.2))); replace HB := zK (hb); have HO280 := zK (ho); clear HO_14 HO275 ho hb hg hat))
                         go_roundg k4
                         case measure => have := HK1.out; have := HK2.out; have := HK3.out; have := HK4.out; omega
                         case rel => exact ⟨(y278), (IntKind.u64.wrap (x96_4 + 1)), (by first | rfl | (simp; done) | (simp [*]; done)), H', ⟨by have := HK1.out; have := HK2.out; have := HK3.out; have := HK4.out; omega⟩, ⟨by (with_reducible repeat (first | apply Kd.S_alloc | apply Kd.S_drewN | apply Kd.S_drew)); exact Kd.S_mono HO280.out (fun _ hk => trivial)⟩, ⟨zr HO_75⟩, ⟨zb BK249⟩, ⟨zb BK250⟩, ⟨zo HB⟩⟩
                        ·rw [if_neg c54] at H
                         exact absurd H (by simp)
                       ·replace c53 := Bool.eq_false_iff.mpr c53
                        subst c53
                        have H1 : (some (([] : List (S62)), 5)) = some (r1, r2) := by rw [if_neg (show ¬ (false = true) by decide)] at H; exact H
                        clear H; have H := H1; clear H1
                        simp only [Option.some.injEq, Prod.mk.injEq] at H
                        obtain ⟨rfl, rfl⟩ := H
                        have p271 : 0 ≤ ((rd t264 x77_3) : Int) := of_decide_eq_true (by first | (with_reducible assumption) | assumption)
                        have q271 : (rd t264 x77_3) < (l0.length : Int) := of_decide_eq_true (by first | (with_reducible assumption) | assumption)
                        obtain ⟨ad271, A271_1, c271_1, e271, hx271_0, hx271_1, hx271_2, hl271_1, hi271_1⟩ := at_T70 HR0.out (rd t264 x77_3) p271 q271
                        obtain rfl : ad268 = ad271 := (by injection e271)
                        replace hx271_0 := (HB.out.cell (World.block_lt_of_cell? w _ hx271_0)).trans hx271_0
                        replace hx271_1 := (HB.out.cell (World.block_lt_of_cell? w _ hx271_1)).trans hx271_1
                        replace hx271_2 := (HB.out.cell (World.block_lt_of_cell? w _ hx271_2)).trans hx271_2
                        have HR271_1 := zK hi271_1
                        have HC271_1 := zK hl271_1; clear hi271_1 hl271_1
                        replace p271 := eq_true p271
                        replace q271 := eq_true q271
                        go_wp2_with (first | ((with_reducible refine zC (f := 65) rfl ?_); refine goesL_ (some 108) rfl rfl Try.func65 (by kernel_rfl) rfl #[.agg #[.int .i64 ((rd_T70 l0 (rd t264 x77_3)).f0.f0), .slice A271_1 ((rd_T70 l0 (rd t264 x77_3)).f0.f1).length c271_1], .int .i64 a1, .int .i64 (wrap64 (x96_4))] rfl (by (try simp only [List.map_toArray, List.map_cons, List.map_nil]); first | done | rfl | (simp only [List.length_drop, List.length_take]; rfl)) ?_; (with_reducible refine (shadow_split.calls k4 ((rd_T70 l0 (rd t264 x77_3)).f0.f0) _ _ ((rd_T70 l0 (rd t264 x77_3)).f0.f1) a1 (wrap64 (x96_4)) t272 t273 false _ ?side1 ?side2 A52.out).mono ?_); (case side1 => repeat (first | exact (Kd.C_below HR271_1.out HB.out) | (with_reducible refine cA ?_ _) | (with_reducible refine cN ?_ _) | (with_reducible refine cD ?_))); (case side2 => exact HC271_1.out); rintro e w64 ⟨v274, rfl, ho0, hb⟩; refine ⟨_, rfl, ?_⟩; replace HO_14 := zK (Kd.S_elder' (by (with_reducible repeat (first | apply Kd.S_alloc | apply Kd.S_drewN | apply Kd.S_drew)); exact HO_14.out) (Kd.R_base ho0) hb); replace HO_75 := zK (Kd.R_below (zr HO_75) hb); have HO275 := zK (Kd.R_lower ho0 (below_size (zo HB))); replace BK249 := zK (blk_below (g := gb249) (o := .cells #[.slice (some ad268) l0.length c0] 22 (0, 0)) (zb BK249) hb); replace BK250 := zK (blk_below (g := gb250) (o := .cells #[.int .i64 a1] 3 (0, 0)) (zb BK250) hb); replace HB := zK (below_step (zo HB) hb); (try clear hb); (try clear hb2); (try clear hk); (try clear hi); (try clear ho0)) | ((with_reducible refine gate_dst (N := 19) rfl ?_); refine box_event ?hg (N := 19) ?hd (cs := #[.int .i64 0, .slice none 0 0]) (t := 62) ?hr ?_; (case hd => rfl); (case hg => rfl); (case hr => first | (go_simp; done) | (go_simp; rfl)); intro gb277 hg w65 hbox hb; replace HO_14 := zK (Kd.S_below (Kd.S_elderB (by (with_reducible repeat (first | apply Kd.S_alloc | apply Kd.S_drewN | apply Kd.S_drew)); exact HO_14.out) gb277 (Nat.le_of_eq hg.symm)) hb); replace HO_75 := zK (Kd.R_below (zr HO_75) hb); replace HO275 := zK (Kd.R_below (zr HO275) hb); have BK277 := zK (hbox); have GW277 := zK ((by rw [hg]; exact (below_size (zo HB)) : w.heap.size ≤ gb277)); have GE277 := zK ((by rw [hg]; exact (below_size (zo HB)) : w.heap.size ≤ gb277)); replace HB := zK (below_step (zo HB) hb); have NB249_277 := zK ((by rw [hg]; exact Nat.ne_of_lt (blk_lt (g := gb249) (o := .cells #[.slice (some ad268) l0.length c0] 22 (0, 0)) (zb BK249)) : gb249 ≠ gb277)); have NB277_249 := zK ((by rw [hg]; exact Nat.ne_of_gt (blk_lt (g := gb249) (o := .cells #[.slice (some ad268) l0.length c0] 22 (0, 0)) (zb BK249)) : gb277 ≠ gb249)); replace BK249 := zK (blk_below (g := gb249) (o := .cells #[.slice (some ad268) l0.length c0] 22 (0, 0)) (zb BK249) hb); have NB250_277 := zK ((by rw [hg]; exact Nat.ne_of_lt (blk_lt (g := gb250) (o := .cells #[.int .i64 a1] 3 (0, 0)) (zb BK250)) : gb250 ≠ gb277)); have NB277_250 := zK ((by rw [hg]; exact Nat.ne_of_gt (blk_lt (g := gb250) (o := .cells #[.int .i64 a1] 3 (0, 0)) (zb BK250)) : gb277 ≠ gb250)); replace BK250 := zK (blk_below (g := gb250) (o := .cells #[.int .i64 a1] 3 (0, 0)) (zb BK250) hb); clear hb hbox hg; have hnb66 := NB277_249.out; have hnc66 := NB249_277.out; have hnb67 := NB277_250.out; have hnc67 := NB250_277.out; have hcz68_0 : w65.cell? ⟨gb277, 0, none⟩ = some (.int .i64 0) := (blk_cell BK277.out 0).trans rfl; have hcz68_1 : w65.cell? ⟨gb277, 1, none⟩ = some (.slice none 0 0) := (blk_cell BK277.out 1).trans rfl; have hfz68_0 := blk_frozen BK277.out 0; have hfz68_1 := blk_frozen BK277.out 1; obtain ⟨Ao69, co69, eo69⟩ := Kd.R_slice HO275.out; subst eo69))
                        go_ret2
                        exact ⟨_, by first | rfl | (simp [errW_none, errW_some] <;> rfl) | (simp [*, errW_none, errW_some] <;> rfl), by first | exact Kd.S_nil _ _ _ _ _ | exact Kd.N_nil _ _ _ _ _ | exact Kd.V_nil _ _ _ _ _ | exact Kd.Q_nil _ _ _ _ _ | exact Kd.R_nil _ _ _ _ _, zo HB⟩
                      ·rw [if_neg c51] at H
                       exact absurd H (by simp)
                     ·rw [if_neg c50] at H
                      exact absurd H (by simp)
                    ·rw [if_neg c49] at H
                     have c49b0 : decide (x96_4 < t270) = false := decide_eq_false c49; clear c49
                     have H' := zK H; clear H
                     go_wp2
                     go_roundg k4
                     case measure => have := HK1.out; have := HK2.out; have := HK3.out; have := HK4.out; omega
                     case rel => exact ⟨(x14_4), (wrap64 (x77_3 + 1)), (by first | rfl | (simp; done) | (simp [*]; done)), H', ⟨by have := HK1.out; have := HK2.out; have := HK3.out; have := HK4.out; omega⟩, ⟨by (with_reducible repeat (first | apply Kd.S_alloc | apply Kd.S_drewN | apply Kd.S_drew)); exact HO_14.out⟩, ⟨zr HO_75⟩, ⟨zb BK249⟩, ⟨zb BK250⟩, ⟨zo HB⟩⟩
                ·rw [if_neg c43] at H
                 exact absurd H (by simp)
               ·rw [if_neg c42] at H
                exact absurd H (by simp)
              ·rw [if_neg c41] at H
               exact absurd H (by simp)
             ·rw [if_neg c40] at H
              exact absurd H (by simp)
            ·rw [if_neg c39] at H
             have c39b0 : decide (x77_3 < (t264.length : Int)) = false := decide_eq_false c39
             clear c39
             simp only [Option.some.injEq, Prod.mk.injEq] at H
             obtain ⟨rfl, rfl⟩ := H
             go_wp2
             go_ret2
             exact ⟨_, by first | rfl | (simp [errW_none, errW_some] <;> rfl) | (simp [*, errW_none, errW_some] <;> rfl), by (with_reducible repeat (first | apply Kd.S_alloc | apply Kd.S_drewN | apply Kd.S_drew)); exact HO_14.out, zo HB⟩

end Go.Proofs.Ytkfbfgkdabljiaa.PShadowSplits
