/- What the call of each function that the law reaches comes to: it answers as the plain function of the same name does, wherever that one answers; and the law itself out of its plain form. Written by a program of this session (an extended copy of the printer); no condition but what stands in each theorem. -/
import Derived.Test.YtkfbfgkdabljiaaPBoxWithinx0
import Derived.Test.YtkfbfgkdabljiaaPBoxWithinx1
import Derived.Test.YtkfbfgkdabljiaaPBoxWithinx3
import Derived.Test.YtkfbfgkdabljiaaPBoxWithinx5
import Derived.Test.YtkfbfgkdabljiaaPBoxWithinx8
namespace Go.Proofs.Ytkfbfgkdabljiaa.PBoxWithin
open Go.RowKit Go.Proofs.YtkfbfgkdabljiaaW.PrintWords Go.Proofs.YtkfbfgkdabljiaaW.PrintLast Go.Proofs.YtkfbfgkdabljiaaW.PrintMore
open Go.Proofs.YtkfbfgkdabljiaaW.PrintWords renaming below_alloc → yA, pw_below_drewN → yN, below_drew1 → yD
open Go.Proofs.YtkfbfgkdabljiaaW.PrintWords.Kd renaming C_alloc → cA, C_drewN → cN, C_drew → cD
open Go.Proofs.YtkfbfgkdabljiaaW.PrintWords.Aside0 renaming mk → zK
attribute [local go_sem] max2_int min2_int max_two min_two max_three min_three max_four min_four   -- for this text's walks alone
set_option linter.unusedVariables false
set_option linter.unusedSimpArgs false

/-! ### sequiturlaw32_BoxWithin: function 11 -/
mutual
def sequiturlaw32_BoxWithin.j0 : Nat → List (S70) → Int → List Int → Bool → Option (Bool)
 | 0, _, _, _, _ => none
 | k + 1, x0, x1, x2, x26 => if x26 = true then ((sequiturlaw32_alive.f k).bind fun t262 => (some t262)) else ((box_Bounds.f k x0 x1).bind fun bt263 => (if bt263.2.2 = true then ((ineq_All.f k x0 x2).bind fun bt271 => (if bt271.2 = 0 then (sequiturlaw32_BoxWithin.j1 k x1 x2 bt263.1 bt263.2.1 (decide (bt271.1 ≥ 0))) else (sequiturlaw32_BoxWithin.j1 k x1 x2 bt263.1 bt263.2.1 true))) else (if (wrap64 ((bt263.1.length : Int) + (bt263.2.1.length : Int))) = 0 then ((sequiturlaw32_alive.f k).bind fun t270 => (some t270)) else (none))))
def sequiturlaw32_BoxWithin.j1 : Nat → Int → List Int → List Int → List Int → Bool → Option (Bool)
 | 0, _, _, _, _, _ => none
 | k + 1, x1, x2, x7, x8, x57 => if x57 = true then (if (x7.length : Int) = x1 then (if (x8.length : Int) = x1 then ((sequiturlaw32_alive.f k).bind fun t273 => (some t273)) else (none)) else (none)) else (sequiturlaw32_BoxWithin.l0 k x1 x2 x7 x8 0)
def sequiturlaw32_BoxWithin.l0 : Nat → Int → List Int → List Int → List Int → Int → Option (Bool)
 | 0, _, _, _, _, _ => none
 | k + 1, x1, x2, x7, x8, x12 => if x12 < x1 then (if 0 ≤ x12 then (if x12 < (x2.length : Int) then (if x12 < (x7.length : Int) then (if (rd x2 x12) < (rd x7 x12) then (none) else (if x12 < (x8.length : Int) then (if (rd x2 x12) > (rd x8 x12) then (none) else (sequiturlaw32_BoxWithin.l0 k x1 x2 x7 x8 (wrap64 (x12 + 1)))) else (none))) else (none)) else (none)) else (none)) else ((sequiturlaw32_alive.f k).bind fun t278 => (some t278))
end
def sequiturlaw32_BoxWithin.f (k : Nat) (l0 : List (S70)) (a1 : Int) (l2 : List Int) : Option (Bool) := (sequiturlaw32_Few.f k l0 ([] : List Int) ([] : List Int) 1).bind fun t261 => (if t261 = true then (if (l2.length : Int) > 100 then (sequiturlaw32_BoxWithin.j0 k l0 a1 l2 true) else (sequiturlaw32_BoxWithin.j0 k l0 a1 l2 (decide ((l2.length : Int) < a1)))) else (sequiturlaw32_BoxWithin.j0 k l0 a1 l2 true))
theorem sequiturlaw32_BoxWithin.mono_l : ∀ k, (∀ y0 y1 y2 y3, LeO (sequiturlaw32_BoxWithin.j0 k y0 y1 y2 y3) (sequiturlaw32_BoxWithin.j0 (k + 1) y0 y1 y2 y3)) ∧ (∀ y0 y1 y2 y3 y4, LeO (sequiturlaw32_BoxWithin.j1 k y0 y1 y2 y3 y4) (sequiturlaw32_BoxWithin.j1 (k + 1) y0 y1 y2 y3 y4)) ∧ (∀ y0 y1 y2 y3 y4, LeO (sequiturlaw32_BoxWithin.l0 k y0 y1 y2 y3 y4) (sequiturlaw32_BoxWithin.l0 (k + 1) y0 y1 y2 y3 y4))
 | 0 => ⟨fun _ _ _ _ r h => by simp [sequiturlaw32_BoxWithin.j0] at h, fun _ _ _ _ _ r h => by simp [sequiturlaw32_BoxWithin.j1] at h, fun _ _ _ _ _ r h => by simp [sequiturlaw32_BoxWithin.l0] at h⟩
 | k + 1 => by
  obtain ⟨ih0, ih1, ih2⟩ := sequiturlaw32_BoxWithin.mono_l k
  refine ⟨?_, ?_, ?_⟩
  ·intro y0 y1 y2 y3
   unfold sequiturlaw32_BoxWithin.j0
   repeat' first
   | (with_reducible exact ih0 _ _ _ _)
   | (with_reducible exact ih1 _ _ _ _ _)
   | (with_reducible exact ih2 _ _ _ _ _)
   | (with_reducible exact box_Bounds.mono _ _ _)
   | (with_reducible exact ineq_All.mono _ _ _)
   | (with_reducible exact sequiturlaw32_Few.mono _ _ _ _ _)
   | (with_reducible exact sequiturlaw32_alive.mono _)
   | (with_reducible exact LeO.refl _)
   | (with_reducible exact LeO.none _)
   | (with_reducible refine LeO.ite ?_ ?_)
   | (with_reducible refine LeO.bind ?_ (fun _ => ?_))
   | exact ih0 _ _ _ _
   | exact ih1 _ _ _ _ _
   | exact ih2 _ _ _ _ _
   | exact box_Bounds.mono _ _ _
   | exact ineq_All.mono _ _ _
   | exact sequiturlaw32_Few.mono _ _ _ _ _
   | exact sequiturlaw32_alive.mono _
   | exact LeO.none _
   | refine LeO.ite ?_ ?_
   | refine LeO.bind ?_ (fun _ => ?_)
  ·intro y0 y1 y2 y3 y4
   unfold sequiturlaw32_BoxWithin.j1
   repeat' first
   | (with_reducible exact ih0 _ _ _ _)
   | (with_reducible exact ih1 _ _ _ _ _)
   | (with_reducible exact ih2 _ _ _ _ _)
   | (with_reducible exact box_Bounds.mono _ _ _)
   | (with_reducible exact ineq_All.mono _ _ _)
   | (with_reducible exact sequiturlaw32_Few.mono _ _ _ _ _)
   | (with_reducible exact sequiturlaw32_alive.mono _)
   | (with_reducible exact LeO.refl _)
   | (with_reducible exact LeO.none _)
   | (with_reducible refine LeO.ite ?_ ?_)
   | (with_reducible refine LeO.bind ?_ (fun _ => ?_))
   | exact ih0 _ _ _ _
   | exact ih1 _ _ _ _ _
   | exact ih2 _ _ _ _ _
   | exact box_Bounds.mono _ _ _
   | exact ineq_All.mono _ _ _
   | exact sequiturlaw32_Few.mono _ _ _ _ _
   | exact sequiturlaw32_alive.mono _
   | exact LeO.none _
   | refine LeO.ite ?_ ?_
   | refine LeO.bind ?_ (fun _ => ?_)
  ·intro y0 y1 y2 y3 y4
   unfold sequiturlaw32_BoxWithin.l0
   repeat' first
   | (with_reducible exact ih0 _ _ _ _)
   | (with_reducible exact ih1 _ _ _ _ _)
   | (with_reducible exact ih2 _ _ _ _ _)
   | (with_reducible exact box_Bounds.mono _ _ _)
   | (with_reducible exact ineq_All.mono _ _ _)
   | (with_reducible exact sequiturlaw32_Few.mono _ _ _ _ _)
   | (with_reducible exact sequiturlaw32_alive.mono _)
   | (with_reducible exact LeO.refl _)
   | (with_reducible exact LeO.none _)
   | (with_reducible refine LeO.ite ?_ ?_)
   | (with_reducible refine LeO.bind ?_ (fun _ => ?_))
   | exact ih0 _ _ _ _
   | exact ih1 _ _ _ _ _
   | exact ih2 _ _ _ _ _
   | exact box_Bounds.mono _ _ _
   | exact ineq_All.mono _ _ _
   | exact sequiturlaw32_Few.mono _ _ _ _ _
   | exact sequiturlaw32_alive.mono _
   | exact LeO.none _
   | refine LeO.ite ?_ ?_
   | refine LeO.bind ?_ (fun _ => ?_)
theorem sequiturlaw32_BoxWithin.mono : ∀ a0 a1 a2 k, LeO (sequiturlaw32_BoxWithin.f k a0 a1 a2) (sequiturlaw32_BoxWithin.f (k + 1) a0 a1 a2) := by
 intro a0 a1 a2 k
 obtain ⟨ih0, ih1, ih2⟩ := sequiturlaw32_BoxWithin.mono_l k
 unfold sequiturlaw32_BoxWithin.f
 repeat' first
   | (with_reducible exact ih0 _ _ _ _)
   | (with_reducible exact ih1 _ _ _ _ _)
   | (with_reducible exact ih2 _ _ _ _ _)
   | (with_reducible exact box_Bounds.mono _ _ _)
   | (with_reducible exact ineq_All.mono _ _ _)
   | (with_reducible exact sequiturlaw32_Few.mono _ _ _ _ _)
   | (with_reducible exact sequiturlaw32_alive.mono _)
   | (with_reducible exact LeO.refl _)
   | (with_reducible exact LeO.none _)
   | (with_reducible refine LeO.ite ?_ ?_)
   | (with_reducible refine LeO.bind ?_ (fun _ => ?_))
   | exact ih0 _ _ _ _
   | exact ih1 _ _ _ _ _
   | exact ih2 _ _ _ _ _
   | exact box_Bounds.mono _ _ _
   | exact ineq_All.mono _ _ _
   | exact sequiturlaw32_Few.mono _ _ _ _ _
   | exact sequiturlaw32_alive.mono _
   | exact LeO.none _
   | refine LeO.ite ?_ ?_
   | refine LeO.bind ?_ (fun _ => ?_)
set_option maxHeartbeats 8000000 in
set_option maxRecDepth 100000 in
theorem sequiturlaw32_BoxWithin.calls (k : Nat) (A0 : Option Addr) (c0 : Nat) (l0 : List (S70)) (a1 : Int) (A2 : Option Addr) (c2 : Nat) (l2 : List Int) (r : Bool) (w : World) (hr0 : Kd.C k70 w A0 l0.length l0) (hc0 : l0.length ≤ c0) (hr2 : Kd.C (Kd.int .i64) w A2 l2.length l2) (hc2 : l2.length ≤ c2) (h : sequiturlaw32_BoxWithin.f k l0 a1 l2 = some r) :
  Calls Try.prog 11 #[.slice A0 l0.length c0, .int .i64 a1, .slice A2 l2.length c2] w fun e w' => e = .returned (.bool r) ∧ Below w.heap.size w w' := by
 have HR0 := zK hr0
 have HC0 := zK hc0; clear hr0 hc0
 have HR2 := zK hr2
 have HC2 := zK hc2; clear hr2 hc2
 have HB := zK (Below.refl w.heap.size w)
 have H : ((sequiturlaw32_Few.f k l0 ([] : List Int) ([] : List Int) 1).bind fun t261 => (if t261 = true then (if (l2.length : Int) > 100 then (sequiturlaw32_BoxWithin.j0 k l0 a1 l2 true) else (sequiturlaw32_BoxWithin.j0 k l0 a1 l2 (decide ((l2.length : Int) < a1)))) else (sequiturlaw32_BoxWithin.j0 k l0 a1 l2 true))) = some r := h
 clear h
 have HC4 := zK H; clear H
 go_enter Try.func11, Try.ntmps11
 go_upto_region 1 with (fail)
 repeat (go_quiet (fail); go_upto_region 1 with (fail))
 go_cut [26] (fun v26 wc => ∃ (kq : Nat) (x26_3 : Bool), v26 = .bool x26_3 ∧ Aside0 (sequiturlaw32_BoxWithin.j0 kq l0 a1 l2 x26_3 = some r) ∧ Aside0 (kq ≤ k) ∧ Aside0 (Below w.heap.size w wc))
 case first =>
  have H := HC4.out; clear HC4; replace H := Option.bind_eq_some_iff.mp H
  obtain ⟨t261, A50, H⟩ := H
  replace H : (if t261 = true then (if (l2.length : Int) > 100 then (sequiturlaw32_BoxWithin.j0 k l0 a1 l2 true) else (sequiturlaw32_BoxWithin.j0 k l0 a1 l2 (decide ((l2.length : Int) < a1)))) else (sequiturlaw32_BoxWithin.j0 k l0 a1 l2 true)) = some r := H
  have A5 := zK A50; clear A50
  by_cases c6 : t261 = true
  ·subst c6
   have H1 : (if (l2.length : Int) > 100 then (sequiturlaw32_BoxWithin.j0 k l0 a1 l2 true) else (sequiturlaw32_BoxWithin.j0 k l0 a1 l2 (decide ((l2.length : Int) < a1)))) = some r := by rw [if_pos rfl] at H; exact H
   clear H; have H := H1; clear H1
   by_cases c7 : (l2.length : Int) > 100
   ·rw [if_pos c7] at H
    have c7b0 : decide (100 < (l2.length : Int)) = true := decide_eq_true c7
    have c7b1 : decide (100 < l2.length) = true := decide_eq_true (by omega)
    clear c7
    (first | rw [c7b0] | (simp only [i64_w, i32_w]; rw [c7b0]) | skip)
    have H' := zK H; clear H
    go_wp2_with (first | (go_at_call 20; (refine (sequiturlaw32_Few.calls k _ _ l0 _ _ ([] : List Int) _ _ ([] : List Int) 1 true _ ?side1 ?side2 ?side3 ?side4 ?side5 ?side6 A5.out).mono ?_); (case side1 => repeat (first | exact (Kd.C_below HR0.out HB.out) | (with_reducible refine cA ?_ _) | (with_reducible refine cN ?_ _) | (with_reducible refine cD ?_))); (case side2 => exact HC0.out); (case side3 => exact Kd.C_nil _ _); (case side4 => exact Nat.le_refl _); (case side5 => exact Kd.C_nil _ _); (case side6 => exact Nat.le_refl _); rintro e w8 ⟨rfl, hb⟩; replace HB := zK (below_step (zo HB) hb); (try clear hb); (try clear hb2); (try clear hk); (try clear hi)))
    repeat (go_quiet (first | (go_at_call 20; (refine (sequiturlaw32_Few.calls k _ _ l0 _ _ ([] : List Int) _ _ ([] : List Int) 1 true _ ?side1 ?side2 ?side3 ?side4 ?side5 ?side6 A5.out).mono ?_); (case side1 => repeat (first | exact (Kd.C_below HR0.out HB.out) | (with_reducible refine cA ?_ _) | (with_reducible refine cN ?_ _) | (with_reducible refine cD ?_))); (case side2 => exact HC0.out); (case side3 => exact Kd.C_nil _ _); (case side4 => exact Nat.le_refl _); (case side5 => exact Kd.C_nil _ _); (case side6 => exact Nat.le_refl _); rintro e w8 ⟨rfl, hb⟩; replace HB := zK (below_step (zo HB) hb); (try clear hb); (try clear hb2); (try clear hk); (try clear hi))); try go_wp2_with (first | (go_at_call 20; (refine (sequiturlaw32_Few.calls k _ _ l0 _ _ ([] : List Int) _ _ ([] : List Int) 1 true _ ?side1 ?side2 ?side3 ?side4 ?side5 ?side6 A5.out).mono ?_); (case side1 => repeat (first | exact (Kd.C_below HR0.out HB.out) | (with_reducible refine cA ?_ _) | (with_reducible refine cN ?_ _) | (with_reducible refine cD ?_))); (case side2 => exact HC0.out); (case side3 => exact Kd.C_nil _ _); (case side4 => exact Nat.le_refl _); (case side5 => exact Kd.C_nil _ _); (case side6 => exact Nat.le_refl _); rintro e w8 ⟨rfl, hb⟩; replace HB := zK (below_step (zo HB) hb); (try clear hb); (try clear hb2); (try clear hk); (try clear hi))))
    go_meet
    case rel => exact ⟨_, (true), (by first | rfl | (simp; done) | (simp [*]; done)), H', ⟨by first | omega | exact Nat.le_refl _⟩, ⟨zo HB⟩⟩
   ·rw [if_neg c7] at H
    have c7b0 : decide (100 < (l2.length : Int)) = false := decide_eq_false c7
    have c7b1 : decide (100 < l2.length) = false := decide_eq_false (by omega)
    clear c7
    (first | rw [c7b0] | (simp only [i64_w, i32_w]; rw [c7b0]) | skip)
    have H' := zK H; clear H
    go_wp2_with (first | (go_at_call 20; (refine (sequiturlaw32_Few.calls k _ _ l0 _ _ ([] : List Int) _ _ ([] : List Int) 1 true _ ?side1 ?side2 ?side3 ?side4 ?side5 ?side6 A5.out).mono ?_); (case side1 => repeat (first | exact (Kd.C_below HR0.out HB.out) | (with_reducible refine cA ?_ _) | (with_reducible refine cN ?_ _) | (with_reducible refine cD ?_))); (case side2 => exact HC0.out); (case side3 => exact Kd.C_nil _ _); (case side4 => exact Nat.le_refl _); (case side5 => exact Kd.C_nil _ _); (case side6 => exact Nat.le_refl _); rintro e w9 ⟨rfl, hb⟩; replace HB := zK (below_step (zo HB) hb); (try clear hb); (try clear hb2); (try clear hk); (try clear hi)))
    repeat (go_quiet (first | (go_at_call 20; (refine (sequiturlaw32_Few.calls k _ _ l0 _ _ ([] : List Int) _ _ ([] : List Int) 1 true _ ?side1 ?side2 ?side3 ?side4 ?side5 ?side6 A5.out).mono ?_); (case side1 => repeat (first | exact (Kd.C_below HR0.out HB.out) | (with_reducible refine cA ?_ _) | (with_reducible refine cN ?_ _) | (with_reducible refine cD ?_))); (case side2 => exact HC0.out); (case side3 => exact Kd.C_nil _ _); (case side4 => exact Nat.le_refl _); (case side5 => exact Kd.C_nil _ _); (case side6 => exact Nat.le_refl _); rintro e w9 ⟨rfl, hb⟩; replace HB := zK (below_step (zo HB) hb); (try clear hb); (try clear hb2); (try clear hk); (try clear hi))); try go_wp2_with (first | (go_at_call 20; (refine (sequiturlaw32_Few.calls k _ _ l0 _ _ ([] : List Int) _ _ ([] : List Int) 1 true _ ?side1 ?side2 ?side3 ?side4 ?side5 ?side6 A5.out).mono ?_); (case side1 => repeat (first | exact (Kd.C_below HR0.out HB.out) | (with_reducible refine cA ?_ _) | (with_reducible refine cN ?_ _) | (with_reducible refine cD ?_))); (case side2 => exact HC0.out); (case side3 => exact Kd.C_nil _ _); (case side4 => exact Nat.le_refl _); (case side5 => exact Kd.C_nil _ _); (case side6 => exact Nat.le_refl _); rintro e w9 ⟨rfl, hb⟩; replace HB := zK (below_step (zo HB) hb); (try clear hb); (try clear hb2); (try clear hk); (try clear hi))))
    go_meet
    case rel => exact ⟨_, (decide ((l2.length : Int) < a1)), (by first | rfl | (simp; done) | (simp [*]; done)), H', ⟨by first | omega | exact Nat.le_refl _⟩, ⟨zo HB⟩⟩
  ·replace c6 := Bool.eq_false_iff.mpr c6
   subst c6
   have H1 : (sequiturlaw32_BoxWithin.j0 k l0 a1 l2 true) = some r := by rw [if_neg (show ¬ (false = true) by decide)] at H; exact H
   clear H; have H := H1; clear H1
   have H' := zK H; clear H
   go_wp2_with (first | (go_at_call 20; (refine (sequiturlaw32_Few.calls k _ _ l0 _ _ ([] : List Int) _ _ ([] : List Int) 1 false _ ?side1 ?side2 ?side3 ?side4 ?side5 ?side6 A5.out).mono ?_); (case side1 => repeat (first | exact (Kd.C_below HR0.out HB.out) | (with_reducible refine cA ?_ _) | (with_reducible refine cN ?_ _) | (with_reducible refine cD ?_))); (case side2 => exact HC0.out); (case side3 => exact Kd.C_nil _ _); (case side4 => exact Nat.le_refl _); (case side5 => exact Kd.C_nil _ _); (case side6 => exact Nat.le_refl _); rintro e w10 ⟨rfl, hb⟩; replace HB := zK (below_step (zo HB) hb); (try clear hb); (try clear hb2); (try clear hk); (try clear hi)))
   repeat (go_quiet (first | (go_at_call 20; (refine (sequiturlaw32_Few.calls k _ _ l0 _ _ ([] : List Int) _ _ ([] : List Int) 1 false _ ?side1 ?side2 ?side3 ?side4 ?side5 ?side6 A5.out).mono ?_); (case side1 => repeat (first | exact (Kd.C_below HR0.out HB.out) | (with_reducible refine cA ?_ _) | (with_reducible refine cN ?_ _) | (with_reducible refine cD ?_))); (case side2 => exact HC0.out); (case side3 => exact Kd.C_nil _ _); (case side4 => exact Nat.le_refl _); (case side5 => exact Kd.C_nil _ _); (case side6 => exact Nat.le_refl _); rintro e w10 ⟨rfl, hb⟩; replace HB := zK (below_step (zo HB) hb); (try clear hb); (try clear hb2); (try clear hk); (try clear hi))); try go_wp2_with (first | (go_at_call 20; (refine (sequiturlaw32_Few.calls k _ _ l0 _ _ ([] : List Int) _ _ ([] : List Int) 1 false _ ?side1 ?side2 ?side3 ?side4 ?side5 ?side6 A5.out).mono ?_); (case side1 => repeat (first | exact (Kd.C_below HR0.out HB.out) | (with_reducible refine cA ?_ _) | (with_reducible refine cN ?_ _) | (with_reducible refine cD ?_))); (case side2 => exact HC0.out); (case side3 => exact Kd.C_nil _ _); (case side4 => exact Nat.le_refl _); (case side5 => exact Kd.C_nil _ _); (case side6 => exact Nat.le_refl _); rintro e w10 ⟨rfl, hb⟩; replace HB := zK (below_step (zo HB) hb); (try clear hb); (try clear hb2); (try clear hk); (try clear hi))))
   go_meet
   case rel => exact ⟨_, (true), (by first | rfl | (simp; done) | (simp [*]; done)), H', ⟨by first | omega | exact Nat.le_refl _⟩, ⟨zo HB⟩⟩
 case rest =>
  clear HC4; try clear c1; try clear c2; try clear p2
  try clear c6; try clear c7; try clear c7b0; try clear c7b1
  obtain ⟨kq, x26_3, rfl, HA, HJ3, HB⟩ := hcut
  cases kq with
  | zero => exact absurd HA.out (by simp [sequiturlaw32_BoxWithin.j0])
  | succ kj3 =>
   have H := HA.out; clear HA
   simp only [sequiturlaw32_BoxWithin.j0] at H
   by_cases c11 : x26_3 = true
   ·subst c11
    have H1 : ((sequiturlaw32_alive.f kj3).bind fun t262 => (some t262)) = some r := by rw [if_pos rfl] at H; exact H
    clear H; have H := H1
    clear H1; replace H := Option.bind_eq_some_iff.mp H
    obtain ⟨t262, A120, H⟩ := H; replace H : (some t262) = some r := H
    have A12 := zK A120; clear A120
    obtain rfl := Option.some.inj H
    go_wp2_with (first | (go_at_call 21; (with_reducible refine (sequiturlaw32_alive.calls kj3  t262 _ A12.out).mono ?_); rintro e w13 ⟨rfl, hb⟩; replace HB := zK (below_step (zo HB) hb); (try clear hb); (try clear hb2); (try clear hk); (try clear hi)))
    repeat (go_quiet (first | (go_at_call 21; (with_reducible refine (sequiturlaw32_alive.calls kj3  t262 _ A12.out).mono ?_); rintro e w13 ⟨rfl, hb⟩; replace HB := zK (below_step (zo HB) hb); (try clear hb); (try clear hb2); (try clear hk); (try clear hi))); try go_wp2_with (first | (go_at_call 21; (with_reducible refine (sequiturlaw32_alive.calls kj3  t262 _ A12.out).mono ?_); rintro e w13 ⟨rfl, hb⟩; replace HB := zK (below_step (zo HB) hb); (try clear hb); (try clear hb2); (try clear hk); (try clear hi))))
    go_ret
    exact ⟨by first | rfl | (simp [errW_none, errW_some] <;> rfl) | (simp [*, errW_none, errW_some] <;> rfl), zo HB⟩
   ·replace c11 := Bool.eq_false_iff.mpr c11
    subst c11
    have H1 : ((box_Bounds.f kj3 l0 a1).bind fun bt263 => (if bt263.2.2 = true then ((ineq_All.f kj3 l0 l2).bind fun bt271 => (if bt271.2 = 0 then (sequiturlaw32_BoxWithin.j1 kj3 a1 l2 bt263.1 bt263.2.1 (decide (bt271.1 ≥ 0))) else (sequiturlaw32_BoxWithin.j1 kj3 a1 l2 bt263.1 bt263.2.1 true))) else (if (wrap64 ((bt263.1.length : Int) + (bt263.2.1.length : Int))) = 0 then ((sequiturlaw32_alive.f kj3).bind fun t270 => (some t270)) else (none)))) = some r := by rw [if_neg (show ¬ (false = true) by decide)] at H; exact H
    clear H; have H := H1
    clear H1; replace H := Option.bind_eq_some_iff.mp H
    obtain ⟨⟨t263, t264, t265⟩, A140, H⟩ := H
    replace H : (if t265 = true then ((ineq_All.f kj3 l0 l2).bind fun bt271 => (if bt271.2 = 0 then (sequiturlaw32_BoxWithin.j1 kj3 a1 l2 t263 t264 (decide (bt271.1 ≥ 0))) else (sequiturlaw32_BoxWithin.j1 kj3 a1 l2 t263 t264 true))) else (if (wrap64 ((t263.length : Int) + (t264.length : Int))) = 0 then ((sequiturlaw32_alive.f kj3).bind fun t270 => (some t270)) else (none))) = some r := H
    have A14 := zK A140; clear A140
    by_cases c15 : t265 = true
    ·subst c15
     have H1 : ((ineq_All.f kj3 l0 l2).bind fun bt271 => (if bt271.2 = 0 then (sequiturlaw32_BoxWithin.j1 kj3 a1 l2 t263 t264 (decide (bt271.1 ≥ 0))) else (sequiturlaw32_BoxWithin.j1 kj3 a1 l2 t263 t264 true))) = some r := by rw [if_pos rfl] at H; exact H
     clear H; have H := H1
     clear H1; replace H := Option.bind_eq_some_iff.mp H
     obtain ⟨⟨t271, t272⟩, A160, H⟩ := H
     replace H : (if t272 = 0 then (sequiturlaw32_BoxWithin.j1 kj3 a1 l2 t263 t264 (decide (t271 ≥ 0))) else (sequiturlaw32_BoxWithin.j1 kj3 a1 l2 t263 t264 true)) = some r := H
     have A16 := zK A160; clear A160
     have HC17 := zK H; clear H
     go_upto_region 7 with (first | (go_at_call 38; (with_reducible refine (box_Bounds.calls kj3 _ _ l0 a1 t263 t264 true _ ?side1 ?side2 A14.out).mono ?_); (case side1 => repeat (first | exact (Kd.C_below HR0.out HB.out) | (with_reducible refine cA ?_ _) | (with_reducible refine cN ?_ _) | (with_reducible refine cD ?_))); (case side2 => exact HC0.out); rintro e w18 ⟨v266, v268, rfl, ho0, ho1, hb⟩; have HO267 := zK (Kd.R_lower ho0 (below_size (zo HB))); have HO269 := zK (Kd.R_lower ho1 (below_size (zo HB))); replace HB := zK (below_step (zo HB) hb); (try clear hb); (try clear hb2); (try clear hk); (try clear hi); (try clear ho0); (try clear ho1)) | (go_at_call 28; (with_reducible refine (ineq_All.calls kj3 _ _ l0 _ _ l2 t271 t272 _ ?side1 ?side2 ?side3 ?side4 A16.out).mono ?_); (case side1 => repeat (first | exact (Kd.C_below HR0.out HB.out) | (with_reducible refine cA ?_ _) | (with_reducible refine cN ?_ _) | (with_reducible refine cD ?_))); (case side2 => exact HC0.out); (case side3 => repeat (first | exact (Kd.C_below HR2.out HB.out) | (with_reducible refine cA ?_ _) | (with_reducible refine cN ?_ _) | (with_reducible refine cD ?_))); (case side4 => exact HC2.out); rintro e w19 ⟨rfl, hb⟩; replace HO267 := zK (Kd.R_below (zr HO267) hb); replace HO269 := zK (Kd.R_below (zr HO269) hb); replace HB := zK (below_step (zo HB) hb); (try clear hb); (try clear hb2); (try clear hk); (try clear hi)))
     repeat (go_quiet (first | (go_at_call 38; (with_reducible refine (box_Bounds.calls kj3 _ _ l0 a1 t263 t264 true _ ?side1 ?side2 A14.out).mono ?_); (case side1 => repeat (first | exact (Kd.C_below HR0.out HB.out) | (with_reducible refine cA ?_ _) | (with_reducible refine cN ?_ _) | (with_reducible refine cD ?_))); (case side2 => exact HC0.out); rintro e w18 ⟨v266, v268, rfl, ho0, ho1, hb⟩; have HO267 := zK (Kd.R_lower ho0 (below_size (zo HB))); have HO269 := zK (Kd.R_lower ho1 (below_size (zo HB))); replace HB := zK (below_step (zo HB) hb); (try clear hb); (try clear hb2); (try clear hk); (try clear hi); (try clear ho0); (try clear ho1)) | (go_at_call 28; (with_reducible refine (ineq_All.calls kj3 _ _ l0 _ _ l2 t271 t272 _ ?side1 ?side2 ?side3 ?side4 A16.out).mono ?_); (case side1 => repeat (first | exact (Kd.C_below HR0.out HB.out) | (with_reducible refine cA ?_ _) | (with_reducible refine cN ?_ _) | (with_reducible refine cD ?_))); (case side2 => exact HC0.out); (case side3 => repeat (first | exact (Kd.C_below HR2.out HB.out) | (with_reducible refine cA ?_ _) | (with_reducible refine cN ?_ _) | (with_reducible refine cD ?_))); (case side4 => exact HC2.out); rintro e w19 ⟨rfl, hb⟩; replace HO267 := zK (Kd.R_below (zr HO267) hb); replace HO269 := zK (Kd.R_below (zr HO269) hb); replace HB := zK (below_step (zo HB) hb); (try clear hb); (try clear hb2); (try clear hk); (try clear hi))); go_upto_region 7 with (first | (go_at_call 38; (with_reducible refine (box_Bounds.calls kj3 _ _ l0 a1 t263 t264 true _ ?side1 ?side2 A14.out).mono ?_); (case side1 => repeat (first | exact (Kd.C_below HR0.out HB.out) | (with_reducible refine cA ?_ _) | (with_reducible refine cN ?_ _) | (with_reducible refine cD ?_))); (case side2 => exact HC0.out); rintro e w18 ⟨v266, v268, rfl, ho0, ho1, hb⟩; have HO267 := zK (Kd.R_lower ho0 (below_size (zo HB))); have HO269 := zK (Kd.R_lower ho1 (below_size (zo HB))); replace HB := zK (below_step (zo HB) hb); (try clear hb); (try clear hb2); (try clear hk); (try clear hi); (try clear ho0); (try clear ho1)) | (go_at_call 28; (with_reducible refine (ineq_All.calls kj3 _ _ l0 _ _ l2 t271 t272 _ ?side1 ?side2 ?side3 ?side4 A16.out).mono ?_); (case side1 => repeat (first | exact (Kd.C_below HR0.out HB.out) | (with_reducible refine cA ?_ _) | (with_reducible refine cN ?_ _) | (with_reducible refine cD ?_))); (case side2 => exact HC0.out); (case side3 => repeat (first | exact (Kd.C_below HR2.out HB.out) | (with_reducible refine cA ?_ _) | (with_reducible refine cN ?_ _) | (with_reducible refine cD ?_))); (case side4 => exact HC2.out); rintro e w19 ⟨rfl, hb⟩; replace HO267 := zK (Kd.R_below (zr HO267) hb); replace HO269 := zK (Kd.R_below (zr HO269) hb); replace HB := zK (below_step (zo HB) hb); (try clear hb); (try clear hb2); (try clear hk); (try clear hi))))
     (try simp only [Act.put, List.setIfInBounds_toArray, List.set_cons_zero, List.set_cons_succ])
     go_cut [57] (fun v57 wc => ∃ (kq : Nat) (x57_16 : Bool), v57 = .bool x57_16 ∧ Aside0 (sequiturlaw32_BoxWithin.j1 kq a1 l2 t263 t264 x57_16 = some r) ∧ Aside0 (kq ≤ kj3) ∧ Aside0 (Kd.R (Kd.int .i64) 2 wc w.heap.size (fun k_ => some k_ ≠ (v268 : Value).ownBlock) v266 t263) ∧ Aside0 (Kd.R (Kd.int .i64) 2 wc w.heap.size (fun k_ => some k_ ≠ (v266 : Value).ownBlock) v268 t264) ∧ Aside0 (Below w.heap.size w wc))
     case first =>
      have H := HC17.out; clear HC17
      by_cases c20 : t272 = 0
      ·rw [if_pos c20] at H
       have c20b0 : (t272 == 0) = true := beq_iff_eq.mpr c20
       have c20b1 : (t272 != 0) = false := bne_eq_false_iff_eq.mpr c20; clear c20
       (first | rw [c20b0] | (simp only [i64_w, i32_w]; rw [c20b0]) | skip)
       have H' := zK H; clear H
       go_wp2
       repeat (go_quiet (fail); try go_wp2)
       go_meet
       case rel => exact ⟨_, (decide (t271 ≥ 0)), (by first | rfl | (simp; done) | (simp [*]; done)), H', ⟨by have := HJ3.out; first | omega | exact Nat.le_refl _⟩, ⟨zr HO267⟩, ⟨zr HO269⟩, ⟨zo HB⟩⟩
      ·rw [if_neg c20] at H
       have c20b0 : (t272 == 0) = false := beq_eq_false_iff_ne.mpr c20
       have c20b1 : (t272 != 0) = true := bne_iff_ne.mpr c20
       (first | rw [c20b0] | (simp only [i64_w, i32_w]; rw [c20b0]) | skip)
       have H' := zK H; clear H
       go_wp2
       repeat (go_quiet (fail); try go_wp2)
       go_meet
       case rel => exact ⟨_, (true), (by first | rfl | (simp; done) | (simp [*]; done)), H', ⟨by have := HJ3.out; first | omega | exact Nat.le_refl _⟩, ⟨zr HO267⟩, ⟨zr HO269⟩, ⟨zo HB⟩⟩
     case rest =>
      clear HC17; try clear c1; try clear c2; try clear p2
      try clear c6; try clear p6; try clear c7; try clear c7b0
      try clear c7b1; try clear c11; try clear c15; try clear c20; try clear c20b0; try clear c20b1; try clear p2
      obtain ⟨kq, x57_16, rfl, HA, HJ16, HO_7, HO_8, HB⟩ := hcut
      cases kq with
      | zero => exact absurd HA.out (by simp [sequiturlaw32_BoxWithin.j1])
      | succ kj16 =>
       have H := HA.out; clear HA
       simp only [sequiturlaw32_BoxWithin.j1] at H
       by_cases c21 : x57_16 = true
       ·subst c21
        have H1 : (if (t263.length : Int) = a1 then (if (t264.length : Int) = a1 then ((sequiturlaw32_alive.f kj16).bind fun t273 => (some t273)) else (none)) else (none)) = some r := by rw [if_pos rfl] at H; exact H
        clear H; have H := H1; clear H1
        by_cases c22 : (t263.length : Int) = a1
        ·rw [if_pos c22] at H
         have c22b0 : ((t263.length : Int) == a1) = true := beq_iff_eq.mpr c22
         have c22b1 : ((t263.length : Int) != a1) = false := bne_eq_false_iff_eq.mpr c22
         clear c22
         by_cases c23 : (t264.length : Int) = a1
         ·rw [if_pos c23] at H
          have c23b0 : ((t264.length : Int) == a1) = true := beq_iff_eq.mpr c23
          have c23b1 : ((t264.length : Int) != a1) = false := bne_eq_false_iff_eq.mpr c23
          clear c23; replace H := Option.bind_eq_some_iff.mp H
          obtain ⟨t273, A240, H⟩ := H; replace H : (some t273) = some r := H
          have A24 := zK A240; clear A240
          obtain rfl := Option.some.inj H
          obtain ⟨Ao25, co25, eo25⟩ := Kd.R_slice HO_7.out
          subst eo25
          obtain ⟨Ao26, co26, eo26⟩ := Kd.R_slice HO_8.out
          subst eo26
          go_wp2_with (first | (go_at_call 21; (with_reducible refine (sequiturlaw32_alive.calls kj16  t273 _ A24.out).mono ?_); rintro e w27 ⟨rfl, hb⟩; replace HO_7 := zK (Kd.R_below (zr HO_7) hb); replace HO_8 := zK (Kd.R_below (zr HO_8) hb); replace HB := zK (below_step (zo HB) hb); (try clear hb); (try clear hb2); (try clear hk); (try clear hi)))
          repeat (go_quiet (first | (go_at_call 21; (with_reducible refine (sequiturlaw32_alive.calls kj16  t273 _ A24.out).mono ?_); rintro e w27 ⟨rfl, hb⟩; replace HO_7 := zK (Kd.R_below (zr HO_7) hb); replace HO_8 := zK (Kd.R_below (zr HO_8) hb); replace HB := zK (below_step (zo HB) hb); (try clear hb); (try clear hb2); (try clear hk); (try clear hi))); try go_wp2_with (first | (go_at_call 21; (with_reducible refine (sequiturlaw32_alive.calls kj16  t273 _ A24.out).mono ?_); rintro e w27 ⟨rfl, hb⟩; replace HO_7 := zK (Kd.R_below (zr HO_7) hb); replace HO_8 := zK (Kd.R_below (zr HO_8) hb); replace HB := zK (below_step (zo HB) hb); (try clear hb); (try clear hb2); (try clear hk); (try clear hi))))
          go_ret
          exact ⟨by first | rfl | (simp [errW_none, errW_some] <;> rfl) | (simp [*, errW_none, errW_some] <;> rfl), zo HB⟩
         ·rw [if_neg c23] at H
          exact absurd H (by simp)
        ·rw [if_neg c22] at H
         exact absurd H (by simp)
       ·replace c21 := Bool.eq_false_iff.mpr c21
        subst c21
        have H1 : (sequiturlaw32_BoxWithin.l0 kj16 a1 l2 t263 t264 0) = some r := by rw [if_neg (show ¬ (false = true) by decide)] at H; exact H
        clear H; have H := H1; clear H1
        have H' := zK H; clear H
        go_wp2
        repeat (go_quiet (fail); try go_wp2)
        go_loopg [12] kj16 (fun kq v12 w' => ∃ (x12_3 : Int), v12 = .int .i64 x12_3 ∧ Aside0 (sequiturlaw32_BoxWithin.l0 kq a1 l2 t263 t264 x12_3 = some r) ∧ Aside0 (kq ≤ kj16) ∧ Aside0 (Kd.R (Kd.int .i64) 2 w' w.heap.size (fun k_ => some k_ ≠ (v268 : Value).ownBlock) v266 t263) ∧ Aside0 (Kd.R (Kd.int .i64) 2 w' w.heap.size (fun k_ => some k_ ≠ (v266 : Value).ownBlock) v268 t264) ∧ Aside0 (Below w.heap.size w w'))
        case atStart => exact ⟨(0), (by first | rfl | (simp; done) | (simp [*]; done)), H', ⟨Nat.le_refl _⟩, ⟨zr HO_7⟩, ⟨zr HO_8⟩, ⟨zo HB⟩⟩
        case round =>
         clear H'; try clear c1; try clear c2; try clear p2
         try clear c6; try clear p6; try clear c7; try clear c7b0
         try clear c7b1; try clear c11; try clear c15; try clear c20
         try clear c20b0; try clear c20b1; try clear c21; try clear c22
         try clear c22b0; try clear c22b1; try clear c23; try clear c23b0; try clear c23b1; try clear p2; try clear p6
         obtain ⟨x12_3, rfl, HA, HK3, HO_7, HO_8, HB⟩ := hrel
         cases gk with
         | zero => exact absurd HA.out (by simp [sequiturlaw32_BoxWithin.l0])
         | succ k3 =>
          have H := HA.out; clear HA
          simp only [sequiturlaw32_BoxWithin.l0] at H
          by_cases c28 : x12_3 < a1
          ·rw [if_pos c28] at H
           have c28b0 : decide (x12_3 < a1) = true := decide_eq_true c28; clear c28
           by_cases c29 : 0 ≤ x12_3
           ·rw [if_pos c29] at H
            have c29b0 : decide (0 ≤ x12_3) = true := decide_eq_true c29; clear c29
            by_cases c30 : x12_3 < (l2.length : Int)
            ·rw [if_pos c30] at H
             have c30b0 : decide (x12_3 < (l2.length : Int)) = true := decide_eq_true c30
             clear c30
             by_cases c31 : x12_3 < (t263.length : Int)
             ·rw [if_pos c31] at H
              have c31b0 : decide (x12_3 < (t263.length : Int)) = true := decide_eq_true c31
              clear c31
              by_cases c32 : (rd l2 x12_3) < (rd t263 x12_3)
              ·rw [if_pos c32] at H
               exact absurd H (by simp)
              ·rw [if_neg c32] at H
               have c32b0 : decide ((rd l2 x12_3) < (rd t263 x12_3)) = false := decide_eq_false c32
               clear c32
               by_cases c33 : x12_3 < (t264.length : Int)
               ·rw [if_pos c33] at H
                have c33b0 : decide (x12_3 < (t264.length : Int)) = true := decide_eq_true c33
                clear c33
                by_cases c34 : (rd l2 x12_3) > (rd t264 x12_3)
                ·rw [if_pos c34] at H
                 exact absurd H (by simp)
                ·rw [if_neg c34] at H
                 have c34b0 : decide ((rd t264 x12_3) < (rd l2 x12_3)) = false := decide_eq_false c34
                 clear c34
                 have H' := zK H; clear H
                 have p274 : 0 ≤ (x12_3 : Int) := of_decide_eq_true (by first | (with_reducible assumption) | assumption)
                 have q274 : x12_3 < (l2.length : Int) := of_decide_eq_true (by first | (with_reducible assumption) | assumption)
                 obtain ⟨ad274, e274, hx274_0⟩ := Kd.at_int HR2.out x12_3 p274 q274
                 cases e274
                 replace hx274_0 := (HB.out.cell (World.block_lt_of_cell? w _ hx274_0)).trans hx274_0
                 replace p274 := eq_true p274
                 replace q274 := eq_true q274
                 obtain ⟨Ao35, co35, eo35⟩ := Kd.R_slice HO_7.out
                 subst eo35
                 have p275 : 0 ≤ (x12_3 : Int) := of_decide_eq_true (by first | (with_reducible assumption) | assumption)
                 have q275 : x12_3 < (t263.length : Int) := of_decide_eq_true (by first | (with_reducible assumption) | assumption)
                 obtain ⟨ad275, e275, hx275_0⟩ := Kd.at_int (Kd.R_reads' HO_7.out).2.2 x12_3 p275 q275
                 cases e275
                 replace p275 := eq_true p275
                 replace q275 := eq_true q275
                 have p276 : 0 ≤ (x12_3 : Int) := of_decide_eq_true (by first | (with_reducible assumption) | assumption)
                 have q276 : x12_3 < (l2.length : Int) := of_decide_eq_true (by first | (with_reducible assumption) | assumption)
                 obtain ⟨ad276, e276, hx276_0⟩ := Kd.at_int HR2.out x12_3 p276 q276
                 obtain rfl : ad274 = ad276 := (by injection e276)
                 replace hx276_0 := (HB.out.cell (World.block_lt_of_cell? w _ hx276_0)).trans hx276_0
                 replace p276 := eq_true p276
                 replace q276 := eq_true q276
                 obtain ⟨Ao36, co36, eo36⟩ := Kd.R_slice HO_8.out
                 subst eo36
                 have p277 : 0 ≤ (x12_3 : Int) := of_decide_eq_true (by first | (with_reducible assumption) | assumption)
                 have q277 : x12_3 < (t264.length : Int) := of_decide_eq_true (by first | (with_reducible assumption) | assumption)
                 obtain ⟨ad277, e277, hx277_0⟩ := Kd.at_int (Kd.R_reads' HO_8.out).2.2 x12_3 p277 q277
                 cases e277
                 replace p277 := eq_true p277
                 replace q277 := eq_true q277
                 go_wp2
                 repeat (go_quiet (fail); try go_wp2)
                 go_roundg k3
                 case measure => have := HJ3.out; have := HJ16.out; have := HK3.out; omega
                 case rel => exact ⟨(wrap64 (x12_3 + 1)), (by first | rfl | (simp; done) | (simp [*]; done)), H', ⟨by have := HJ3.out; have := HJ16.out; have := HK3.out; omega⟩, ⟨zr HO_7⟩, ⟨zr HO_8⟩, ⟨zo HB⟩⟩
               ·rw [if_neg c33] at H
                exact absurd H (by simp)
             ·rw [if_neg c31] at H
              exact absurd H (by simp)
            ·rw [if_neg c30] at H
             exact absurd H (by simp)
           ·rw [if_neg c29] at H
            exact absurd H (by simp)
          ·rw [if_neg c28] at H
           have c28b0 : decide (x12_3 < a1) = false := decide_eq_false c28; clear c28
           replace H := Option.bind_eq_some_iff.mp H
           obtain ⟨t278, A370, H⟩ := H; replace H : (some t278) = some r := H
           have A37 := zK A370; clear A370
           obtain rfl := Option.some.inj H
           go_wp2_with (first | (go_at_call 21; (with_reducible refine (sequiturlaw32_alive.calls k3  t278 _ A37.out).mono ?_); rintro e w38 ⟨rfl, hb⟩; replace HO_7 := zK (Kd.R_below (zr HO_7) hb); replace HO_8 := zK (Kd.R_below (zr HO_8) hb); replace HB := zK (below_step (zo HB) hb); (try clear hb); (try clear hb2); (try clear hk); (try clear hi)))
           repeat (go_quiet (first | (go_at_call 21; (with_reducible refine (sequiturlaw32_alive.calls k3  t278 _ A37.out).mono ?_); rintro e w38 ⟨rfl, hb⟩; replace HO_7 := zK (Kd.R_below (zr HO_7) hb); replace HO_8 := zK (Kd.R_below (zr HO_8) hb); replace HB := zK (below_step (zo HB) hb); (try clear hb); (try clear hb2); (try clear hk); (try clear hi))); try go_wp2_with (first | (go_at_call 21; (with_reducible refine (sequiturlaw32_alive.calls k3  t278 _ A37.out).mono ?_); rintro e w38 ⟨rfl, hb⟩; replace HO_7 := zK (Kd.R_below (zr HO_7) hb); replace HO_8 := zK (Kd.R_below (zr HO_8) hb); replace HB := zK (below_step (zo HB) hb); (try clear hb); (try clear hb2); (try clear hk); (try clear hi))))
           go_ret
           exact ⟨by first | rfl | (simp [errW_none, errW_some] <;> rfl) | (simp [*, errW_none, errW_some] <;> rfl), zo HB⟩
    ·replace c15 := Bool.eq_false_iff.mpr c15
     subst c15
     have H1 : (if (wrap64 ((t263.length : Int) + (t264.length : Int))) = 0 then ((sequiturlaw32_alive.f kj3).bind fun t270 => (some t270)) else (none)) = some r := by rw [if_neg (show ¬ (false = true) by decide)] at H; exact H
     clear H; have H := H1; clear H1
     by_cases c39 : (wrap64 ((t263.length : Int) + (t264.length : Int))) = 0
     ·rw [if_pos c39] at H
      have c39b0 : ((wrap64 ((t263.length : Int) + (t264.length : Int))) == 0) = true := beq_iff_eq.mpr c39
      have c39b1 : ((wrap64 ((t263.length : Int) + (t264.length : Int))) != 0) = false := bne_eq_false_iff_eq.mpr c39
      clear c39; replace H := Option.bind_eq_some_iff.mp H
      obtain ⟨t270, A400, H⟩ := H; replace H : (some t270) = some r := H
      have A40 := zK A400; clear A400
      obtain rfl := Option.some.inj H
      go_wp2_with (first | (go_at_call 38; (with_reducible refine (box_Bounds.calls kj3 _ _ l0 a1 t263 t264 false _ ?side1 ?side2 A14.out).mono ?_); (case side1 => repeat (first | exact (Kd.C_below HR0.out HB.out) | (with_reducible refine cA ?_ _) | (with_reducible refine cN ?_ _) | (with_reducible refine cD ?_))); (case side2 => exact HC0.out); rintro e w41 ⟨v266, v268, rfl, ho0, ho1, hb⟩; have HO267 := zK (Kd.R_lower ho0 (below_size (zo HB))); have HO269 := zK (Kd.R_lower ho1 (below_size (zo HB))); replace HB := zK (below_step (zo HB) hb); (try clear hb); (try clear hb2); (try clear hk); (try clear hi); (try clear ho0); (try clear ho1); obtain ⟨Ao42, co42, eo42⟩ := Kd.R_slice HO267.out; subst eo42; obtain ⟨Ao43, co43, eo43⟩ := Kd.R_slice HO269.out; subst eo43) | (go_at_call 21; (with_reducible refine (sequiturlaw32_alive.calls kj3  t270 _ A40.out).mono ?_); rintro e w44 ⟨rfl, hb⟩; replace HO267 := zK (Kd.R_below (zr HO267) hb); replace HO269 := zK (Kd.R_below (zr HO269) hb); replace HB := zK (below_step (zo HB) hb); (try clear hb); (try clear hb2); (try clear hk); (try clear hi)))
      repeat (go_quiet (first | (go_at_call 38; (with_reducible refine (box_Bounds.calls kj3 _ _ l0 a1 t263 t264 false _ ?side1 ?side2 A14.out).mono ?_); (case side1 => repeat (first | exact (Kd.C_below HR0.out HB.out) | (with_reducible refine cA ?_ _) | (with_reducible refine cN ?_ _) | (with_reducible refine cD ?_))); (case side2 => exact HC0.out); rintro e w41 ⟨v266, v268, rfl, ho0, ho1, hb⟩; have HO267 := zK (Kd.R_lower ho0 (below_size (zo HB))); have HO269 := zK (Kd.R_lower ho1 (below_size (zo HB))); replace HB := zK (below_step (zo HB) hb); (try clear hb); (try clear hb2); (try clear hk); (try clear hi); (try clear ho0); (try clear ho1); obtain ⟨Ao42, co42, eo42⟩ := Kd.R_slice HO267.out; subst eo42; obtain ⟨Ao43, co43, eo43⟩ := Kd.R_slice HO269.out; subst eo43) | (go_at_call 21; (with_reducible refine (sequiturlaw32_alive.calls kj3  t270 _ A40.out).mono ?_); rintro e w44 ⟨rfl, hb⟩; replace HO267 := zK (Kd.R_below (zr HO267) hb); replace HO269 := zK (Kd.R_below (zr HO269) hb); replace HB := zK (below_step (zo HB) hb); (try clear hb); (try clear hb2); (try clear hk); (try clear hi))); try go_wp2_with (first | (go_at_call 38; (with_reducible refine (box_Bounds.calls kj3 _ _ l0 a1 t263 t264 false _ ?side1 ?side2 A14.out).mono ?_); (case side1 => repeat (first | exact (Kd.C_below HR0.out HB.out) | (with_reducible refine cA ?_ _) | (with_reducible refine cN ?_ _) | (with_reducible refine cD ?_))); (case side2 => exact HC0.out); rintro e w41 ⟨v266, v268, rfl, ho0, ho1, hb⟩; have HO267 := zK (Kd.R_lower ho0 (below_size (zo HB))); have HO269 := zK (Kd.R_lower ho1 (below_size (zo HB))); replace HB := zK (below_step (zo HB) hb); (try clear hb); (try clear hb2); (try clear hk); (try clear hi); (try clear ho0); (try clear ho1); obtain ⟨Ao42, co42, eo42⟩ := Kd.R_slice HO267.out; subst eo42; obtain ⟨Ao43, co43, eo43⟩ := Kd.R_slice HO269.out; subst eo43) | (go_at_call 21; (with_reducible refine (sequiturlaw32_alive.calls kj3  t270 _ A40.out).mono ?_); rintro e w44 ⟨rfl, hb⟩; replace HO267 := zK (Kd.R_below (zr HO267) hb); replace HO269 := zK (Kd.R_below (zr HO269) hb); replace HB := zK (below_step (zo HB) hb); (try clear hb); (try clear hb2); (try clear hk); (try clear hi))))
      go_ret
      exact ⟨by first | rfl | (simp [errW_none, errW_some] <;> rfl) | (simp [*, errW_none, errW_some] <;> rfl), zo HB⟩
     ·rw [if_neg c39] at H
      exact absurd H (by simp)

end Go.Proofs.Ytkfbfgkdabljiaa.PBoxWithin
