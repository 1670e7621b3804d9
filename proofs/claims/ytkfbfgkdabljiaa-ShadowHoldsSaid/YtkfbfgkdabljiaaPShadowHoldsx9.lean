/- What the call of each function that the law reaches comes to: it answers as the plain function of the same name does, wherever that one answers; and the law itself out of its plain form. Written by a program of this session (an extended copy of the printer); no condition but what stands in each theorem. -/
import Derived.Test.YtkfbfgkdabljiaaPShadowHoldsx0
import Derived.Test.YtkfbfgkdabljiaaPShadowHoldsx8
namespace Go.Proofs.Ytkfbfgkdabljiaa.PShadowHolds
open Go.RowKit Go.Proofs.YtkfbfgkdabljiaaW.PrintWords Go.Proofs.YtkfbfgkdabljiaaW.PrintLast Go.Proofs.YtkfbfgkdabljiaaW.PrintMore
open Go.Proofs.YtkfbfgkdabljiaaW.PrintWords renaming blk_drewN → zN, blk_drew → zD, blk_alloc → zA, below_alloc → yA, pw_below_drewN → yN, below_drew1 → yD, below_set → yS, gate_callee → zC, gate_guard → zG
open Go.Proofs.YtkfbfgkdabljiaaW.PrintWords.Kd renaming C_alloc → cA, C_drewN → cN, C_drew → cD
open Go.Proofs.YtkfbfgkdabljiaaW.PrintWords.Aside0 renaming mk → zK
attribute [local go_sem] max2_int min2_int max_two min_two max_three min_three max_four min_four   -- for this text's walks alone
set_option linter.unusedVariables false
set_option linter.unusedSimpArgs false

/-! ### sequiturlaw30_small: function 34 -/
mutual
def sequiturlaw30_small.j0 : Nat → List (S70) → List Int → Bool → Option (Bool)
 | 0, _, _, _ => none
 | k + 1, x0, x1, x22 => if x22 = true then (some false) else (sequiturlaw30_small.l0 k x1 x0 (x0.length : Int) 0)
def sequiturlaw30_small.l0 : Nat → List Int → List (S70) → Int → Int → Option (Bool)
 | 0, _, _, _, _ => none
 | k + 1, x1, x23, x24, x25 => if x25 < x24 then (if 0 ≤ x25 then (if x25 < (x23.length : Int) then (if (rd_T70 x23 x25).f1 = true then (sequiturlaw30_small.j2 k x1 x23 x24 x25 true ((rd_T70 x23 x25).f0.f0) ((rd_T70 x23 x25).f0.f1) ((rd_T70 x23 x25).f1)) else ((sequiturref27_Right.f k ((rd_T70 x23 x25).f0.f0) ((rd_T70 x23 x25).f0.f1)).bind fun t289 => (if t289 = 0 then (if (mx ((rd_T70 x23 x25).f0.f0) (wrap64 (-((rd_T70 x23 x25).f0.f0)))) > 1000 then (sequiturlaw30_small.j2 k x1 x23 x24 x25 true ((rd_T70 x23 x25).f0.f0) ((rd_T70 x23 x25).f0.f1) ((rd_T70 x23 x25).f1)) else (sequiturlaw30_small.j2 k x1 x23 x24 x25 (decide (((rd_T70 x23 x25).f0.f0) < (-1000))) ((rd_T70 x23 x25).f0.f0) ((rd_T70 x23 x25).f0.f1) ((rd_T70 x23 x25).f1))) else (sequiturlaw30_small.j2 k x1 x23 x24 x25 true ((rd_T70 x23 x25).f0.f0) ((rd_T70 x23 x25).f0.f1) ((rd_T70 x23 x25).f1))))) else (none)) else (none)) else (sequiturlaw30_small.l2 k x1 (x1.length : Int) 0)
def sequiturlaw30_small.j2 : Nat → List Int → List (S70) → Int → Int → Bool → Int → List (S68) → Bool → Option (Bool)
 | 0, _, _, _, _, _, _, _, _ => none
 | k + 1, x1, x23, x24, x25, x53, x289000, x289001, x289002 => if x53 = true then (some false) else (sequiturlaw30_small.l1 k x1 x23 x24 x25 x289001 (x289001.length : Int) 0)
def sequiturlaw30_small.l1 : Nat → List Int → List (S70) → Int → Int → List (S68) → Int → Int → Option (Bool)
 | 0, _, _, _, _, _, _, _ => none
 | k + 1, x1, x23, x24, x25, x56, x57, x58 => if x58 < x57 then (if 0 ≤ x58 then (if x58 < (x56.length : Int) then (if ((rd_T68 x56 x58).f1) > 100 then (some false) else (if ((rd_T68 x56 x58).f1) < (-100) then (some false) else (sequiturlaw30_small.l1 k x1 x23 x24 x25 x56 x57 (wrap64 (x58 + 1))))) else (none)) else (none)) else (sequiturlaw30_small.l0 k x1 x23 x24 (wrap64 (x25 + 1)))
def sequiturlaw30_small.l2 : Nat → List Int → Int → Int → Option (Bool)
 | 0, _, _, _ => none
 | k + 1, x72, x73, x74 => if x74 < x73 then (if 0 ≤ x74 then (if x74 < (x72.length : Int) then (if (rd x72 x74) > 1000 then (some false) else (if (rd x72 x74) < (-1000) then (some false) else (sequiturlaw30_small.l2 k x72 x73 (wrap64 (x74 + 1))))) else (none)) else (none)) else (some true)
end
def sequiturlaw30_small.f (k : Nat) (l0 : List (S70)) (l1 : List Int) : Option (Bool) := (sequiturref30_Long.f k l0 12).bind fun t286 => (if t286 = true then (sequiturlaw30_small.j0 k l0 l1 true) else (if (l1.length : Int) = 0 then (sequiturlaw30_small.j0 k l0 l1 true) else (sequiturlaw30_small.j0 k l0 l1 (decide ((l1.length : Int) > 8)))))
theorem sequiturlaw30_small.mono_l : ∀ k, (∀ y0 y1 y2, LeO (sequiturlaw30_small.j0 k y0 y1 y2) (sequiturlaw30_small.j0 (k + 1) y0 y1 y2)) ∧ (∀ y0 y1 y2 y3, LeO (sequiturlaw30_small.l0 k y0 y1 y2 y3) (sequiturlaw30_small.l0 (k + 1) y0 y1 y2 y3)) ∧ (∀ y0 y1 y2 y3 y4 y5 y6 y7, LeO (sequiturlaw30_small.j2 k y0 y1 y2 y3 y4 y5 y6 y7) (sequiturlaw30_small.j2 (k + 1) y0 y1 y2 y3 y4 y5 y6 y7)) ∧ (∀ y0 y1 y2 y3 y4 y5 y6, LeO (sequiturlaw30_small.l1 k y0 y1 y2 y3 y4 y5 y6) (sequiturlaw30_small.l1 (k + 1) y0 y1 y2 y3 y4 y5 y6)) ∧ (∀ y0 y1 y2, LeO (sequiturlaw30_small.l2 k y0 y1 y2) (sequiturlaw30_small.l2 (k + 1) y0 y1 y2))
 | 0 => ⟨fun _ _ _ r h => by simp [sequiturlaw30_small.j0] at h, fun _ _ _ _ r h => by simp [sequiturlaw30_small.l0] at h, fun _ _ _ _ _ _ _ _ r h => by simp [sequiturlaw30_small.j2] at h, fun _ _ _ _ _ _ _ r h => by simp [sequiturlaw30_small.l1] at h, fun _ _ _ r h => by simp [sequiturlaw30_small.l2] at h⟩
 | k + 1 => by
  obtain ⟨ih0, ih1, ih2, ih3, ih4⟩ := sequiturlaw30_small.mono_l k
  refine ⟨?_, ?_, ?_, ?_, ?_⟩
  ·intro y0 y1 y2
   unfold sequiturlaw30_small.j0
   repeat' first
   | (with_reducible exact ih0 _ _ _)
   | (with_reducible exact ih1 _ _ _ _)
   | (with_reducible exact ih2 _ _ _ _ _ _ _ _)
   | (with_reducible exact ih3 _ _ _ _ _ _ _)
   | (with_reducible exact ih4 _ _ _)
   | (with_reducible exact sequiturref27_Right.mono _ _ _)
   | (with_reducible exact sequiturref30_Long.mono _ _ _)
   | (with_reducible exact LeO.refl _)
   | (with_reducible exact LeO.none _)
   | (with_reducible refine LeO.ite ?_ ?_)
   | (with_reducible refine LeO.bind ?_ (fun _ => ?_))
   | exact ih0 _ _ _
   | exact ih1 _ _ _ _
   | exact ih2 _ _ _ _ _ _ _ _
   | exact ih3 _ _ _ _ _ _ _
   | exact ih4 _ _ _
   | exact sequiturref27_Right.mono _ _ _
   | exact sequiturref30_Long.mono _ _ _
   | exact LeO.none _
   | refine LeO.ite ?_ ?_
   | refine LeO.bind ?_ (fun _ => ?_)
  ·intro y0 y1 y2 y3
   unfold sequiturlaw30_small.l0
   repeat' first
   | (with_reducible exact ih0 _ _ _)
   | (with_reducible exact ih1 _ _ _ _)
   | (with_reducible exact ih2 _ _ _ _ _ _ _ _)
   | (with_reducible exact ih3 _ _ _ _ _ _ _)
   | (with_reducible exact ih4 _ _ _)
   | (with_reducible exact sequiturref27_Right.mono _ _ _)
   | (with_reducible exact sequiturref30_Long.mono _ _ _)
   | (with_reducible exact LeO.refl _)
   | (with_reducible exact LeO.none _)
   | (with_reducible refine LeO.ite ?_ ?_)
   | (with_reducible refine LeO.bind ?_ (fun _ => ?_))
   | exact ih0 _ _ _
   | exact ih1 _ _ _ _
   | exact ih2 _ _ _ _ _ _ _ _
   | exact ih3 _ _ _ _ _ _ _
   | exact ih4 _ _ _
   | exact sequiturref27_Right.mono _ _ _
   | exact sequiturref30_Long.mono _ _ _
   | exact LeO.none _
   | refine LeO.ite ?_ ?_
   | refine LeO.bind ?_ (fun _ => ?_)
  ·intro y0 y1 y2 y3 y4 y5 y6 y7
   unfold sequiturlaw30_small.j2
   repeat' first
   | (with_reducible exact ih0 _ _ _)
   | (with_reducible exact ih1 _ _ _ _)
   | (with_reducible exact ih2 _ _ _ _ _ _ _ _)
   | (with_reducible exact ih3 _ _ _ _ _ _ _)
   | (with_reducible exact ih4 _ _ _)
   | (with_reducible exact sequiturref27_Right.mono _ _ _)
   | (with_reducible exact sequiturref30_Long.mono _ _ _)
   | (with_reducible exact LeO.refl _)
   | (with_reducible exact LeO.none _)
   | (with_reducible refine LeO.ite ?_ ?_)
   | (with_reducible refine LeO.bind ?_ (fun _ => ?_))
   | exact ih0 _ _ _
   | exact ih1 _ _ _ _
   | exact ih2 _ _ _ _ _ _ _ _
   | exact ih3 _ _ _ _ _ _ _
   | exact ih4 _ _ _
   | exact sequiturref27_Right.mono _ _ _
   | exact sequiturref30_Long.mono _ _ _
   | exact LeO.none _
   | refine LeO.ite ?_ ?_
   | refine LeO.bind ?_ (fun _ => ?_)
  ·intro y0 y1 y2 y3 y4 y5 y6
   unfold sequiturlaw30_small.l1
   repeat' first
   | (with_reducible exact ih0 _ _ _)
   | (with_reducible exact ih1 _ _ _ _)
   | (with_reducible exact ih2 _ _ _ _ _ _ _ _)
   | (with_reducible exact ih3 _ _ _ _ _ _ _)
   | (with_reducible exact ih4 _ _ _)
   | (with_reducible exact sequiturref27_Right.mono _ _ _)
   | (with_reducible exact sequiturref30_Long.mono _ _ _)
   | (with_reducible exact LeO.refl _)
   | (with_reducible exact LeO.none _)
   | (with_reducible refine LeO.ite ?_ ?_)
   | (with_reducible refine LeO.bind ?_ (fun _ => ?_))
   | exact ih0 _ _ _
   | exact ih1 _ _ _ _
   | exact ih2 _ _ _ _ _ _ _ _
   | exact ih3 _ _ _ _ _ _ _
   | exact ih4 _ _ _
   | exact sequiturref27_Right.mono _ _ _
   | exact sequiturref30_Long.mono _ _ _
   | exact LeO.none _
   | refine LeO.ite ?_ ?_
   | refine LeO.bind ?_ (fun _ => ?_)
  ·intro y0 y1 y2
   unfold sequiturlaw30_small.l2
   repeat' first
   | (with_reducible exact ih0 _ _ _)
   | (with_reducible exact ih1 _ _ _ _)
   | (with_reducible exact ih2 _ _ _ _ _ _ _ _)
   | (with_reducible exact ih3 _ _ _ _ _ _ _)
   | (with_reducible exact ih4 _ _ _)
   | (with_reducible exact sequiturref27_Right.mono _ _ _)
   | (with_reducible exact sequiturref30_Long.mono _ _ _)
   | (with_reducible exact LeO.refl _)
   | (with_reducible exact LeO.none _)
   | (with_reducible refine LeO.ite ?_ ?_)
   | (with_reducible refine LeO.bind ?_ (fun _ => ?_))
   | exact ih0 _ _ _
   | exact ih1 _ _ _ _
   | exact ih2 _ _ _ _ _ _ _ _
   | exact ih3 _ _ _ _ _ _ _
   | exact ih4 _ _ _
   | exact sequiturref27_Right.mono _ _ _
   | exact sequiturref30_Long.mono _ _ _
   | exact LeO.none _
   | refine LeO.ite ?_ ?_
   | refine LeO.bind ?_ (fun _ => ?_)
theorem sequiturlaw30_small.mono : ∀ a0 a1 k, LeO (sequiturlaw30_small.f k a0 a1) (sequiturlaw30_small.f (k + 1) a0 a1) := by
 intro a0 a1 k
 obtain ⟨ih0, ih1, ih2, ih3, ih4⟩ := sequiturlaw30_small.mono_l k
 unfold sequiturlaw30_small.f
 repeat' first
   | (with_reducible exact ih0 _ _ _)
   | (with_reducible exact ih1 _ _ _ _)
   | (with_reducible exact ih2 _ _ _ _ _ _ _ _)
   | (with_reducible exact ih3 _ _ _ _ _ _ _)
   | (with_reducible exact ih4 _ _ _)
   | (with_reducible exact sequiturref27_Right.mono _ _ _)
   | (with_reducible exact sequiturref30_Long.mono _ _ _)
   | (with_reducible exact LeO.refl _)
   | (with_reducible exact LeO.none _)
   | (with_reducible refine LeO.ite ?_ ?_)
   | (with_reducible refine LeO.bind ?_ (fun _ => ?_))
   | exact ih0 _ _ _
   | exact ih1 _ _ _ _
   | exact ih2 _ _ _ _ _ _ _ _
   | exact ih3 _ _ _ _ _ _ _
   | exact ih4 _ _ _
   | exact sequiturref27_Right.mono _ _ _
   | exact sequiturref30_Long.mono _ _ _
   | exact LeO.none _
   | refine LeO.ite ?_ ?_
   | refine LeO.bind ?_ (fun _ => ?_)
set_option maxHeartbeats 8000000 in
set_option maxRecDepth 100000 in
theorem sequiturlaw30_small.calls (k : Nat) (A0 : Option Addr) (c0 : Nat) (l0 : List (S70)) (A1 : Option Addr) (c1 : Nat) (l1 : List Int) (r : Bool) (w : World) (hr0 : Kd.C k70 w A0 l0.length l0) (hc0 : l0.length ≤ c0) (hr1 : Kd.C (Kd.int .i64) w A1 l1.length l1) (hc1 : l1.length ≤ c1) (h : sequiturlaw30_small.f k l0 l1 = some r) :
  Calls Try.prog 34 #[.slice A0 l0.length c0, .slice A1 l1.length c1] w fun e w' => e = .returned (.bool r) ∧ Below w.heap.size w w' := by
 have hu70 := Try.underlying70
 have hu62 := Try.underlying62
 have hu68 := Try.underlying68
 have HR0 := zK hr0
 have HC0 := zK hc0; clear hr0 hc0
 have HR1 := zK hr1
 have HC1 := zK hc1; clear hr1 hc1
 have HB := zK (Below.refl w.heap.size w)
 have H : ((sequiturref30_Long.f k l0 12).bind fun t286 => (if t286 = true then (sequiturlaw30_small.j0 k l0 l1 true) else (if (l1.length : Int) = 0 then (sequiturlaw30_small.j0 k l0 l1 true) else (sequiturlaw30_small.j0 k l0 l1 (decide ((l1.length : Int) > 8)))))) = some r := h
 clear h
 have HC3 := zK H; clear H
 go_enter Try.func34, Try.ntmps34
 go_upto_region 1 with (fail)
 go_cut [22] (fun v22 wc => ∃ (kq : Nat) (x22_2 : Bool), v22 = .bool x22_2 ∧ Aside0 (sequiturlaw30_small.j0 kq l0 l1 x22_2 = some r) ∧ Aside0 (kq ≤ k) ∧ Aside0 (Below w.heap.size w wc))
 case first =>
  have H := HC3.out; clear HC3; replace H := Option.bind_eq_some_iff.mp H
  obtain ⟨t286, A40, H⟩ := H
  replace H : (if t286 = true then (sequiturlaw30_small.j0 k l0 l1 true) else (if (l1.length : Int) = 0 then (sequiturlaw30_small.j0 k l0 l1 true) else (sequiturlaw30_small.j0 k l0 l1 (decide ((l1.length : Int) > 8))))) = some r := H
  have A4 := zK A40; clear A40
  by_cases c5 : t286 = true
  ·subst c5
   have H1 : (sequiturlaw30_small.j0 k l0 l1 true) = some r := by rw [if_pos rfl] at H; exact H
   clear H; have H := H1; clear H1
   have H' := zK H; clear H
   go_wp2_with (first | ((with_reducible refine zC (f := 13) rfl ?_); refine goesL_ (some 12) rfl rfl Try.func13 (by kernel_rfl) rfl #[.slice A0 l0.length c0, .int .i64 12] rfl (by (try simp only [List.map_toArray, List.map_cons, List.map_nil]); first | done | rfl | (simp only [List.length_drop, List.length_take]; rfl)) ?_; (with_reducible refine (sequiturref30_Long.calls k _ _ l0 12 true _ ?side1 ?side2 A4.out).mono ?_); (case side1 => repeat (first | exact (Kd.C_below HR0.out HB.out) | (with_reducible refine cA ?_ _) | (with_reducible refine cN ?_ _) | (with_reducible refine cD ?_))); (case side2 => exact HC0.out); rintro e w' ⟨rfl, ⟨nd, rfl⟩⟩; refine ⟨_, rfl, ?_⟩))
   go_meet
   case rel => exact ⟨_, (true), (by first | rfl | (simp; done) | (simp [*]; done)), H', ⟨by first | omega | exact Nat.le_refl _⟩, ⟨zo HB⟩⟩
  ·replace c5 := Bool.eq_false_iff.mpr c5
   subst c5
   have H1 : (if (l1.length : Int) = 0 then (sequiturlaw30_small.j0 k l0 l1 true) else (sequiturlaw30_small.j0 k l0 l1 (decide ((l1.length : Int) > 8)))) = some r := by rw [if_neg (show ¬ (false = true) by decide)] at H; exact H
   clear H; have H := H1; clear H1
   by_cases c6 : (l1.length : Int) = 0
   ·rw [if_pos c6] at H
    have c6b0 : ((l1.length : Int) == 0) = true := beq_iff_eq.mpr c6
    have c6b1 : ((l1.length : Int) != 0) = false := bne_eq_false_iff_eq.mpr c6
    clear c6
    (first | rw [c6b0] | (simp only [i64_w, i32_w]; rw [c6b0]) | skip)
    have H' := zK H; clear H
    go_wp2_with (first | ((with_reducible refine zC (f := 13) rfl ?_); refine goesL_ (some 12) rfl rfl Try.func13 (by kernel_rfl) rfl #[.slice A0 l0.length c0, .int .i64 12] rfl (by (try simp only [List.map_toArray, List.map_cons, List.map_nil]); first | done | rfl | (simp only [List.length_drop, List.length_take]; rfl)) ?_; (with_reducible refine (sequiturref30_Long.calls k _ _ l0 12 false _ ?side1 ?side2 A4.out).mono ?_); (case side1 => repeat (first | exact (Kd.C_below HR0.out HB.out) | (with_reducible refine cA ?_ _) | (with_reducible refine cN ?_ _) | (with_reducible refine cD ?_))); (case side2 => exact HC0.out); rintro e w' ⟨rfl, ⟨nd, rfl⟩⟩; refine ⟨_, rfl, ?_⟩))
    go_meet
    case rel => exact ⟨_, (true), (by first | rfl | (simp; done) | (simp [*]; done)), H', ⟨by first | omega | exact Nat.le_refl _⟩, ⟨zo HB⟩⟩
   ·rw [if_neg c6] at H
    have c6b0 : ((l1.length : Int) == 0) = false := beq_eq_false_iff_ne.mpr c6
    have c6b1 : ((l1.length : Int) != 0) = true := bne_iff_ne.mpr c6
    have c6b2 : ¬ (l1 = []) := fun h_ => c6 (by rw [h_]; rfl)
    (first | rw [c6b0] | (simp only [i64_w, i32_w]; rw [c6b0]) | skip)
    have H' := zK H; clear H
    go_wp2_with (first | ((with_reducible refine zC (f := 13) rfl ?_); refine goesL_ (some 12) rfl rfl Try.func13 (by kernel_rfl) rfl #[.slice A0 l0.length c0, .int .i64 12] rfl (by (try simp only [List.map_toArray, List.map_cons, List.map_nil]); first | done | rfl | (simp only [List.length_drop, List.length_take]; rfl)) ?_; (with_reducible refine (sequiturref30_Long.calls k _ _ l0 12 false _ ?side1 ?side2 A4.out).mono ?_); (case side1 => repeat (first | exact (Kd.C_below HR0.out HB.out) | (with_reducible refine cA ?_ _) | (with_reducible refine cN ?_ _) | (with_reducible refine cD ?_))); (case side2 => exact HC0.out); rintro e w' ⟨rfl, ⟨nd, rfl⟩⟩; refine ⟨_, rfl, ?_⟩))
    go_meet
    case rel => exact ⟨_, (decide ((l1.length : Int) > 8)), (by first | rfl | (simp; done) | (simp [*]; done)), H', ⟨by first | omega | exact Nat.le_refl _⟩, ⟨zo HB⟩⟩
 case rest =>
  clear HC3; try clear c1; try clear p2; try clear c3
  try clear c5; try clear c6; try clear c6b0; try clear c6b1; try clear c6b2
  obtain ⟨kq, x22_2, rfl, HA, HJ2, HB⟩ := hcut
  cases kq with
  | zero => exact absurd HA.out (by simp [sequiturlaw30_small.j0])
  | succ kj2 =>
   have H := HA.out; clear HA
   simp only [sequiturlaw30_small.j0] at H
   by_cases c7 : x22_2 = true
   ·subst c7
    have H1 : (some false) = some r := by rw [if_pos rfl] at H; exact H
    clear H; have H := H1; clear H1
    obtain rfl := Option.some.inj H
    go_wp2
    go_ret
    exact ⟨by first | rfl | (simp [errW_none, errW_some] <;> rfl) | (simp [*, errW_none, errW_some] <;> rfl), zo HB⟩
   ·replace c7 := Bool.eq_false_iff.mpr c7
    subst c7
    have H1 : (sequiturlaw30_small.l0 kj2 l1 l0 (l0.length : Int) 0) = some r := by rw [if_neg (show ¬ (false = true) by decide)] at H; exact H
    clear H; have H := H1; clear H1
    have H' := zK H; clear H
    go_wp2
    go_loopg [25] kj2 (fun kq v25 w' => ∃ (x25_2 : Int), v25 = .int .i64 x25_2 ∧ Aside0 (sequiturlaw30_small.l0 kq l1 l0 (l0.length : Int) x25_2 = some r) ∧ Aside0 (kq ≤ kj2) ∧ Aside0 (Below w.heap.size w w'))
    case atStart => exact ⟨(0), (by first | rfl | (simp; done) | (simp [*]; done)), H', ⟨Nat.le_refl _⟩, ⟨zo HB⟩⟩
    case round =>
     clear H'; try clear c1; try clear p2; try clear c3
     try clear c5; try clear c6; try clear c6b0; try clear c6b1; try clear c6b2; try clear c7; try clear p2
     obtain ⟨x25_2, rfl, HA, HK2, HB⟩ := hrel
     cases gk with
     | zero => exact absurd HA.out (by simp [sequiturlaw30_small.l0])
     | succ k2 =>
      have H := HA.out; clear HA
      simp only [sequiturlaw30_small.l0] at H
      by_cases c8 : x25_2 < (l0.length : Int)
      ·rw [if_pos c8] at H
       have c8b0 : decide (x25_2 < (l0.length : Int)) = true := decide_eq_true c8
       clear c8
       by_cases c9 : 0 ≤ x25_2
       ·rw [if_pos c9] at H
        have c9b0 : decide (0 ≤ x25_2) = true := decide_eq_true c9; clear c9
        by_cases c10 : x25_2 < (l0.length : Int)
        ·rw [if_pos c10] at H
         have c10b0 : decide (x25_2 < (l0.length : Int)) = true := decide_eq_true c10
         clear c10
         have HC11 := zK H; clear H
         have p287 : 0 ≤ (x25_2 : Int) := of_decide_eq_true (by first | (with_reducible assumption) | assumption)
         have q287 : x25_2 < (l0.length : Int) := of_decide_eq_true (by first | (with_reducible assumption) | assumption)
         obtain ⟨ad287, A287_1, c287_1, e287, hx287_0, hx287_1, hx287_2, hl287_1, hi287_1⟩ := at_T70 HR0.out x25_2 p287 q287
         cases e287
         replace hx287_0 := (HB.out.cell (World.block_lt_of_cell? w _ hx287_0)).trans hx287_0
         replace hx287_1 := (HB.out.cell (World.block_lt_of_cell? w _ hx287_1)).trans hx287_1
         replace hx287_2 := (HB.out.cell (World.block_lt_of_cell? w _ hx287_2)).trans hx287_2
         have HR287_1 := zK hi287_1
         have HC287_1 := zK hl287_1; clear hi287_1 hl287_1
         replace p287 := eq_true p287
         replace q287 := eq_true q287
         go_upto_region 6 with (first | ((with_reducible refine gate_dst (N := 6) rfl ?_); (try (refine zG (by rfl) ?_; dsimp only)); refine box_event ?hg (N := 6) ?hd (cs := #[.int .i64 0, .slice none 0 0, .bool false]) (t := 70) ?hr ?_; (case hd => rfl); (case hg => rfl); (case hr => first | (go_simp; done) | (go_simp; rfl)); intro gb288 hg w12 hbox hb; have BK288 := zK (hbox); have GW288 := zK ((by rw [hg]; exact (below_size (zo HB)) : w.heap.size ≤ gb288)); have GE288 := zK ((by rw [hg]; exact (below_size (zo HB)) : w.heap.size ≤ gb288)); replace HB := zK (below_step (zo HB) hb); clear hb hbox hg; have hcz13_0 : w12.cell? ⟨gb288, 0, none⟩ = some (.int .i64 0) := (blk_cell BK288.out 0).trans rfl; have hcz13_1 : w12.cell? ⟨gb288, 1, none⟩ = some (.slice none 0 0) := (blk_cell BK288.out 1).trans rfl; have hcz13_2 : w12.cell? ⟨gb288, 2, none⟩ = some (.bool false) := (blk_cell BK288.out 2).trans rfl; have hfz13_0 := blk_frozen BK288.out 0; have hfz13_1 := blk_frozen BK288.out 1; have hfz13_2 := blk_frozen BK288.out 2))
         (try simp only [Act.put, List.setIfInBounds_toArray, List.set_cons_zero, List.set_cons_succ])
         go_cut [53] (fun v53 wc => ∃ (kq : Nat) (x53_10 : Bool), v53 = .bool x53_10 ∧ Aside0 (sequiturlaw30_small.j2 kq l1 l0 (l0.length : Int) x25_2 x53_10 ((rd_T70 l0 x25_2).f0.f0) ((rd_T70 l0 x25_2).f0.f1) ((rd_T70 l0 x25_2).f1) = some r) ∧ Aside0 (kq ≤ k2) ∧ Aside0 (wc.heap[gb288]? = some (.cells #[.int .i64 ((rd_T70 l0 x25_2).f0.f0), (.slice A287_1 ((rd_T70 l0 x25_2).f0.f1).length c287_1), .bool ((rd_T70 l0 x25_2).f1)] 70 (0, 0))) ∧ Aside0 (Below w.heap.size w wc))
         case first =>
          have H := HC11.out; clear HC11
          obtain ⟨bq14, hbq14⟩ : ∃ b_ : Bool, b_ = ((rd_T70 l0 x25_2).f1) := ⟨_, rfl⟩
          replace H : (if bq14 = true then (sequiturlaw30_small.j2 k2 l1 l0 (l0.length : Int) x25_2 true ((rd_T70 l0 x25_2).f0.f0) ((rd_T70 l0 x25_2).f0.f1) bq14) else ((sequiturref27_Right.f k2 ((rd_T70 l0 x25_2).f0.f0) ((rd_T70 l0 x25_2).f0.f1)).bind fun t289 => (if t289 = 0 then (if (mx ((rd_T70 l0 x25_2).f0.f0) (wrap64 (-((rd_T70 l0 x25_2).f0.f0)))) > 1000 then (sequiturlaw30_small.j2 k2 l1 l0 (l0.length : Int) x25_2 true ((rd_T70 l0 x25_2).f0.f0) ((rd_T70 l0 x25_2).f0.f1) bq14) else (sequiturlaw30_small.j2 k2 l1 l0 (l0.length : Int) x25_2 (decide (((rd_T70 l0 x25_2).f0.f0) < (-1000))) ((rd_T70 l0 x25_2).f0.f0) ((rd_T70 l0 x25_2).f0.f1) bq14)) else (sequiturlaw30_small.j2 k2 l1 l0 (l0.length : Int) x25_2 true ((rd_T70 l0 x25_2).f0.f0) ((rd_T70 l0 x25_2).f0.f1) bq14)))) = some r := by rw [← hbq14] at H; exact H
          have Nbq14 := zK hbq14; clear hbq14
          (try rw [← Nbq14.out])
          by_cases c15 : bq14 = true
          ·subst c15
           have H1 : (sequiturlaw30_small.j2 k2 l1 l0 (l0.length : Int) x25_2 true ((rd_T70 l0 x25_2).f0.f0) ((rd_T70 l0 x25_2).f0.f1) true) = some r := by rw [if_pos rfl] at H; exact H
           clear H; have H := H1; clear H1
           have H' := zK H; clear H
           have hcz16_0 : w12.cell? ⟨gb288, 0, none⟩ = some (.int .i64 0) := (blk_cell BK288.out 0).trans rfl
           have hcz16_1 : w12.cell? ⟨gb288, 1, none⟩ = some (.slice none 0 0) := (blk_cell BK288.out 1).trans rfl
           have hcz16_2 : w12.cell? ⟨gb288, 2, none⟩ = some (.bool false) := (blk_cell BK288.out 2).trans rfl
           have hfz16_0 := blk_frozen BK288.out 0
           have hfz16_1 := blk_frozen BK288.out 1
           have hfz16_2 := blk_frozen BK288.out 2
           go_wp2
           go_meet
           case rel => (try rw [← Nbq14.out]); exact ⟨_, (true), (by first | rfl | (simp; done) | (simp [*]; done)), H', ⟨by have := HJ2.out; have := HK2.out; first | omega | exact Nat.le_refl _⟩, ⟨by refine zM ?_; refine blk_put (cs := #[.int .i64 ((rd_T70 l0 x25_2).f0.f0), .slice A287_1 ((rd_T70 l0 x25_2).f0.f1).length c287_1, .bool false]) ?_ 2 _ rfl; refine zM ?_; refine blk_put (cs := #[.int .i64 ((rd_T70 l0 x25_2).f0.f0), .slice none 0 0, .bool false]) ?_ 1 _ rfl; refine zM ?_; refine blk_put (cs := #[.int .i64 0, .slice none 0 0, .bool false]) ?_ 0 _ rfl; refine zM ?_; exact BK288.out⟩, ⟨zo HB⟩⟩
          ·replace c15 := Bool.eq_false_iff.mpr c15
           subst c15
           have H1 : ((sequiturref27_Right.f k2 ((rd_T70 l0 x25_2).f0.f0) ((rd_T70 l0 x25_2).f0.f1)).bind fun t289 => (if t289 = 0 then (if (mx ((rd_T70 l0 x25_2).f0.f0) (wrap64 (-((rd_T70 l0 x25_2).f0.f0)))) > 1000 then (sequiturlaw30_small.j2 k2 l1 l0 (l0.length : Int) x25_2 true ((rd_T70 l0 x25_2).f0.f0) ((rd_T70 l0 x25_2).f0.f1) false) else (sequiturlaw30_small.j2 k2 l1 l0 (l0.length : Int) x25_2 (decide (((rd_T70 l0 x25_2).f0.f0) < (-1000))) ((rd_T70 l0 x25_2).f0.f0) ((rd_T70 l0 x25_2).f0.f1) false)) else (sequiturlaw30_small.j2 k2 l1 l0 (l0.length : Int) x25_2 true ((rd_T70 l0 x25_2).f0.f0) ((rd_T70 l0 x25_2).f0.f1) false))) = some r := by rw [if_neg (show ¬ (false = true) by decide)] at H; exact H
           clear H; have H := H1
           clear H1; replace H := Option.bind_eq_some_iff.mp H
           obtain ⟨t289, A170, H⟩ := H
           replace H : (if t289 = 0 then (if (mx ((rd_T70 l0 x25_2).f0.f0) (wrap64 (-((rd_T70 l0 x25_2).f0.f0)))) > 1000 then (sequiturlaw30_small.j2 k2 l1 l0 (l0.length : Int) x25_2 true ((rd_T70 l0 x25_2).f0.f0) ((rd_T70 l0 x25_2).f0.f1) false) else (sequiturlaw30_small.j2 k2 l1 l0 (l0.length : Int) x25_2 (decide (((rd_T70 l0 x25_2).f0.f0) < (-1000))) ((rd_T70 l0 x25_2).f0.f0) ((rd_T70 l0 x25_2).f0.f1) false)) else (sequiturlaw30_small.j2 k2 l1 l0 (l0.length : Int) x25_2 true ((rd_T70 l0 x25_2).f0.f0) ((rd_T70 l0 x25_2).f0.f1) false)) = some r := H
           have A17 := zK A170; clear A170
           by_cases c18 : t289 = 0
           ·rw [if_pos c18] at H
            have c18b0 : (t289 == 0) = true := beq_iff_eq.mpr c18
            have c18b1 : (t289 != 0) = false := bne_eq_false_iff_eq.mpr c18; clear c18
            obtain ⟨ji19, hji19⟩ : ∃ j_ : Int, (mx ((rd_T70 l0 x25_2).f0.f0) (wrap64 (-((rd_T70 l0 x25_2).f0.f0)))) = j_ := ⟨_, rfl⟩
            replace H : (if (ji19) > 1000 then (sequiturlaw30_small.j2 k2 l1 l0 (l0.length : Int) x25_2 true ((rd_T70 l0 x25_2).f0.f0) ((rd_T70 l0 x25_2).f0.f1) false) else (sequiturlaw30_small.j2 k2 l1 l0 (l0.length : Int) x25_2 (decide (((rd_T70 l0 x25_2).f0.f0) < (-1000))) ((rd_T70 l0 x25_2).f0.f0) ((rd_T70 l0 x25_2).f0.f1) false)) = some r := by first | (rw [hji19] at H; exact H) | (simp only [hji19] at H ⊢; exact H)
            (try rw [hji19] at A17)
            have hji19_ : (if ((rd_T70 l0 x25_2).f0.f0) < (wrap64 (-((rd_T70 l0 x25_2).f0.f0))) then (wrap64 (-((rd_T70 l0 x25_2).f0.f0))) else ((rd_T70 l0 x25_2).f0.f0)) = ji19 := hji19
            by_cases c20 : (ji19) > 1000
            ·rw [if_pos c20] at H
             have c20b0 : decide (1000 < (ji19)) = true := decide_eq_true c20; clear c20
             have H' := zK H; clear H
             have hcz21_0 : w12.cell? ⟨gb288, 0, none⟩ = some (.int .i64 0) := (blk_cell BK288.out 0).trans rfl
             have hcz21_1 : w12.cell? ⟨gb288, 1, none⟩ = some (.slice none 0 0) := (blk_cell BK288.out 1).trans rfl
             have hcz21_2 : w12.cell? ⟨gb288, 2, none⟩ = some (.bool false) := (blk_cell BK288.out 2).trans rfl
             have hfz21_0 := blk_frozen BK288.out 0
             have hfz21_1 := blk_frozen BK288.out 1
             have hfz21_2 := blk_frozen BK288.out 2
             go_wp2_with (first | (go_at_call 70; (with_reducible refine (sequiturref27_Right.calls k2 ((rd_T70 l0 x25_2).f0.f0) _ _ ((rd_T70 l0 x25_2).f0.f1) t289 _ ?side1 ?side2 A17.out).mono ?_); (case side1 => exact Kd.C_below HR287_1.out (zo HB)); (case side2 => exact HC287_1.out); rintro e w22 ⟨rfl, hb⟩; replace BK288 := zK (blk_below (g := gb288) (o := .cells #[.int .i64 ((rd_T70 l0 x25_2).f0.f0), .slice A287_1 ((rd_T70 l0 x25_2).f0.f1).length c287_1, .bool false] 70 (0, 0)) (by refine zM ?_; refine blk_put (cs := #[.int .i64 ((rd_T70 l0 x25_2).f0.f0), .slice A287_1 ((rd_T70 l0 x25_2).f0.f1).length c287_1, .bool false]) ?_ 2 _ rfl; refine zM ?_; refine blk_put (cs := #[.int .i64 ((rd_T70 l0 x25_2).f0.f0), .slice none 0 0, .bool false]) ?_ 1 _ rfl; refine zM ?_; refine blk_put (cs := #[.int .i64 0, .slice none 0 0, .bool false]) ?_ 0 _ rfl; refine zM ?_; exact BK288.out) hb); replace HB := zK (below_step (zo HB) hb); (try clear hb); (try clear hb2); (try clear hk); (try clear hi); have hcz23_0 : w22.cell? ⟨gb288, 0, none⟩ = some (.int .i64 ((rd_T70 l0 x25_2).f0.f0)) := (blk_cell BK288.out 0).trans rfl; have hcz23_1 : w22.cell? ⟨gb288, 1, none⟩ = some (.slice A287_1 ((rd_T70 l0 x25_2).f0.f1).length c287_1) := (blk_cell BK288.out 1).trans rfl; have hcz23_2 : w22.cell? ⟨gb288, 2, none⟩ = some (.bool false) := (blk_cell BK288.out 2).trans rfl; have hfz23_0 := blk_frozen BK288.out 0; have hfz23_1 := blk_frozen BK288.out 1; have hfz23_2 := blk_frozen BK288.out 2))
             go_meet
             case rel => (try rw [← Nbq14.out]); exact ⟨_, (true), (by first | rfl | (simp; done) | (simp [*]; done)), H', ⟨by have := HJ2.out; have := HK2.out; first | omega | exact Nat.le_refl _⟩, ⟨zb BK288⟩, ⟨zo HB⟩⟩
            ·rw [if_neg c20] at H
             have c20b0 : decide (1000 < (ji19)) = false := decide_eq_false c20
             clear c20
             have H' := zK H; clear H
             have hcz24_0 : w12.cell? ⟨gb288, 0, none⟩ = some (.int .i64 0) := (blk_cell BK288.out 0).trans rfl
             have hcz24_1 : w12.cell? ⟨gb288, 1, none⟩ = some (.slice none 0 0) := (blk_cell BK288.out 1).trans rfl
             have hcz24_2 : w12.cell? ⟨gb288, 2, none⟩ = some (.bool false) := (blk_cell BK288.out 2).trans rfl
             have hfz24_0 := blk_frozen BK288.out 0
             have hfz24_1 := blk_frozen BK288.out 1
             have hfz24_2 := blk_frozen BK288.out 2
             go_wp2_with (first | (go_at_call 70; (with_reducible refine (sequiturref27_Right.calls k2 ((rd_T70 l0 x25_2).f0.f0) _ _ ((rd_T70 l0 x25_2).f0.f1) t289 _ ?side1 ?side2 A17.out).mono ?_); (case side1 => exact Kd.C_below HR287_1.out (zo HB)); (case side2 => exact HC287_1.out); rintro e w25 ⟨rfl, hb⟩; replace BK288 := zK (blk_below (g := gb288) (o := .cells #[.int .i64 ((rd_T70 l0 x25_2).f0.f0), .slice A287_1 ((rd_T70 l0 x25_2).f0.f1).length c287_1, .bool false] 70 (0, 0)) (by refine zM ?_; refine blk_put (cs := #[.int .i64 ((rd_T70 l0 x25_2).f0.f0), .slice A287_1 ((rd_T70 l0 x25_2).f0.f1).length c287_1, .bool false]) ?_ 2 _ rfl; refine zM ?_; refine blk_put (cs := #[.int .i64 ((rd_T70 l0 x25_2).f0.f0), .slice none 0 0, .bool false]) ?_ 1 _ rfl; refine zM ?_; refine blk_put (cs := #[.int .i64 0, .slice none 0 0, .bool false]) ?_ 0 _ rfl; refine zM ?_; exact BK288.out) hb); replace HB := zK (below_step (zo HB) hb); (try clear hb); (try clear hb2); (try clear hk); (try clear hi); have hcz26_0 : w25.cell? ⟨gb288, 0, none⟩ = some (.int .i64 ((rd_T70 l0 x25_2).f0.f0)) := (blk_cell BK288.out 0).trans rfl; have hcz26_1 : w25.cell? ⟨gb288, 1, none⟩ = some (.slice A287_1 ((rd_T70 l0 x25_2).f0.f1).length c287_1) := (blk_cell BK288.out 1).trans rfl; have hcz26_2 : w25.cell? ⟨gb288, 2, none⟩ = some (.bool false) := (blk_cell BK288.out 2).trans rfl; have hfz26_0 := blk_frozen BK288.out 0; have hfz26_1 := blk_frozen BK288.out 1; have hfz26_2 := blk_frozen BK288.out 2))
             go_meet
             case rel => (try rw [← Nbq14.out]); exact ⟨_, (decide (((rd_T70 l0 x25_2).f0.f0) < (-1000))), (by first | rfl | (simp; done) | (simp [*]; done)), H', ⟨by have := HJ2.out; have := HK2.out; first | omega | exact Nat.le_refl _⟩, ⟨zb BK288⟩, ⟨zo HB⟩⟩
           ·rw [if_neg c18] at H
            have c18b0 : (t289 == 0) = false := beq_eq_false_iff_ne.mpr c18
            have c18b1 : (t289 != 0) = true := bne_iff_ne.mpr c18
            have H' := zK H; clear H
            have hcz27_0 : w12.cell? ⟨gb288, 0, none⟩ = some (.int .i64 0) := (blk_cell BK288.out 0).trans rfl
            have hcz27_1 : w12.cell? ⟨gb288, 1, none⟩ = some (.slice none 0 0) := (blk_cell BK288.out 1).trans rfl
            have hcz27_2 : w12.cell? ⟨gb288, 2, none⟩ = some (.bool false) := (blk_cell BK288.out 2).trans rfl
            have hfz27_0 := blk_frozen BK288.out 0
            have hfz27_1 := blk_frozen BK288.out 1
            have hfz27_2 := blk_frozen BK288.out 2
            go_wp2_with (first | (go_at_call 70; (with_reducible refine (sequiturref27_Right.calls k2 ((rd_T70 l0 x25_2).f0.f0) _ _ ((rd_T70 l0 x25_2).f0.f1) t289 _ ?side1 ?side2 A17.out).mono ?_); (case side1 => exact Kd.C_below HR287_1.out (zo HB)); (case side2 => exact HC287_1.out); rintro e w28 ⟨rfl, hb⟩; replace BK288 := zK (blk_below (g := gb288) (o := .cells #[.int .i64 ((rd_T70 l0 x25_2).f0.f0), .slice A287_1 ((rd_T70 l0 x25_2).f0.f1).length c287_1, .bool false] 70 (0, 0)) (by refine zM ?_; refine blk_put (cs := #[.int .i64 ((rd_T70 l0 x25_2).f0.f0), .slice A287_1 ((rd_T70 l0 x25_2).f0.f1).length c287_1, .bool false]) ?_ 2 _ rfl; refine zM ?_; refine blk_put (cs := #[.int .i64 ((rd_T70 l0 x25_2).f0.f0), .slice none 0 0, .bool false]) ?_ 1 _ rfl; refine zM ?_; refine blk_put (cs := #[.int .i64 0, .slice none 0 0, .bool false]) ?_ 0 _ rfl; refine zM ?_; exact BK288.out) hb); replace HB := zK (below_step (zo HB) hb); (try clear hb); (try clear hb2); (try clear hk); (try clear hi)))
            go_meet
            case rel => (try rw [← Nbq14.out]); exact ⟨_, (true), (by first | rfl | (simp; done) | (simp [*]; done)), H', ⟨by have := HJ2.out; have := HK2.out; first | omega | exact Nat.le_refl _⟩, ⟨zb BK288⟩, ⟨zo HB⟩⟩
         case rest =>
          clear HC11; try clear c1; try clear q1; try clear c2
          try clear p2; try clear q2; try clear hx2; try clear c3
          try clear c5; try clear c6; try clear c6b0; try clear c6b1
          try clear c6b2; try clear p6; try clear c7; try clear c8
          try clear c8b0; try clear c9; try clear c9b0; try clear c10
          try clear c10b0; try clear c13; try clear q14; try clear c15
          try clear c18; try clear c18b0; try clear c18b1; try clear c20
          try clear c20b0; try clear c28; try clear p28; try clear q28
          try clear hx28; try clear hcz13_0; try clear hcz13_1; try clear hcz13_2
          try clear hcz16_0; try clear hcz16_1; try clear hcz16_2; try clear hcz21_0
          try clear hcz21_1; try clear hcz21_2; try clear hcz23_0; try clear hcz23_1
          try clear hcz23_2; try clear hcz24_0; try clear hcz24_1; try clear hcz24_2
          try clear hcz26_0; try clear hcz26_1; try clear hcz26_2; try clear hcz27_0
          try clear hcz27_1; try clear hcz27_2; try clear hfz13_0; try clear hfz13_1
          try clear hfz13_2; try clear hfz16_0; try clear hfz16_1; try clear hfz16_2
          try clear hfz21_0; try clear hfz21_1; try clear hfz21_2; try clear hfz23_0
          try clear hfz23_1; try clear hfz23_2; try clear hfz24_0; try clear hfz24_1
          try clear hfz24_2; try clear hfz26_0; try clear hfz26_1; try clear hfz26_2
          try clear hfz27_0; try clear hfz27_1; try clear hfz27_2; try clear hx287_0
          try clear hx287_1; try clear hx287_2; try clear p2; try clear p287; try clear q287
          obtain ⟨kq, x53_10, rfl, HA, HJ10, BK288, HB⟩ := hcut
          cases kq with
          | zero => exact absurd HA.out (by simp [sequiturlaw30_small.j2])
          | succ kj10 =>
           have H := HA.out; clear HA
           simp only [sequiturlaw30_small.j2] at H
           by_cases c29 : x53_10 = true
           ·subst c29
            have H1 : (some false) = some r := by rw [if_pos rfl] at H; exact H
            clear H; have H := H1; clear H1
            obtain rfl := Option.some.inj H
            go_wp2
            go_ret
            exact ⟨by first | rfl | (simp [errW_none, errW_some] <;> rfl) | (simp [*, errW_none, errW_some] <;> rfl), zo HB⟩
           ·replace c29 := Bool.eq_false_iff.mpr c29
            subst c29
            have H1 : (sequiturlaw30_small.l1 kj10 l1 l0 (l0.length : Int) x25_2 ((rd_T70 l0 x25_2).f0.f1) (((rd_T70 l0 x25_2).f0.f1).length : Int) 0) = some r := by rw [if_neg (show ¬ (false = true) by decide)] at H; exact H
            clear H; have H := H1; clear H1
            have H' := zK H; clear H
            have hcz30_0 : wc.cell? ⟨gb288, 0, none⟩ = some (.int .i64 ((rd_T70 l0 x25_2).f0.f0)) := (blk_cell BK288.out 0).trans rfl
            have hcz30_1 : wc.cell? ⟨gb288, 1, none⟩ = some (.slice A287_1 ((rd_T70 l0 x25_2).f0.f1).length c287_1) := (blk_cell BK288.out 1).trans rfl
            have hcz30_2 : wc.cell? ⟨gb288, 2, none⟩ = some (.bool ((rd_T70 l0 x25_2).f1)) := (blk_cell BK288.out 2).trans rfl
            have hfz30_0 := blk_frozen BK288.out 0
            have hfz30_1 := blk_frozen BK288.out 1
            have hfz30_2 := blk_frozen BK288.out 2
            go_wp2
            go_loopg [58] kj10 (fun kq v58 w' => ∃ (x58_4 : Int), v58 = .int .i64 x58_4 ∧ Aside0 (sequiturlaw30_small.l1 kq l1 l0 (l0.length : Int) x25_2 ((rd_T70 l0 x25_2).f0.f1) (((rd_T70 l0 x25_2).f0.f1).length : Int) x58_4 = some r) ∧ Aside0 (kq ≤ kj10) ∧ Aside0 (w'.heap[gb288]? = some (.cells #[.int .i64 ((rd_T70 l0 x25_2).f0.f0), (.slice A287_1 ((rd_T70 l0 x25_2).f0.f1).length c287_1), .bool ((rd_T70 l0 x25_2).f1)] 70 (0, 0))) ∧ Aside0 (Below w.heap.size w w'))
            case atStart => exact ⟨(0), (by first | rfl | (simp; done) | (simp [*]; done)), H', ⟨Nat.le_refl _⟩, ⟨zb BK288⟩, ⟨zo HB⟩⟩
            case round =>
             clear H'; try clear c1; try clear q1; try clear c2
             try clear p2; try clear q2; try clear hx2; try clear c3
             try clear c5; try clear c6; try clear c6b0; try clear c6b1
             try clear c6b2; try clear p6; try clear c7; try clear c8
             try clear c8b0; try clear c9; try clear c9b0; try clear c10
             try clear c10b0; try clear c13; try clear q14; try clear c15
             try clear c18; try clear c18b0; try clear c18b1; try clear c20
             try clear c20b0; try clear c28; try clear p28; try clear q28
             try clear hx28; try clear c29; try clear hcz13_0; try clear hcz13_1
             try clear hcz13_2; try clear hcz16_0; try clear hcz16_1; try clear hcz16_2
             try clear hcz21_0; try clear hcz21_1; try clear hcz21_2; try clear hcz23_0
             try clear hcz23_1; try clear hcz23_2; try clear hcz24_0; try clear hcz24_1
             try clear hcz24_2; try clear hcz26_0; try clear hcz26_1; try clear hcz26_2
             try clear hcz27_0; try clear hcz27_1; try clear hcz27_2; try clear hcz30_0
             try clear hcz30_1; try clear hcz30_2; try clear hfz13_0; try clear hfz13_1
             try clear hfz13_2; try clear hfz16_0; try clear hfz16_1; try clear hfz16_2
             try clear hfz21_0; try clear hfz21_1; try clear hfz21_2; try clear hfz23_0
             try clear hfz23_1; try clear hfz23_2; try clear hfz24_0; try clear hfz24_1
             try clear hfz24_2; try clear hfz26_0; try clear hfz26_1; try clear hfz26_2
             try clear hfz27_0; try clear hfz27_1; try clear hfz27_2; try clear hfz30_0
             try clear hfz30_1; try clear hfz30_2; try clear hx287_0; try clear hx287_1
             try clear hx287_2; try clear p2; try clear p28; try clear p287
             try clear p6; try clear q1; try clear q14; try clear q2; try clear q28; try clear q287
             obtain ⟨x58_4, rfl, HA, HK4, BK288, HB⟩ := hrel
             cases gk with
             | zero => exact absurd HA.out (by simp [sequiturlaw30_small.l1])
             | succ k4 =>
              have H := HA.out; clear HA
              simp only [sequiturlaw30_small.l1] at H
              by_cases c31 : x58_4 < (((rd_T70 l0 x25_2).f0.f1).length : Int)
              ·rw [if_pos c31] at H
               have c31b0 : decide (x58_4 < (((rd_T70 l0 x25_2).f0.f1).length : Int)) = true := decide_eq_true c31
               clear c31
               by_cases c32 : 0 ≤ x58_4
               ·rw [if_pos c32] at H
                have c32b0 : decide (0 ≤ x58_4) = true := decide_eq_true c32; clear c32
                by_cases c33 : x58_4 < (((rd_T70 l0 x25_2).f0.f1).length : Int)
                ·rw [if_pos c33] at H
                 have c33b0 : decide (x58_4 < (((rd_T70 l0 x25_2).f0.f1).length : Int)) = true := decide_eq_true c33
                 clear c33
                 by_cases c34 : ((rd_T68 ((rd_T70 l0 x25_2).f0.f1) x58_4).f1) > 100
                 ·rw [if_pos c34] at H
                  have c34b0 : decide (100 < ((rd_T68 ((rd_T70 l0 x25_2).f0.f1) x58_4).f1)) = true := decide_eq_true c34
                  clear c34
                  obtain rfl := Option.some.inj H
                  have p290 : 0 ≤ (x58_4 : Int) := of_decide_eq_true (by first | (with_reducible assumption) | assumption)
                  have q290 : x58_4 < (((rd_T70 l0 x25_2).f0.f1).length : Int) := of_decide_eq_true (by first | (with_reducible assumption) | assumption)
                  obtain ⟨ad290, e290, hx290_0, hx290_1⟩ := at_T68 HR287_1.out x58_4 p290 q290
                  cases e290
                  replace hx290_0 := (HB.out.cell (World.block_lt_of_cell? w _ hx290_0)).trans hx290_0
                  replace hx290_1 := (HB.out.cell (World.block_lt_of_cell? w _ hx290_1)).trans hx290_1
                  replace p290 := eq_true p290
                  replace q290 := eq_true q290
                  go_wp2_with (first | ((with_reducible refine gate_dst (N := 8) rfl ?_); (try (refine zG (by rfl) ?_; dsimp only)); refine box_event ?hg (N := 8) ?hd (cs := #[.int .i64 0, .int .i64 0]) (t := 68) ?hr ?_; (case hd => rfl); (case hg => rfl); (case hr => first | (go_simp; done) | (go_simp; rfl)); intro gb291 hg w35 hbox hb; have BK291 := zK (hbox); have GW291 := zK ((by rw [hg]; exact (below_size (zo HB)) : w.heap.size ≤ gb291)); have GE291 := zK ((by rw [hg]; exact (below_size (zo HB)) : w.heap.size ≤ gb291)); replace HB := zK (below_step (zo HB) hb); have NB288_291 := zK ((by rw [hg]; exact Nat.ne_of_lt (blk_lt (g := gb288) (o := .cells #[.int .i64 ((rd_T70 l0 x25_2).f0.f0), .slice (some ad290) ((rd_T70 l0 x25_2).f0.f1).length c287_1, .bool ((rd_T70 l0 x25_2).f1)] 70 (0, 0)) (zb BK288)) : gb288 ≠ gb291)); have NB291_288 := zK ((by rw [hg]; exact Nat.ne_of_gt (blk_lt (g := gb288) (o := .cells #[.int .i64 ((rd_T70 l0 x25_2).f0.f0), .slice (some ad290) ((rd_T70 l0 x25_2).f0.f1).length c287_1, .bool ((rd_T70 l0 x25_2).f1)] 70 (0, 0)) (zb BK288)) : gb291 ≠ gb288)); replace BK288 := zK (blk_below (g := gb288) (o := .cells #[.int .i64 ((rd_T70 l0 x25_2).f0.f0), .slice (some ad290) ((rd_T70 l0 x25_2).f0.f1).length c287_1, .bool ((rd_T70 l0 x25_2).f1)] 70 (0, 0)) (zb BK288) hb); clear hb hbox hg; have hnb36 := NB291_288.out; have hnc36 := NB288_291.out; have hcz37_0 : w35.cell? ⟨gb291, 0, none⟩ = some (.int .i64 0) := (blk_cell BK291.out 0).trans rfl; have hcz37_1 : w35.cell? ⟨gb291, 1, none⟩ = some (.int .i64 0) := (blk_cell BK291.out 1).trans rfl; have hfz37_0 := blk_frozen BK291.out 0; have hfz37_1 := blk_frozen BK291.out 1))
                  go_ret
                  exact ⟨by first | rfl | (simp [errW_none, errW_some] <;> rfl) | (simp [*, errW_none, errW_some] <;> rfl), zo HB⟩
                 ·rw [if_neg c34] at H
                  have c34b0 : decide (100 < ((rd_T68 ((rd_T70 l0 x25_2).f0.f1) x58_4).f1)) = false := decide_eq_false c34
                  clear c34
                  by_cases c38 : ((rd_T68 ((rd_T70 l0 x25_2).f0.f1) x58_4).f1) < (-100)
                  ·rw [if_pos c38] at H
                   have c38b0 : decide (((rd_T68 ((rd_T70 l0 x25_2).f0.f1) x58_4).f1) < (-100)) = true := decide_eq_true c38
                   clear c38
                   obtain rfl := Option.some.inj H
                   have p290 : 0 ≤ (x58_4 : Int) := of_decide_eq_true (by first | (with_reducible assumption) | assumption)
                   have q290 : x58_4 < (((rd_T70 l0 x25_2).f0.f1).length : Int) := of_decide_eq_true (by first | (with_reducible assumption) | assumption)
                   obtain ⟨ad290, e290, hx290_0, hx290_1⟩ := at_T68 HR287_1.out x58_4 p290 q290
                   cases e290
                   replace hx290_0 := (HB.out.cell (World.block_lt_of_cell? w _ hx290_0)).trans hx290_0
                   replace hx290_1 := (HB.out.cell (World.block_lt_of_cell? w _ hx290_1)).trans hx290_1
                   replace p290 := eq_true p290
                   replace q290 := eq_true q290
                   go_wp2_with (first | ((with_reducible refine gate_dst (N := 8) rfl ?_); (try (refine zG (by rfl) ?_; dsimp only)); refine box_event ?hg (N := 8) ?hd (cs := #[.int .i64 0, .int .i64 0]) (t := 68) ?hr ?_; (case hd => rfl); (case hg => rfl); (case hr => first | (go_simp; done) | (go_simp; rfl)); intro gb291 hg w39 hbox hb; have BK291 := zK (hbox); have GW291 := zK ((by rw [hg]; exact (below_size (zo HB)) : w.heap.size ≤ gb291)); have GE291 := zK ((by rw [hg]; exact (below_size (zo HB)) : w.heap.size ≤ gb291)); replace HB := zK (below_step (zo HB) hb); have NB288_291 := zK ((by rw [hg]; exact Nat.ne_of_lt (blk_lt (g := gb288) (o := .cells #[.int .i64 ((rd_T70 l0 x25_2).f0.f0), .slice (some ad290) ((rd_T70 l0 x25_2).f0.f1).length c287_1, .bool ((rd_T70 l0 x25_2).f1)] 70 (0, 0)) (zb BK288)) : gb288 ≠ gb291)); have NB291_288 := zK ((by rw [hg]; exact Nat.ne_of_gt (blk_lt (g := gb288) (o := .cells #[.int .i64 ((rd_T70 l0 x25_2).f0.f0), .slice (some ad290) ((rd_T70 l0 x25_2).f0.f1).length c287_1, .bool ((rd_T70 l0 x25_2).f1)] 70 (0, 0)) (zb BK288)) : gb291 ≠ gb288)); replace BK288 := zK (blk_below (g := gb288) (o := .cells #[.int .i64 ((rd_T70 l0 x25_2).f0.f0), .slice (some ad290) ((rd_T70 l0 x25_2).f0.f1).length c287_1, .bool ((rd_T70 l0 x25_2).f1)] 70 (0, 0)) (zb BK288) hb); clear hb hbox hg; have hnb40 := NB291_288.out; have hnc40 := NB288_291.out; have hcz41_0 : w39.cell? ⟨gb291, 0, none⟩ = some (.int .i64 0) := (blk_cell BK291.out 0).trans rfl; have hcz41_1 : w39.cell? ⟨gb291, 1, none⟩ = some (.int .i64 0) := (blk_cell BK291.out 1).trans rfl; have hfz41_0 := blk_frozen BK291.out 0; have hfz41_1 := blk_frozen BK291.out 1))
                   go_ret
                   exact ⟨by first | rfl | (simp [errW_none, errW_some] <;> rfl) | (simp [*, errW_none, errW_some] <;> rfl), zo HB⟩
                  ·rw [if_neg c38] at H
                   have c38b0 : decide (((rd_T68 ((rd_T70 l0 x25_2).f0.f1) x58_4).f1) < (-100)) = false := decide_eq_false c38
                   clear c38
                   have H' := zK H; clear H
                   have p290 : 0 ≤ (x58_4 : Int) := of_decide_eq_true (by first | (with_reducible assumption) | assumption)
                   have q290 : x58_4 < (((rd_T70 l0 x25_2).f0.f1).length : Int) := of_decide_eq_true (by first | (with_reducible assumption) | assumption)
                   obtain ⟨ad290, e290, hx290_0, hx290_1⟩ := at_T68 HR287_1.out x58_4 p290 q290
                   cases e290
                   replace hx290_0 := (HB.out.cell (World.block_lt_of_cell? w _ hx290_0)).trans hx290_0
                   replace hx290_1 := (HB.out.cell (World.block_lt_of_cell? w _ hx290_1)).trans hx290_1
                   replace p290 := eq_true p290
                   replace q290 := eq_true q290
                   go_wp2_with (first | ((with_reducible refine gate_dst (N := 8) rfl ?_); (try (refine zG (by rfl) ?_; dsimp only)); refine box_event ?hg (N := 8) ?hd (cs := #[.int .i64 0, .int .i64 0]) (t := 68) ?hr ?_; (case hd => rfl); (case hg => rfl); (case hr => first | (go_simp; done) | (go_simp; rfl)); intro gb291 hg w42 hbox hb; have BK291 := zK (hbox); have GW291 := zK ((by rw [hg]; exact (below_size (zo HB)) : w.heap.size ≤ gb291)); have GE291 := zK ((by rw [hg]; exact (below_size (zo HB)) : w.heap.size ≤ gb291)); replace HB := zK (below_step (zo HB) hb); have NB288_291 := zK ((by rw [hg]; exact Nat.ne_of_lt (blk_lt (g := gb288) (o := .cells #[.int .i64 ((rd_T70 l0 x25_2).f0.f0), .slice (some ad290) ((rd_T70 l0 x25_2).f0.f1).length c287_1, .bool ((rd_T70 l0 x25_2).f1)] 70 (0, 0)) (zb BK288)) : gb288 ≠ gb291)); have NB291_288 := zK ((by rw [hg]; exact Nat.ne_of_gt (blk_lt (g := gb288) (o := .cells #[.int .i64 ((rd_T70 l0 x25_2).f0.f0), .slice (some ad290) ((rd_T70 l0 x25_2).f0.f1).length c287_1, .bool ((rd_T70 l0 x25_2).f1)] 70 (0, 0)) (zb BK288)) : gb291 ≠ gb288)); replace BK288 := zK (blk_below (g := gb288) (o := .cells #[.int .i64 ((rd_T70 l0 x25_2).f0.f0), .slice (some ad290) ((rd_T70 l0 x25_2).f0.f1).length c287_1, .bool ((rd_T70 l0 x25_2).f1)] 70 (0, 0)) (zb BK288) hb); clear hb hbox hg; have hnb43 := NB291_288.out; have hnc43 := NB288_291.out; have hcz44_0 : w42.cell? ⟨gb291, 0, none⟩ = some (.int .i64 0) := (blk_cell BK291.out 0).trans rfl; have hcz44_1 : w42.cell? ⟨gb291, 1, none⟩ = some (.int .i64 0) := (blk_cell BK291.out 1).trans rfl; have hfz44_0 := blk_frozen BK291.out 0; have hfz44_1 := blk_frozen BK291.out 1))
                   go_roundg k4
                   case measure => have := HJ2.out; have := HK2.out; have := HJ10.out; have := HK4.out; omega
                   case rel => exact ⟨(wrap64 (x58_4 + 1)), (by first | rfl | (simp; done) | (simp [*]; done)), H', ⟨by have := HJ2.out; have := HK2.out; have := HJ10.out; have := HK4.out; omega⟩, ⟨zb BK288⟩, ⟨zo HB⟩⟩
                ·rw [if_neg c33] at H
                 exact absurd H (by simp)
               ·rw [if_neg c32] at H
                exact absurd H (by simp)
              ·rw [if_neg c31] at H
               have c31b0 : decide (x58_4 < (((rd_T70 l0 x25_2).f0.f1).length : Int)) = false := decide_eq_false c31
               clear c31
               have H' := zK H; clear H
               go_wp2
               go_roundg k4
               case measure => have := HJ2.out; have := HK2.out; have := HJ10.out; have := HK4.out; omega
               case rel => exact ⟨(wrap64 (x25_2 + 1)), (by first | rfl | (simp; done) | (simp [*]; done)), H', ⟨by have := HJ2.out; have := HK2.out; have := HJ10.out; have := HK4.out; omega⟩, ⟨zo HB⟩⟩
        ·rw [if_neg c10] at H
         exact absurd H (by simp)
       ·rw [if_neg c9] at H
        exact absurd H (by simp)
      ·rw [if_neg c8] at H
       have c8b0 : decide (x25_2 < (l0.length : Int)) = false := decide_eq_false c8
       clear c8
       have H' := zK H; clear H
       go_wp2
       go_loopg [74] k2 (fun kq v74 w' => ∃ (x74_3 : Int), v74 = .int .i64 x74_3 ∧ Aside0 (sequiturlaw30_small.l2 kq l1 (l1.length : Int) x74_3 = some r) ∧ Aside0 (kq ≤ k2) ∧ Aside0 (Below w.heap.size w w'))
       case atStart => exact ⟨(0), (by first | rfl | (simp; done) | (simp [*]; done)), H', ⟨Nat.le_refl _⟩, ⟨zo HB⟩⟩
       case round =>
        clear H'; try clear c1; try clear q1; try clear c2
        try clear p2; try clear q2; try clear hx2; try clear c3
        try clear c4; try clear c5; try clear c6; try clear c6b0
        try clear c6b1; try clear c6b2; try clear p6; try clear c7
        try clear c8; try clear c8b0; try clear c9; try clear c9b0
        try clear c10; try clear c10b0; try clear c13; try clear q14
        try clear c15; try clear c18; try clear c18b0; try clear c18b1
        try clear c20; try clear c20b0; try clear c28; try clear p28
        try clear q28; try clear hx28; try clear c29; try clear p29
        try clear q29; try clear hx29; try clear c31; try clear c31b0
        try clear c32; try clear c32b0; try clear c33; try clear c33b0
        try clear c34; try clear c34b0; try clear c36; try clear c38
        try clear c38b0; try clear c40; try clear c43; try clear hcz13_0
        try clear hcz13_1; try clear hcz13_2; try clear hcz16_0; try clear hcz16_1
        try clear hcz16_2; try clear hcz21_0; try clear hcz21_1; try clear hcz21_2
        try clear hcz23_0; try clear hcz23_1; try clear hcz23_2; try clear hcz24_0
        try clear hcz24_1; try clear hcz24_2; try clear hcz26_0; try clear hcz26_1
        try clear hcz26_2; try clear hcz27_0; try clear hcz27_1; try clear hcz27_2
        try clear hcz30_0; try clear hcz30_1; try clear hcz30_2; try clear hcz37_0
        try clear hcz37_1; try clear hcz41_0; try clear hcz41_1; try clear hcz44_0
        try clear hcz44_1; try clear hfz13_0; try clear hfz13_1; try clear hfz13_2
        try clear hfz16_0; try clear hfz16_1; try clear hfz16_2; try clear hfz21_0
        try clear hfz21_1; try clear hfz21_2; try clear hfz23_0; try clear hfz23_1
        try clear hfz23_2; try clear hfz24_0; try clear hfz24_1; try clear hfz24_2
        try clear hfz26_0; try clear hfz26_1; try clear hfz26_2; try clear hfz27_0
        try clear hfz27_1; try clear hfz27_2; try clear hfz30_0; try clear hfz30_1
        try clear hfz30_2; try clear hfz37_0; try clear hfz37_1; try clear hfz41_0
        try clear hfz41_1; try clear hfz44_0; try clear hfz44_1; try clear hx287_0
        try clear hx287_1; try clear hx287_2; try clear hx290_0; try clear hx290_1
        try clear p2; try clear p28; try clear p287; try clear p290
        try clear p6; try clear q1; try clear q14; try clear q2; try clear q28; try clear q287; try clear q290
        obtain ⟨x74_3, rfl, HA, HK3, HB⟩ := hrel
        cases gk with
        | zero => exact absurd HA.out (by simp [sequiturlaw30_small.l2])
        | succ k3 =>
         have H := HA.out; clear HA
         simp only [sequiturlaw30_small.l2] at H
         by_cases c45 : x74_3 < (l1.length : Int)
         ·rw [if_pos c45] at H
          have c45b0 : decide (x74_3 < (l1.length : Int)) = true := decide_eq_true c45
          clear c45
          by_cases c46 : 0 ≤ x74_3
          ·rw [if_pos c46] at H
           have c46b0 : decide (0 ≤ x74_3) = true := decide_eq_true c46; clear c46
           by_cases c47 : x74_3 < (l1.length : Int)
           ·rw [if_pos c47] at H
            have c47b0 : decide (x74_3 < (l1.length : Int)) = true := decide_eq_true c47
            clear c47
            by_cases c48 : (rd l1 x74_3) > 1000
            ·rw [if_pos c48] at H
             have c48b0 : decide (1000 < (rd l1 x74_3)) = true := decide_eq_true c48
             clear c48
             obtain rfl := Option.some.inj H
             have p292 : 0 ≤ (x74_3 : Int) := of_decide_eq_true (by first | (with_reducible assumption) | assumption)
             have q292 : x74_3 < (l1.length : Int) := of_decide_eq_true (by first | (with_reducible assumption) | assumption)
             obtain ⟨ad292, e292, hx292_0⟩ := Kd.at_int HR1.out x74_3 p292 q292
             cases e292
             replace hx292_0 := (HB.out.cell (World.block_lt_of_cell? w _ hx292_0)).trans hx292_0
             replace p292 := eq_true p292
             replace q292 := eq_true q292
             go_wp2
             go_ret
             exact ⟨by first | rfl | (simp [errW_none, errW_some] <;> rfl) | (simp [*, errW_none, errW_some] <;> rfl), zo HB⟩
            ·rw [if_neg c48] at H
             have c48b0 : decide (1000 < (rd l1 x74_3)) = false := decide_eq_false c48
             clear c48
             by_cases c49 : (rd l1 x74_3) < (-1000)
             ·rw [if_pos c49] at H
              have c49b0 : decide ((rd l1 x74_3) < (-1000)) = true := decide_eq_true c49
              clear c49
              obtain rfl := Option.some.inj H
              have p292 : 0 ≤ (x74_3 : Int) := of_decide_eq_true (by first | (with_reducible assumption) | assumption)
              have q292 : x74_3 < (l1.length : Int) := of_decide_eq_true (by first | (with_reducible assumption) | assumption)
              obtain ⟨ad292, e292, hx292_0⟩ := Kd.at_int HR1.out x74_3 p292 q292
              cases e292
              replace hx292_0 := (HB.out.cell (World.block_lt_of_cell? w _ hx292_0)).trans hx292_0
              replace p292 := eq_true p292
              replace q292 := eq_true q292
              go_wp2
              go_ret
              exact ⟨by first | rfl | (simp [errW_none, errW_some] <;> rfl) | (simp [*, errW_none, errW_some] <;> rfl), zo HB⟩
             ·rw [if_neg c49] at H
              have c49b0 : decide ((rd l1 x74_3) < (-1000)) = false := decide_eq_false c49
              clear c49
              have H' := zK H; clear H
              have p292 : 0 ≤ (x74_3 : Int) := of_decide_eq_true (by first | (with_reducible assumption) | assumption)
              have q292 : x74_3 < (l1.length : Int) := of_decide_eq_true (by first | (with_reducible assumption) | assumption)
              obtain ⟨ad292, e292, hx292_0⟩ := Kd.at_int HR1.out x74_3 p292 q292
              cases e292
              replace hx292_0 := (HB.out.cell (World.block_lt_of_cell? w _ hx292_0)).trans hx292_0
              replace p292 := eq_true p292
              replace q292 := eq_true q292
              go_wp2
              go_roundg k3
              case measure => have := HJ2.out; have := HK2.out; have := HK3.out; omega
              case rel => exact ⟨(wrap64 (x74_3 + 1)), (by first | rfl | (simp; done) | (simp [*]; done)), H', ⟨by have := HJ2.out; have := HK2.out; have := HK3.out; omega⟩, ⟨zo HB⟩⟩
           ·rw [if_neg c47] at H
            exact absurd H (by simp)
          ·rw [if_neg c46] at H
           exact absurd H (by simp)
         ·rw [if_neg c45] at H
          have c45b0 : decide (x74_3 < (l1.length : Int)) = false := decide_eq_false c45
          clear c45
          obtain rfl := Option.some.inj H
          go_wp2
          go_ret
          exact ⟨by first | rfl | (simp [errW_none, errW_some] <;> rfl) | (simp [*, errW_none, errW_some] <;> rfl), zo HB⟩

end Go.Proofs.Ytkfbfgkdabljiaa.PShadowHolds
