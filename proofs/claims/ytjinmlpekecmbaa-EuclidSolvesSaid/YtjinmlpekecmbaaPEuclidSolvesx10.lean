/- What the call of each function that the law reaches comes to, and the law out of its plain form; no condition but what stands in each theorem. -/
import Derived.Test.YtjinmlpekecmbaaPEuclidSolvesx0
import Derived.Test.YtjinmlpekecmbaaPEuclidSolvesx1
import Derived.Test.YtjinmlpekecmbaaPEuclidSolvesx9
namespace Go.Proofs.Ytjinmlpekecmbaa.PEuclidSolves
open Go.RowKit Go.Proofs.YtjinmlpekecmbaaW.PrintWords Go.Proofs.YtjinmlpekecmbaaW.PrintLast Go.Proofs.YtjinmlpekecmbaaW.PrintMore
open Go.Proofs.YtjinmlpekecmbaaW.PrintWords renaming blk_drewN → zN, blk_drew → zD, blk_alloc → zA, below_alloc → yA, pw_below_drewN → yN, below_drew1 → yD, below_set → yS, gate_callee → zC
open Go.Proofs.YtjinmlpekecmbaaW.PrintWords.Aside0 renaming mk → zK
attribute [local go_sem] max2_int min2_int max_two min_two max_three min_three max_four min_four
set_option linter.unusedVariables false
set_option linter.unusedSimpArgs false

/-! ### euclid_Point: function 21 -/
mutual
def euclid_Point.l0 : Nat → List Int → List (S41) → Int → Int → List (S41) → Int → Option (List Int × Int)
 | 0, _, _, _, _, _, _ => none
 | k + 1, x1, x19, x20, x21, x315000, x315001 => if x21 < x20 then (if 0 ≤ x21 then (if x21 < (x19.length : Int) then ((lin_Right.f k ((rd_T41 x19 x21).f0) ((rd_T41 x19 x21).f1)).bind fun t317 => (if t317 = 0 then (euclid_Point.l0 k x1 x19 x20 (wrap64 (x21 + 1)) x315000 x315001) else (some (([] : List Int), 1)))) else (none)) else (none)) else (euclid_Point.l1 k x1 ([] : List Int) x315000 (x315000.length : Int) 0)
def euclid_Point.l1 : Nat → List Int → List Int → List (S41) → Int → Int → Option (List Int × Int)
 | 0, _, _, _, _, _ => none
 | k + 1, x1, x8, x30, x31, x32 => if x32 < x31 then (if 0 ≤ x32 then (if x32 < (x30.length : Int) then ((lin_Eval.f k ((rd_T41 x30 x32).f0) ((rd_T41 x30 x32).f1) x1).bind fun bt320 => (if bt320.2 = 0 then (if x8.length < 17592186044416 then (euclid_Point.l1 k x1 (x8 ++ [bt320.1]) x30 x31 (wrap64 (x32 + 1))) else (none)) else (some (([] : List Int), bt320.2)))) else (none)) else (none)) else (some (x8, 0))
end
def euclid_Point.f (k : Nat) (l0_0 : List (S41)) (a0_1 : Int) (l1 : List Int) : Option (List Int × Int) := if (l1.length : Int) = a0_1 then (euclid_Point.l0 k l1 l0_0 (l0_0.length : Int) 0 l0_0 a0_1) else (some (([] : List Int), 1))
theorem euclid_Point.mono_l : ∀ k, (∀ y0 y1 y2 y3 y4 y5, LeO (euclid_Point.l0 k y0 y1 y2 y3 y4 y5) (euclid_Point.l0 (k + 1) y0 y1 y2 y3 y4 y5)) ∧ (∀ y0 y1 y2 y3 y4, LeO (euclid_Point.l1 k y0 y1 y2 y3 y4) (euclid_Point.l1 (k + 1) y0 y1 y2 y3 y4))
 | 0 => ⟨fun _ _ _ _ _ _ r h => by simp [euclid_Point.l0] at h, fun _ _ _ _ _ r h => by simp [euclid_Point.l1] at h⟩
 | k + 1 => by
  obtain ⟨ih0, ih1⟩ := euclid_Point.mono_l k
  refine ⟨?_, ?_⟩ <;> intros <;> first | unfold euclid_Point.l0 | unfold euclid_Point.l1
  all_goals repeat' first | (with_reducible first | exact ih0 .. | exact ih1 .. | exact lin_Eval.mono .. | exact lin_Right.mono .. | exact LeO.refl _ | exact LeO.none _ | refine LeO.ite ?_ ?_ | refine LeO.bind ?_ (fun _ => ?_)) | exact ih0 .. | exact ih1 .. | exact lin_Eval.mono .. | exact lin_Right.mono .. | exact LeO.none _ | refine LeO.ite ?_ ?_ | refine LeO.bind ?_ (fun _ => ?_)
theorem euclid_Point.mono : ∀ a0 a1 a2 k, LeO (euclid_Point.f k a0 a1 a2) (euclid_Point.f (k + 1) a0 a1 a2) := by
 intro a0 a1 a2 k
 obtain ⟨ih0, ih1⟩ := euclid_Point.mono_l k
 unfold euclid_Point.f
 repeat' first | (with_reducible first | exact ih0 .. | exact ih1 .. | exact lin_Eval.mono .. | exact lin_Right.mono .. | exact LeO.refl _ | exact LeO.none _ | refine LeO.ite ?_ ?_ | refine LeO.bind ?_ (fun _ => ?_)) | exact ih0 .. | exact ih1 .. | exact lin_Eval.mono .. | exact lin_Right.mono .. | exact LeO.none _ | refine LeO.ite ?_ ?_ | refine LeO.bind ?_ (fun _ => ?_)
set_option maxHeartbeats 8000000 in
set_option maxRecDepth 100000 in
theorem euclid_Point.calls (k : Nat) (A0_0 : Option Addr) (c0_0 : Nat) (l0_0 : List (S41)) (a0_1 : Int) (A1 : Option Addr) (c1 : Nat) (l1 : List Int) (r1 : List Int) (r2 : Int) (w : World) (hr0_0 : Kd.C k41 w A0_0 l0_0.length l0_0) (hc0_0 : l0_0.length ≤ c0_0) (hr1 : Kd.C (Kd.int .i64) w A1 l1.length l1) (hc1 : l1.length ≤ c1) (h : euclid_Point.f k l0_0 a0_1 l1 = some (r1, r2)) :
  Calls Try.prog 21 #[.agg #[.slice A0_0 l0_0.length c0_0, .int .i64 a0_1], .slice A1 l1.length c1] w fun e w' => ∃ v0_ : Value, e = .returned (.tuple #[v0_, .int .i64 r2]) ∧ Kd.R (Kd.int .i64) 2 w' w.heap.size (fun _ => True) v0_ r1 ∧ Below w.heap.size w w' := by
 have hu32 := Try.underlying32
 have hu41 := Try.underlying41
 have HR0_0 := zK hr0_0
 have HC0_0 := zK hc0_0; clear hr0_0 hc0_0
 have HR1 := zK hr1
 have HC1 := zK hc1; clear hr1 hc1
 have HB := zK (Below.refl w.heap.size w)
 have H : (if (l1.length : Int) = a0_1 then (euclid_Point.l0 k l1 l0_0 (l0_0.length : Int) 0 l0_0 a0_1) else (some (([] : List Int), 1))) = some (r1, r2) := h
 clear h
 by_cases c3 : (l1.length : Int) = a0_1
 ·rw [if_pos c3] at H
  have c3b0 : ((l1.length : Int) == a0_1) = true := beq_iff_eq.mpr c3
  have c3b1 : ((l1.length : Int) != a0_1) = false := bne_eq_false_iff_eq.mpr c3
  clear c3
  have H' := zK H; clear H
  go_enter Try.func21, Try.ntmps21
  go_wp2_with (first | ((with_reducible refine gate_dst (N := 2) rfl ?_); refine zBx HB (cs := #[.slice A0_0 l0_0.length c0_0, .int .i64 a0_1]) (t := 32) ?_; clear HB; intro gb314 hg w4 BK314 GW314 hb HB; clear hb hg; have hcz5_0 := zc0 BK314; have hcz5_1 := zc1 BK314; have hfz5_0 := zfz BK314 0; have hfz5_1 := zfz BK314 1))
  go_loopg [21] k (fun kq v21 w' => ∃ (x21_1 : Int), v21 = .int .i64 x21_1 ∧ Aside0 (euclid_Point.l0 kq l1 l0_0 (l0_0.length : Int) x21_1 l0_0 a0_1 = some (r1, r2)) ∧ Aside0 (kq ≤ k) ∧ Aside0 (w'.heap[gb314]? = some (.cells #[(.slice A0_0 l0_0.length c0_0), .int .i64 a0_1] 32 (0, 0))) ∧ Aside0 (Below w.heap.size w w'))
  case atStart => exact ⟨(0), (by first | rfl | (simp; done) | (simp [*]; done)), H', ⟨Nat.le_refl _⟩, ⟨zb BK314⟩, ⟨zo HB⟩⟩
  case round =>
   clear H'; try clear c1; try clear c2; try clear p2
   try clear c3; try clear c3b0; try clear c3b1; try clear hcz5_0
   try clear hcz5_1; try clear hfz5_0; try clear hfz5_1
   obtain ⟨x21_1, rfl, HA, HK1, BK314, HB⟩ := hrel
   cases gk with
   | zero => exact absurd HA.out (by simp [euclid_Point.l0])
   | succ k1 =>
    have H := HA.out; clear HA
    simp only [euclid_Point.l0] at H
    by_cases c6 : x21_1 < (l0_0.length : Int)
    ·rw [if_pos c6] at H
     have c6b0 : decide (x21_1 < (l0_0.length : Int)) = true := decide_eq_true c6
     clear c6
     by_cases c7 : 0 ≤ x21_1
     ·rw [if_pos c7] at H
      have c7b0 : decide (0 ≤ x21_1) = true := decide_eq_true c7; clear c7
      by_cases c8 : x21_1 < (l0_0.length : Int)
      ·rw [if_pos c8] at H
       have c8b0 : decide (x21_1 < (l0_0.length : Int)) = true := decide_eq_true c8
       clear c8; replace H := zob H
       obtain ⟨t317, A90, H⟩ := H
       replace H : (if t317 = 0 then (euclid_Point.l0 k1 l1 l0_0 (l0_0.length : Int) (wrap64 (x21_1 + 1)) l0_0 a0_1) else (some (([] : List Int), 1))) = some (r1, r2) := H
       have A9 := zK A90; clear A90
       by_cases c10 : t317 = 0
       ·rw [if_pos c10] at H
        have c10b0 : (t317 == 0) = true := beq_iff_eq.mpr c10
        have c10b1 : (t317 != 0) = false := bne_eq_false_iff_eq.mpr c10; clear c10
        have H' := zK H; clear H
        have p315 : 0 ≤ (x21_1 : Int) := zdt
        have q315 : x21_1 < (l0_0.length : Int) := zdt
        obtain ⟨ad315, A315_1, c315_1, e315, hx315_0, hx315_1, hl315_1, hi315_1⟩ := at_T41 HR0_0.out x21_1 p315 q315
        cases e315
        replace hx315_0 := zcl HB hx315_0
        replace hx315_1 := zcl HB hx315_1
        have HR315_1 := zK hi315_1
        have HC315_1 := zK hl315_1; clear hi315_1 hl315_1
        replace p315 := eq_true p315
        replace q315 := eq_true q315
        go_wp2_with (first | ((with_reducible refine gate_dst (N := 7) rfl ?_); refine zBx HB (cs := #[.int .i64 0, .slice none 0 0]) (t := 41) ?_; clear HB; intro gb316 hg w11 BK316 GW316 hb HB; have NB314_316 := zn1 BK314 hg; have NB316_314 := zn2 BK314 hg; replace BK314 := zbb BK314 hb; clear hb hg; have hnb12 := NB316_314.out; have hnc12 := NB314_316.out; have hcz13_0 := zc0 BK316; have hcz13_1 := zc1 BK316; have hfz13_0 := zfz BK316 0; have hfz13_1 := zfz BK316 1) | ((with_reducible refine zC (f := 18) rfl ?_); refine zGo (some 26) Try.func18 #[.agg #[.int .i64 ((rd_T41 l0_0 x21_1).f0), .slice A315_1 ((rd_T41 l0_0 x21_1).f1).length c315_1]] ?_; (with_reducible refine (lin_Right.calls k1 ((rd_T41 l0_0 x21_1).f0) _ _ ((rd_T41 l0_0 x21_1).f1) t317 _ ?side1 ?side2 A9.out).mono ?_); (case side1 => exact Kd.C_below HR315_1.out (zo HB)); (case side2 => exact HC315_1.out); rintro e w14 ⟨rfl, hb⟩; refine ⟨_, rfl, ?_⟩; replace BK314 := zbb BK314 hb; replace BK316 := zK (blk_below (g := gb316) (o := .cells #[.int .i64 ((rd_T41 l0_0 x21_1).f0), .slice A315_1 ((rd_T41 l0_0 x21_1).f1).length c315_1] 41 (0, 0)) (by refine zM ?_; refine blk_put (cs := #[.int .i64 ((rd_T41 l0_0 x21_1).f0), .slice none 0 0]) ?_ 1 _ rfl; refine zM ?_; refine blk_put (cs := #[.int .i64 0, .slice none 0 0]) ?_ 0 _ rfl; refine zM ?_; exact BK316.out) hb); replace HB := zst HB hb; clear hb))
        go_roundg k1
        case measure => have := HK1.out; omega
        case rel => exact ⟨(wrap64 (x21_1 + 1)), (by first | rfl | (simp; done) | (simp [*]; done)), H', ⟨by have := HK1.out; omega⟩, ⟨zb BK314⟩, ⟨zo HB⟩⟩
       ·rw [if_neg c10] at H
        have c10b0 : (t317 == 0) = false := beq_eq_false_iff_ne.mpr c10
        have c10b1 : (t317 != 0) = true := bne_iff_ne.mpr c10
        simp only [Option.some.injEq, Prod.mk.injEq] at H
        obtain ⟨rfl, rfl⟩ := H
        have p315 : 0 ≤ (x21_1 : Int) := zdt
        have q315 : x21_1 < (l0_0.length : Int) := zdt
        obtain ⟨ad315, A315_1, c315_1, e315, hx315_0, hx315_1, hl315_1, hi315_1⟩ := at_T41 HR0_0.out x21_1 p315 q315
        cases e315
        replace hx315_0 := zcl HB hx315_0
        replace hx315_1 := zcl HB hx315_1
        have HR315_1 := zK hi315_1
        have HC315_1 := zK hl315_1; clear hi315_1 hl315_1
        replace p315 := eq_true p315
        replace q315 := eq_true q315
        go_wp2_with (first | ((with_reducible refine gate_dst (N := 7) rfl ?_); refine zBx HB (cs := #[.int .i64 0, .slice none 0 0]) (t := 41) ?_; clear HB; intro gb316 hg w15 BK316 GW316 hb HB; have NB314_316 := zn1 BK314 hg; have NB316_314 := zn2 BK314 hg; replace BK314 := zbb BK314 hb; clear hb hg; have hnb16 := NB316_314.out; have hnc16 := NB314_316.out; have hcz17_0 := zc0 BK316; have hcz17_1 := zc1 BK316; have hfz17_0 := zfz BK316 0; have hfz17_1 := zfz BK316 1) | ((with_reducible refine zC (f := 18) rfl ?_); refine zGo (some 26) Try.func18 #[.agg #[.int .i64 ((rd_T41 l0_0 x21_1).f0), .slice A315_1 ((rd_T41 l0_0 x21_1).f1).length c315_1]] ?_; (with_reducible refine (lin_Right.calls k1 ((rd_T41 l0_0 x21_1).f0) _ _ ((rd_T41 l0_0 x21_1).f1) t317 _ ?side1 ?side2 A9.out).mono ?_); (case side1 => exact Kd.C_below HR315_1.out (zo HB)); (case side2 => exact HC315_1.out); rintro e w18 ⟨rfl, hb⟩; refine ⟨_, rfl, ?_⟩; replace BK314 := zbb BK314 hb; replace BK316 := zK (blk_below (g := gb316) (o := .cells #[.int .i64 ((rd_T41 l0_0 x21_1).f0), .slice A315_1 ((rd_T41 l0_0 x21_1).f1).length c315_1] 41 (0, 0)) (by refine zM ?_; refine blk_put (cs := #[.int .i64 ((rd_T41 l0_0 x21_1).f0), .slice none 0 0]) ?_ 1 _ rfl; refine zM ?_; refine blk_put (cs := #[.int .i64 0, .slice none 0 0]) ?_ 0 _ rfl; refine zM ?_; exact BK316.out) hb); replace HB := zst HB hb; clear hb))
        go_ret2
        exact ⟨_, zR (h := zL (h := zo HB))⟩
      ·rw [if_neg c8] at H
       exact absurd H (by simp)
     ·rw [if_neg c7] at H
      exact absurd H (by simp)
    ·rw [if_neg c6] at H
     have c6b0 : decide (x21_1 < (l0_0.length : Int)) = false := decide_eq_false c6
     clear c6
     have H' := zK H; clear H
     have hcz19_0 := zc0 BK314
     have hcz19_1 := zc1 BK314
     have hfz19_0 := zfz BK314 0
     have hfz19_1 := zfz BK314 1
     go_wp2
     go_loopg [8, 32] k1 (fun kq v8 v32 w' => ∃ (x8_2 : List Int) (x32_2 : Int), v32 = .int .i64 x32_2 ∧ Aside0 (euclid_Point.l1 kq l1 x8_2 l0_0 (l0_0.length : Int) x32_2 = some (r1, r2)) ∧ Aside0 (kq ≤ k1) ∧ Aside0 (Kd.R (Kd.int .i64) 2 w' w.heap.size (fun _ => True) v8 x8_2) ∧ Aside0 (w'.heap[gb314]? = some (.cells #[(.slice A0_0 l0_0.length c0_0), .int .i64 a0_1] 32 (0, 0))) ∧ Aside0 (Below w.heap.size w w'))
     case atStart => exact ⟨(([] : List Int)), (0), (by first | rfl | (simp; done) | (simp [*]; done)), H', ⟨Nat.le_refl _⟩, ⟨by first | exact Kd.R_nil _ _ _ _ _ | exact Kd.N_nil _ _ _ _ _ | exact Kd.V_nil _ _ _ _ _ | exact Kd.Q_nil _ _ _ _ _ | exact Kd.S_nil _ _ _ _ _⟩, ⟨zb BK314⟩, ⟨zo HB⟩⟩
     case round =>
      clear H'; try clear c1; try clear c2; try clear p2
      try clear c3; try clear c3b0; try clear c3b1; try clear p3
      try clear q3; try clear hx3; try clear c6; try clear c6b0
      try clear p6; try clear c7; try clear c7b0; try clear c8
      try clear c8b0; try clear c10; try clear c10b0; try clear c10b1
      try clear c12; try clear c16; try clear c18; try clear hcz13_0
      try clear hcz13_1; try clear hcz17_0; try clear hcz17_1; try clear hcz19_0
      try clear hcz19_1; try clear hcz5_0; try clear hcz5_1; try clear hfz13_0
      try clear hfz13_1; try clear hfz17_0; try clear hfz17_1; try clear hfz19_0
      try clear hfz19_1; try clear hfz5_0; try clear hfz5_1; try clear hx315_0
      try clear hx315_1; try clear p2; try clear p315; try clear q315
      obtain ⟨x8_2, x32_2, rfl, HA, HK2, HO_8, BK314, HB⟩ := hrel
      cases gk with
      | zero => exact absurd HA.out (by simp [euclid_Point.l1])
      | succ k2 =>
       have H := HA.out; clear HA
       simp only [euclid_Point.l1] at H
       by_cases c20 : x32_2 < (l0_0.length : Int)
       ·rw [if_pos c20] at H
        have c20b0 : decide (x32_2 < (l0_0.length : Int)) = true := decide_eq_true c20
        clear c20
        by_cases c21 : 0 ≤ x32_2
        ·rw [if_pos c21] at H
         have c21b0 : decide (0 ≤ x32_2) = true := decide_eq_true c21; clear c21
         by_cases c22 : x32_2 < (l0_0.length : Int)
         ·rw [if_pos c22] at H
          have c22b0 : decide (x32_2 < (l0_0.length : Int)) = true := decide_eq_true c22
          clear c22; replace H := zob H
          obtain ⟨⟨t320, t321⟩, A230, H⟩ := H
          replace H : (if t321 = 0 then (if x8_2.length < 17592186044416 then (euclid_Point.l1 k2 l1 (x8_2 ++ [t320]) l0_0 (l0_0.length : Int) (wrap64 (x32_2 + 1))) else (none)) else (some (([] : List Int), t321))) = some (r1, r2) := H
          have A23 := zK A230; clear A230
          by_cases c24 : t321 = 0
          ·rw [if_pos c24] at H
           have c24b0 : (t321 == 0) = true := beq_iff_eq.mpr c24
           have c24b1 : (t321 != 0) = false := bne_eq_false_iff_eq.mpr c24; clear c24
           by_cases c25 : x8_2.length < 17592186044416
           ·rw [if_pos c25] at H
            have LMc25 := zK c25; clear c25
            obtain ⟨y322, hy322⟩ : ∃ y_ : List Int, y_ = (x8_2 ++ [t320]) := ⟨_, rfl⟩
            replace H : (euclid_Point.l1 k2 l1 y322 l0_0 (l0_0.length : Int) (wrap64 (x32_2 + 1))) = some (r1, r2) := by first | (rw [hy322]; with_reducible exact H) | (have H2_ := (Option.bind_some _ _).symm.trans H; rw [hy322]; with_reducible exact H2_) | (have H2_ := (Option.bind_some _ _).symm.trans H; with_reducible exact H2_) | with_reducible exact H | (rw [hy322]; exact H) | exact H
            have Ny322 := zK hy322; clear hy322
            have H' := zK H; clear H
            have p318 : 0 ≤ (x32_2 : Int) := zdt
            have q318 : x32_2 < (l0_0.length : Int) := zdt
            obtain ⟨ad318, A318_1, c318_1, e318, hx318_0, hx318_1, hl318_1, hi318_1⟩ := at_T41 HR0_0.out x32_2 p318 q318
            cases e318
            replace hx318_0 := zcl HB hx318_0
            replace hx318_1 := zcl HB hx318_1
            have HR318_1 := zK hi318_1
            have HC318_1 := zK hl318_1; clear hi318_1 hl318_1
            replace p318 := eq_true p318
            replace q318 := eq_true q318
            go_wp2_with (first | ((with_reducible refine gate_dst (N := 10) rfl ?_); refine zBox (cs := #[.int .i64 0, .slice none 0 0]) (t := 41) ?_; intro gb319 hg w26 hbox hb; replace HO_8 := zK (Kd.R_below (zr HO_8) hb); have BK319 := zK (hbox); have GW319 := zK ((by rw [hg]; exact (below_size (zo HB)) : w.heap.size ≤ gb319)); replace HB := zst HB hb; have NB314_319 := zn1 BK314 hg; have NB319_314 := zn2 BK314 hg; replace BK314 := zbb BK314 hb; clear hb hbox hg; have hnb27 := NB319_314.out; have hnc27 := NB314_319.out; have hcz28_0 := zc0 BK319; have hcz28_1 := zc1 BK319; have hfz28_0 := zfz BK319 0; have hfz28_1 := zfz BK319 1) | ((with_reducible refine zC (f := 22) rfl ?_); refine zGo (some 39) Try.func22 #[.agg #[.int .i64 ((rd_T41 l0_0 x32_2).f0), .slice A318_1 ((rd_T41 l0_0 x32_2).f1).length c318_1], .slice A1 l1.length c1] ?_; (with_reducible refine (lin_Eval.calls k2 ((rd_T41 l0_0 x32_2).f0) _ _ ((rd_T41 l0_0 x32_2).f1) _ _ l1 t320 t321 _ ?side1 ?side2 ?side3 ?side4 A23.out).mono ?_); (case side1 => exact Kd.C_below HR318_1.out (zo HB)); (case side2 => exact HC318_1.out); (case side3 => exact Kd.C_below HR1.out (zo HB)); (case side4 => exact HC1.out); rintro e w29 ⟨rfl, hb⟩; refine ⟨_, rfl, ?_⟩; replace HO_8 := zK (Kd.R_below (by (with_reducible repeat (first | apply Kd.R_alloc | apply Kd.R_drewN | apply Kd.R_drew)); exact (Kd.R_mono (Kd.R_far (p := ⟨gb319, 1, none⟩) (Kd.R_far (p := ⟨gb319, 0, none⟩) (Kd.R_types HO_8.out BK319.out (by decide)) (fun _ hk => hk.2) (.int .i64 ((rd_T41 l0_0 x32_2).f0))) (fun _ hk => hk.2) (.slice A318_1 ((rd_T41 l0_0 x32_2).f1).length c318_1)) (fun _ h_ => h_.1))) hb); replace BK314 := zbb BK314 hb; replace BK319 := zK (blk_below (g := gb319) (o := .cells #[.int .i64 ((rd_T41 l0_0 x32_2).f0), .slice A318_1 ((rd_T41 l0_0 x32_2).f1).length c318_1] 41 (0, 0)) (by refine zM ?_; refine blk_put (cs := #[.int .i64 ((rd_T41 l0_0 x32_2).f0), .slice none 0 0]) ?_ 1 _ rfl; refine zM ?_; refine blk_put (cs := #[.int .i64 0, .slice none 0 0]) ?_ 0 _ rfl; refine zM ?_; exact BK319.out) hb); replace HB := zst HB hb; clear hb; (try clear hk)) | ((with_reducible refine gate_builtin (b := .append) (xs := #[.tmp 45, .tmp 47]) rfl ?_); at_builtin; refine Kd.R_append (Kd.int .i64) (w0 := w) w.heap.size rfl (.tmp 45) (.tmp 47) 23 2 (.int .i64 0) 8 rfl Try.underlying23 info2 rfl (by decide) (by omega) u8 x8_2 t320 [.int .i64 t320] (fun _ => True) (fun _ => False) rfl rfl ?aP (fun _ hk => hk.elim) ?aF ?aO ?aB ?aS ?aL ?_; (case aP => exact rfl); (case aB => exact (zo HB)); (case aF => exact (fun _ _ => trivial)); (case aO => exact (zr HO_8)); (case aS => exact (below_size (zo HB))); (case aL => have := LMc25.out; omega); intro v323 w30 ho hb hg hat; rw [← Ny322.out] at ho; replace BK314 := zK (blk_grown (g := gb314) (o := .cells #[.slice (some ad318) l0_0.length c0_0, .int .i64 a0_1] 32 (0, 0)) (zb BK314) hg (Kd.R_ne HO_8.out BK314.out (by decide))); replace BK319 := zK (blk_grown (g := gb319) (o := .cells #[.int .i64 ((rd_T41 l0_0 x32_2).f0), .slice A318_1 ((rd_T41 l0_0 x32_2).f1).length c318_1] 41 (0, 0)) (zb BK319) hg (Kd.R_ne HO_8.out BK319.out (by decide))); replace HB := zK (hb); have HO324 := zK (ho); clear HO_8 ho hb hg hat))
            go_roundg k2
            case measure => have := HK1.out; have := HK2.out; omega
            case rel => exact ⟨(y322), (wrap64 (x32_2 + 1)), (by first | rfl | (simp; done) | (simp [*]; done)), H', ⟨by have := HK1.out; have := HK2.out; omega⟩, ⟨zr HO324⟩, ⟨zb BK314⟩, ⟨zo HB⟩⟩
           ·rw [if_neg c25] at H
            exact absurd H (by simp)
          ·rw [if_neg c24] at H
           have c24b0 : (t321 == 0) = false := beq_eq_false_iff_ne.mpr c24
           have c24b1 : (t321 != 0) = true := bne_iff_ne.mpr c24
           simp only [Option.some.injEq, Prod.mk.injEq] at H
           obtain ⟨rfl, rfl⟩ := H
           have p318 : 0 ≤ (x32_2 : Int) := zdt
           have q318 : x32_2 < (l0_0.length : Int) := zdt
           obtain ⟨ad318, A318_1, c318_1, e318, hx318_0, hx318_1, hl318_1, hi318_1⟩ := at_T41 HR0_0.out x32_2 p318 q318
           cases e318
           replace hx318_0 := zcl HB hx318_0
           replace hx318_1 := zcl HB hx318_1
           have HR318_1 := zK hi318_1
           have HC318_1 := zK hl318_1; clear hi318_1 hl318_1
           replace p318 := eq_true p318
           replace q318 := eq_true q318
           go_wp2_with (first | ((with_reducible refine gate_dst (N := 10) rfl ?_); refine zBox (cs := #[.int .i64 0, .slice none 0 0]) (t := 41) ?_; intro gb319 hg w31 hbox hb; replace HO_8 := zK (Kd.R_below (zr HO_8) hb); have BK319 := zK (hbox); have GW319 := zK ((by rw [hg]; exact (below_size (zo HB)) : w.heap.size ≤ gb319)); replace HB := zst HB hb; have NB314_319 := zn1 BK314 hg; have NB319_314 := zn2 BK314 hg; replace BK314 := zbb BK314 hb; clear hb hbox hg; have hnb32 := NB319_314.out; have hnc32 := NB314_319.out; have hcz33_0 := zc0 BK319; have hcz33_1 := zc1 BK319; have hfz33_0 := zfz BK319 0; have hfz33_1 := zfz BK319 1) | ((with_reducible refine zC (f := 22) rfl ?_); refine zGo (some 39) Try.func22 #[.agg #[.int .i64 ((rd_T41 l0_0 x32_2).f0), .slice A318_1 ((rd_T41 l0_0 x32_2).f1).length c318_1], .slice A1 l1.length c1] ?_; (with_reducible refine (lin_Eval.calls k2 ((rd_T41 l0_0 x32_2).f0) _ _ ((rd_T41 l0_0 x32_2).f1) _ _ l1 t320 t321 _ ?side1 ?side2 ?side3 ?side4 A23.out).mono ?_); (case side1 => exact Kd.C_below HR318_1.out (zo HB)); (case side2 => exact HC318_1.out); (case side3 => exact Kd.C_below HR1.out (zo HB)); (case side4 => exact HC1.out); rintro e w34 ⟨rfl, hb⟩; refine ⟨_, rfl, ?_⟩; replace HO_8 := zK (Kd.R_below (by (with_reducible repeat (first | apply Kd.R_alloc | apply Kd.R_drewN | apply Kd.R_drew)); exact (Kd.R_mono (Kd.R_far (p := ⟨gb319, 1, none⟩) (Kd.R_far (p := ⟨gb319, 0, none⟩) (Kd.R_types HO_8.out BK319.out (by decide)) (fun _ hk => hk.2) (.int .i64 ((rd_T41 l0_0 x32_2).f0))) (fun _ hk => hk.2) (.slice A318_1 ((rd_T41 l0_0 x32_2).f1).length c318_1)) (fun _ h_ => h_.1))) hb); replace BK314 := zbb BK314 hb; replace BK319 := zK (blk_below (g := gb319) (o := .cells #[.int .i64 ((rd_T41 l0_0 x32_2).f0), .slice A318_1 ((rd_T41 l0_0 x32_2).f1).length c318_1] 41 (0, 0)) (by refine zM ?_; refine blk_put (cs := #[.int .i64 ((rd_T41 l0_0 x32_2).f0), .slice none 0 0]) ?_ 1 _ rfl; refine zM ?_; refine blk_put (cs := #[.int .i64 0, .slice none 0 0]) ?_ 0 _ rfl; refine zM ?_; exact BK319.out) hb); replace HB := zst HB hb; clear hb; (try clear hk)))
           go_ret2
           exact ⟨_, zR (h := zL (h := zo HB))⟩
         ·rw [if_neg c22] at H
          exact absurd H (by simp)
        ·rw [if_neg c21] at H
         exact absurd H (by simp)
       ·rw [if_neg c20] at H
        have c20b0 : decide (x32_2 < (l0_0.length : Int)) = false := decide_eq_false c20
        clear c20
        simp only [Option.some.injEq, Prod.mk.injEq] at H
        obtain ⟨rfl, rfl⟩ := H
        go_wp2
        go_ret2
        exact ⟨_, by first | rfl | (simp [errW_none, errW_some] <;> rfl) | (simp [*, errW_none, errW_some] <;> rfl), by (with_reducible repeat (first | apply Kd.R_alloc | apply Kd.R_drewN | apply Kd.R_drew)); exact HO_8.out, zo HB⟩
 ·rw [if_neg c3] at H
  have c3b0 : ((l1.length : Int) == a0_1) = false := beq_eq_false_iff_ne.mpr c3
  have c3b1 : ((l1.length : Int) != a0_1) = true := bne_iff_ne.mpr c3
  simp only [Option.some.injEq, Prod.mk.injEq] at H
  obtain ⟨rfl, rfl⟩ := H
  go_enter Try.func21, Try.ntmps21
  go_wp2_with (first | ((with_reducible refine gate_dst (N := 2) rfl ?_); refine zBx HB (cs := #[.slice A0_0 l0_0.length c0_0, .int .i64 a0_1]) (t := 32) ?_; clear HB; intro gb314 hg w35 BK314 GW314 hb HB; clear hb hg; have hcz36_0 := zc0 BK314; have hcz36_1 := zc1 BK314; have hfz36_0 := zfz BK314 0; have hfz36_1 := zfz BK314 1))
  go_ret2
  exact ⟨_, zR (h := zL (h := zo HB))⟩

end Go.Proofs.Ytjinmlpekecmbaa.PEuclidSolves
