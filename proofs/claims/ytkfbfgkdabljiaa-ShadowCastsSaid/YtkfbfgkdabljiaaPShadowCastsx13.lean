/- What the call of each function that the law reaches comes to: it answers as the plain function of the same name does, wherever that one answers; and the law itself out of its plain form. Written by a program of this session (an extended copy of the printer); no condition but what stands in each theorem. -/
import Derived.Test.YtkfbfgkdabljiaaPShadowCastsx0
import Derived.Test.YtkfbfgkdabljiaaPShadowCastsx2
import Derived.Test.YtkfbfgkdabljiaaPShadowCastsx6
import Derived.Test.YtkfbfgkdabljiaaPShadowCastsx10
import Derived.Test.YtkfbfgkdabljiaaPShadowCastsx12
namespace Go.Proofs.Ytkfbfgkdabljiaa.PShadowCasts
open Go.RowKit Go.Proofs.YtkfbfgkdabljiaaW.PrintWords Go.Proofs.YtkfbfgkdabljiaaW.PrintLast Go.Proofs.YtkfbfgkdabljiaaW.PrintMore
open Go.Proofs.YtkfbfgkdabljiaaW.PrintWords renaming blk_drewN → zN, blk_drew → zD, blk_alloc → zA, below_alloc → yA, pw_below_drewN → yN, below_drew1 → yD, below_set → yS, gate_callee → zC
open Go.Proofs.YtkfbfgkdabljiaaW.PrintWords.Kd renaming N_alloc → nA, N_drewN → nN, N_drew → nD, C_alloc → cA, C_drewN → cN, C_drew → cD
open Go.Proofs.YtkfbfgkdabljiaaW.PrintWords.Aside0 renaming mk → zK
attribute [local go_sem] max2_int min2_int max_two min_two max_three min_three max_four min_four   -- for this text's walks alone
set_option linter.unusedVariables false
set_option linter.unusedSimpArgs false

/-! ### shadow_Exact: function 18 -/
mutual
def shadow_Exact.l0 : Nat → List (S70) → Int → List Int → Int → Int → List (S70) → Int → Option (Bool)
 | 0, _, _, _, _, _, _, _ => none
 | k + 1, x0, x1, x14, x15, x16, x336000, x337000 => if x16 < x15 then (if 0 ≤ x16 then (if x16 < (x14.length : Int) then ((shadow_bounds_1.f k 1 x336000 x337000).bind fun t341 => (shadow_Exact.l1 k x0 x1 (rd x14 x16) x14 x15 x16 t341 (t341.length : Int) 0 x336000 x337000)) else (none)) else (none)) else (some true)
def shadow_Exact.l1 : Nat → List (S70) → Int → Int → List Int → Int → Int → List Int → Int → Int → List (S70) → Int → Option (Bool)
 | 0, _, _, _, _, _, _, _, _, _, _, _ => none
 | k + 1, x0, x1, x7, x14, x15, x16, x21, x22, x23, x336000, x337000 => if x23 < x22 then (if 0 ≤ x23 then (if x23 < (x21.length : Int) then (if 0 ≤ x7 then (if x7 < (x0.length : Int) then ((lin_By.f k ((rd_T70 x0 x7).f0.f0) ((rd_T70 x0 x7).f0.f1) x1).bind fun t346 => (if t346 = (-1) then (shadow_Exact.l1 k x0 x1 x7 x14 x15 x16 x21 x22 (wrap64 (x23 + 1)) x336000 x337000) else (if 0 ≤ (rd x21 x23) then (if (rd x21 x23) < (x0.length : Int) then ((lin_By.f k ((rd_T70 x0 (rd x21 x23)).f0.f0) ((rd_T70 x0 (rd x21 x23)).f0.f1) x1).bind fun t348 => (if t348 = 1 then (shadow_Exact.l1 k x0 x1 x7 x14 x15 x16 x21 x22 (wrap64 (x23 + 1)) x336000 x337000) else (some false))) else (none)) else (none)))) else (none)) else (none)) else (none)) else (none)) else (shadow_Exact.l0 k x0 x1 x14 x15 (wrap64 (x16 + 1)) x336000 x337000)
end
def shadow_Exact.f (k : Nat) (l0 : List (S70)) (a1 : Int) : Option (Bool) := (shadow_bounds_1.f k (-1) l0 a1).bind fun t337 => (shadow_Exact.l0 k l0 a1 t337 (t337.length : Int) 0 l0 a1)
theorem shadow_Exact.mono_l : ∀ k, (∀ y0 y1 y2 y3 y4 y5 y6, LeO (shadow_Exact.l0 k y0 y1 y2 y3 y4 y5 y6) (shadow_Exact.l0 (k + 1) y0 y1 y2 y3 y4 y5 y6)) ∧ (∀ y0 y1 y2 y3 y4 y5 y6 y7 y8 y9 y10, LeO (shadow_Exact.l1 k y0 y1 y2 y3 y4 y5 y6 y7 y8 y9 y10) (shadow_Exact.l1 (k + 1) y0 y1 y2 y3 y4 y5 y6 y7 y8 y9 y10))
 | 0 => ⟨fun _ _ _ _ _ _ _ r h => by simp [shadow_Exact.l0] at h, fun _ _ _ _ _ _ _ _ _ _ _ r h => by simp [shadow_Exact.l1] at h⟩
 | k + 1 => by
  obtain ⟨ih0, ih1⟩ := shadow_Exact.mono_l k
  refine ⟨?_, ?_⟩
  ·intro y0 y1 y2 y3 y4 y5 y6
   unfold shadow_Exact.l0
   repeat' first
   | (with_reducible exact ih0 _ _ _ _ _ _ _)
   | (with_reducible exact ih1 _ _ _ _ _ _ _ _ _ _ _)
   | (with_reducible exact lin_By.mono _ _ _ _)
   | (with_reducible exact shadow_bounds_1.mono _ _ _ _)
   | (with_reducible exact LeO.refl _)
   | (with_reducible exact LeO.none _)
   | (with_reducible refine LeO.ite ?_ ?_)
   | (with_reducible refine LeO.bind ?_ (fun _ => ?_))
   | exact ih0 _ _ _ _ _ _ _
   | exact ih1 _ _ _ _ _ _ _ _ _ _ _
   | exact lin_By.mono _ _ _ _
   | exact shadow_bounds_1.mono _ _ _ _
   | exact LeO.none _
   | refine LeO.ite ?_ ?_
   | refine LeO.bind ?_ (fun _ => ?_)
  ·intro y0 y1 y2 y3 y4 y5 y6 y7 y8 y9 y10
   unfold shadow_Exact.l1
   repeat' first
   | (with_reducible exact ih0 _ _ _ _ _ _ _)
   | (with_reducible exact ih1 _ _ _ _ _ _ _ _ _ _ _)
   | (with_reducible exact lin_By.mono _ _ _ _)
   | (with_reducible exact shadow_bounds_1.mono _ _ _ _)
   | (with_reducible exact LeO.refl _)
   | (with_reducible exact LeO.none _)
   | (with_reducible refine LeO.ite ?_ ?_)
   | (with_reducible refine LeO.bind ?_ (fun _ => ?_))
   | exact ih0 _ _ _ _ _ _ _
   | exact ih1 _ _ _ _ _ _ _ _ _ _ _
   | exact lin_By.mono _ _ _ _
   | exact shadow_bounds_1.mono _ _ _ _
   | exact LeO.none _
   | refine LeO.ite ?_ ?_
   | refine LeO.bind ?_ (fun _ => ?_)
theorem shadow_Exact.mono : ∀ a0 a1 k, LeO (shadow_Exact.f k a0 a1) (shadow_Exact.f (k + 1) a0 a1) := by
 intro a0 a1 k
 obtain ⟨ih0, ih1⟩ := shadow_Exact.mono_l k
 unfold shadow_Exact.f
 repeat' first
   | (with_reducible exact ih0 _ _ _ _ _ _ _)
   | (with_reducible exact ih1 _ _ _ _ _ _ _ _ _ _ _)
   | (with_reducible exact lin_By.mono _ _ _ _)
   | (with_reducible exact shadow_bounds_1.mono _ _ _ _)
   | (with_reducible exact LeO.refl _)
   | (with_reducible exact LeO.none _)
   | (with_reducible refine LeO.ite ?_ ?_)
   | (with_reducible refine LeO.bind ?_ (fun _ => ?_))
   | exact ih0 _ _ _ _ _ _ _
   | exact ih1 _ _ _ _ _ _ _ _ _ _ _
   | exact lin_By.mono _ _ _ _
   | exact shadow_bounds_1.mono _ _ _ _
   | exact LeO.none _
   | refine LeO.ite ?_ ?_
   | refine LeO.bind ?_ (fun _ => ?_)
set_option maxHeartbeats 8000000 in
set_option maxRecDepth 100000 in
theorem shadow_Exact.calls (k : Nat) (A0 : Option Addr) (c0 : Nat) (l0 : List (S70)) (a1 : Int) (r : Bool) (w : World) (hr0 : Kd.C k70 w A0 l0.length l0) (hc0 : l0.length ≤ c0) (h : shadow_Exact.f k l0 a1 = some r) :
  Calls Try.prog 18 #[.slice A0 l0.length c0, .int .i64 a1] w fun e w' => e = .returned (.bool r) ∧ Below w.heap.size w w' := by
 have hu62 := Try.underlying62
 have HR0 := zK hr0
 have HC0 := zK hc0; clear hr0 hc0
 have HB := zK (Below.refl w.heap.size w)
 have H : ((shadow_bounds_1.f k (-1) l0 a1).bind fun t337 => (shadow_Exact.l0 k l0 a1 t337 (t337.length : Int) 0 l0 a1)) = some r := h
 clear h; replace H := Option.bind_eq_some_iff.mp H
 obtain ⟨t337, A30, H⟩ := H
 replace H : (shadow_Exact.l0 k l0 a1 t337 (t337.length : Int) 0 l0 a1) = some r := H
 have A3 := zK A30; clear A30
 have H' := zK H; clear H
 go_enter Try.func18, Try.ntmps18
 go_wp2_with (first | (go_at_call 45; refine shadow_bounds.gate ?_; intro gb335 hg w4 hbox hb; have BK335 := zK (hbox); have GW335 := zK ((by rw [hg]; exact (below_size (zo HB)) : w.heap.size ≤ gb335)); have GE335 := zK ((by rw [hg]; exact (below_size (zo HB)) : w.heap.size ≤ gb335)); replace HB := zK (below_step (zo HB) hb); clear hb hbox hg; intro gb336 hg w5 hbox hb; have BK336 := zK (hbox); have GW336 := zK ((by rw [hg]; exact (below_size (zo HB)) : w.heap.size ≤ gb336)); have GE336 := zK ((by rw [hg]; exact (below_size (zo HB)) : w.heap.size ≤ gb336)); replace HB := zK (below_step (zo HB) hb); have NB335_336 := zK ((by rw [hg]; exact Nat.ne_of_lt (blk_lt (g := gb335) (o := .cells #[.slice A0 l0.length c0] 22 (0, 0)) (zb BK335)) : gb335 ≠ gb336)); have NB336_335 := zK ((by rw [hg]; exact Nat.ne_of_gt (blk_lt (g := gb335) (o := .cells #[.slice A0 l0.length c0] 22 (0, 0)) (zb BK335)) : gb336 ≠ gb335)); replace BK335 := zK (blk_below (g := gb335) (o := .cells #[.slice A0 l0.length c0] 22 (0, 0)) (zb BK335) hb); clear hb hbox hg) | (go_at_call 82; (with_reducible refine (shadow_bounds_1.calls k (-1) A0 c0 l0 gb335 a1 gb336 t337 _ ?side1 ?side2 ?side3 ?side4 ?side5 A3.out).mono ?_); (case side1 => repeat (first | exact (Kd.C_below HR0.out HB.out) | (with_reducible refine cA ?_ _) | (with_reducible refine cN ?_ _) | (with_reducible refine cD ?_))); (case side2 => exact HC0.out); (case side3 => exact (zb BK335)); (case side4 => exact (zb BK336)); (case side5 => exact NB335_336.out); rintro e w6 ⟨v338, rfl, ho0, hb⟩; have HO339 := zK (Kd.R_lower (Kd.R_newB ho0 (g := gb336) (o := .cells #[.int .i64 a1] 3 (0, 0)) (zb BK336)) (below_size (zo HB))); replace BK335 := zK (blk_below (g := gb335) (o := .cells #[.slice A0 l0.length c0] 22 (0, 0)) (zb BK335) hb); replace BK336 := zK (blk_below (g := gb336) (o := .cells #[.int .i64 a1] 3 (0, 0)) (zb BK336) hb); replace HB := zK (below_step (zo HB) hb); (try clear hb); (try clear hb2); (try clear hk); (try clear hi); (try clear ho0); obtain ⟨Ao7, co7, eo7⟩ := Kd.R_slice HO339.out; subst eo7))
 go_loopg [16] k (fun kq v16 w' => ∃ (x16_1 : Int), v16 = .int .i64 x16_1 ∧ Aside0 (shadow_Exact.l0 kq l0 a1 t337 (t337.length : Int) x16_1 l0 a1 = some r) ∧ Aside0 (kq ≤ k) ∧ Aside0 (Kd.R (Kd.int .i64) 3 w' w.heap.size (fun k_ => k_ ≠ gb336) (.slice Ao7 t337.length co7) t337) ∧ Aside0 (w'.heap[gb335]? = some (.cells #[(.slice A0 l0.length c0)] 22 (0, 0))) ∧ Aside0 (w'.heap[gb336]? = some (.cells #[.int .i64 a1] 3 (0, 0))) ∧ Aside0 (Below w.heap.size w w'))
 case atStart => exact ⟨(0), (by first | rfl | (simp; done) | (simp [*]; done)), H', ⟨Nat.le_refl _⟩, ⟨by (with_reducible repeat (first | apply Kd.R_alloc | apply Kd.R_drewN | apply Kd.R_drew)); exact Kd.R_mono HO339.out (fun _ hk => hk.2)⟩, ⟨zb BK335⟩, ⟨zb BK336⟩, ⟨zo HB⟩⟩
 case round =>
  clear H'; try clear c1; try clear p2
  obtain ⟨x16_1, rfl, HA, HK1, HO_14, BK335, BK336, HB⟩ := hrel
  cases gk with
  | zero => exact absurd HA.out (by simp [shadow_Exact.l0])
  | succ k1 =>
   have H := HA.out; clear HA
   simp only [shadow_Exact.l0] at H
   by_cases c8 : x16_1 < (t337.length : Int)
   ·rw [if_pos c8] at H
    have c8b0 : decide (x16_1 < (t337.length : Int)) = true := decide_eq_true c8
    clear c8
    by_cases c9 : 0 ≤ x16_1
    ·rw [if_pos c9] at H
     have c9b0 : decide (0 ≤ x16_1) = true := decide_eq_true c9; clear c9
     by_cases c10 : x16_1 < (t337.length : Int)
     ·rw [if_pos c10] at H
      have c10b0 : decide (x16_1 < (t337.length : Int)) = true := decide_eq_true c10
      clear c10; replace H := Option.bind_eq_some_iff.mp H
      obtain ⟨t341, A110, H⟩ := H
      replace H : (shadow_Exact.l1 k1 l0 a1 (rd t337 x16_1) t337 (t337.length : Int) x16_1 t341 (t341.length : Int) 0 l0 a1) = some r := H
      have A11 := zK A110; clear A110
      have H' := zK H; clear H
      have p340 : 0 ≤ (x16_1 : Int) := of_decide_eq_true (by first | (with_reducible assumption) | assumption)
      have q340 : x16_1 < (t337.length : Int) := of_decide_eq_true (by first | (with_reducible assumption) | assumption)
      obtain ⟨ad340, e340, hx340_0⟩ := Kd.at_int (Kd.R_reads' HO_14.out).2.2 x16_1 p340 q340
      cases e340
      replace p340 := eq_true p340
      replace q340 := eq_true q340
      go_wp2_with (first | (go_at_call 82; (with_reducible refine (shadow_bounds_1.calls k1 1 A0 c0 l0 gb335 a1 gb336 t341 _ ?side1 ?side2 ?side3 ?side4 ?side5 A11.out).mono ?_); (case side1 => repeat (first | exact (Kd.C_below HR0.out HB.out) | (with_reducible refine cA ?_ _) | (with_reducible refine cN ?_ _) | (with_reducible refine cD ?_))); (case side2 => exact HC0.out); (case side3 => exact (zb BK335)); (case side4 => exact (zb BK336)); (case side5 => exact NB335_336.out); rintro e w12 ⟨v342, rfl, ho0, hb⟩; have HO343 := zK (Kd.R_lower (Kd.R_newB (Kd.R_new' ho0 (Kd.R_lt (zr HO_14))) (g := gb336) (o := .cells #[.int .i64 a1] 3 (0, 0)) (zb BK336)) (below_size (zo HB))); replace HO_14 := zK (Kd.R_elder' (zr HO_14) (Kd.R_base ho0) hb); replace BK335 := zK (blk_below (g := gb335) (o := .cells #[.slice A0 l0.length c0] 22 (0, 0)) (zb BK335) hb); replace BK336 := zK (blk_below (g := gb336) (o := .cells #[.int .i64 a1] 3 (0, 0)) (zb BK336) hb); replace HB := zK (below_step (zo HB) hb); (try clear hb); (try clear hb2); (try clear hk); (try clear hi); (try clear ho0); obtain ⟨Ao13, co13, eo13⟩ := Kd.R_slice HO343.out; subst eo13))
      go_loopg [23] k1 (fun kq v23 w' => ∃ (x23_2 : Int), v23 = .int .i64 x23_2 ∧ Aside0 (shadow_Exact.l1 kq l0 a1 (rd t337 x16_1) t337 (t337.length : Int) x16_1 t341 (t341.length : Int) x23_2 l0 a1 = some r) ∧ Aside0 (kq ≤ k1) ∧ Aside0 (Kd.R (Kd.int .i64) 3 w' w.heap.size (fun k_ => some k_ ≠ ((.slice Ao13 t341.length co13) : Value).ownBlock ∧ k_ ≠ gb336) (.slice (some ad340) t337.length co7) t337) ∧ Aside0 (Kd.R (Kd.int .i64) 3 w' w.heap.size (fun k_ => some k_ ≠ ((.slice (some ad340) t337.length co7) : Value).ownBlock ∧ k_ ≠ gb336) (.slice Ao13 t341.length co13) t341) ∧ Aside0 (w'.heap[gb335]? = some (.cells #[(.slice A0 l0.length c0)] 22 (0, 0))) ∧ Aside0 (w'.heap[gb336]? = some (.cells #[.int .i64 a1] 3 (0, 0))) ∧ Aside0 (Below w.heap.size w w'))
      case atStart => exact ⟨(0), (by first | rfl | (simp; done) | (simp [*]; done)), H', ⟨Nat.le_refl _⟩, ⟨by (with_reducible repeat (first | apply Kd.R_alloc | apply Kd.R_drewN | apply Kd.R_drew)); exact Kd.R_mono HO_14.out (fun _ hk => ⟨hk.2, hk.1⟩)⟩, ⟨by (with_reducible repeat (first | apply Kd.R_alloc | apply Kd.R_drewN | apply Kd.R_drew)); exact Kd.R_mono HO343.out (fun _ hk => ⟨hk.1.2, hk.2⟩)⟩, ⟨zb BK335⟩, ⟨zb BK336⟩, ⟨zo HB⟩⟩
      case round =>
       clear H'; try clear c1; try clear p2; try clear p3
       try clear q3; try clear hx3; try clear c8; try clear c8b0
       try clear c9; try clear c9b0; try clear c10; try clear c10b0
       try clear hx340_0; try clear p2; try clear p340; try clear q340
       obtain ⟨x23_2, rfl, HA, HK2, HO_14, HO_21, BK335, BK336, HB⟩ := hrel
       cases gk with
       | zero => exact absurd HA.out (by simp [shadow_Exact.l1])
       | succ k2 =>
        have H := HA.out; clear HA
        simp only [shadow_Exact.l1] at H
        by_cases c14 : x23_2 < (t341.length : Int)
        ·rw [if_pos c14] at H
         have c14b0 : decide (x23_2 < (t341.length : Int)) = true := decide_eq_true c14
         clear c14
         by_cases c15 : 0 ≤ x23_2
         ·rw [if_pos c15] at H
          have c15b0 : decide (0 ≤ x23_2) = true := decide_eq_true c15; clear c15
          by_cases c16 : x23_2 < (t341.length : Int)
          ·rw [if_pos c16] at H
           have c16b0 : decide (x23_2 < (t341.length : Int)) = true := decide_eq_true c16
           clear c16
           by_cases c17 : 0 ≤ (rd t337 x16_1)
           ·rw [if_pos c17] at H
            have c17b0 : decide (0 ≤ (rd t337 x16_1)) = true := decide_eq_true c17
            clear c17
            by_cases c18 : (rd t337 x16_1) < (l0.length : Int)
            ·rw [if_pos c18] at H
             have c18b0 : decide ((rd t337 x16_1) < (l0.length : Int)) = true := decide_eq_true c18
             clear c18; replace H := Option.bind_eq_some_iff.mp H
             obtain ⟨t346, A190, H⟩ := H
             replace H : (if t346 = (-1) then (shadow_Exact.l1 k2 l0 a1 (rd t337 x16_1) t337 (t337.length : Int) x16_1 t341 (t341.length : Int) (wrap64 (x23_2 + 1)) l0 a1) else (if 0 ≤ (rd t341 x23_2) then (if (rd t341 x23_2) < (l0.length : Int) then ((lin_By.f k2 ((rd_T70 l0 (rd t341 x23_2)).f0.f0) ((rd_T70 l0 (rd t341 x23_2)).f0.f1) a1).bind fun t348 => (if t348 = 1 then (shadow_Exact.l1 k2 l0 a1 (rd t337 x16_1) t337 (t337.length : Int) x16_1 t341 (t341.length : Int) (wrap64 (x23_2 + 1)) l0 a1) else (some false))) else (none)) else (none))) = some r := H
             have A19 := zK A190; clear A190
             by_cases c20 : t346 = (-1)
             ·rw [if_pos c20] at H
              have c20b0 : (t346 == (-1)) = true := beq_iff_eq.mpr c20
              have c20b1 : (t346 != (-1)) = false := bne_eq_false_iff_eq.mpr c20
              clear c20
              have H' := zK H; clear H
              have p344 : 0 ≤ (x23_2 : Int) := of_decide_eq_true (by first | (with_reducible assumption) | assumption)
              have q344 : x23_2 < (t341.length : Int) := of_decide_eq_true (by first | (with_reducible assumption) | assumption)
              obtain ⟨ad344, e344, hx344_0⟩ := Kd.at_int (Kd.R_reads' HO_21.out).2.2 x23_2 p344 q344
              cases e344
              replace p344 := eq_true p344
              replace q344 := eq_true q344
              have p345 : 0 ≤ ((rd t337 x16_1) : Int) := of_decide_eq_true (by first | (with_reducible assumption) | assumption)
              have q345 : (rd t337 x16_1) < (l0.length : Int) := of_decide_eq_true (by first | (with_reducible assumption) | assumption)
              obtain ⟨ad345, A345_1, c345_1, e345, hx345_0, hx345_1, hx345_2, hl345_1, hi345_1⟩ := at_T70 HR0.out (rd t337 x16_1) p345 q345
              cases e345
              replace hx345_0 := (HB.out.cell (World.block_lt_of_cell? w _ hx345_0)).trans hx345_0
              replace hx345_1 := (HB.out.cell (World.block_lt_of_cell? w _ hx345_1)).trans hx345_1
              replace hx345_2 := (HB.out.cell (World.block_lt_of_cell? w _ hx345_2)).trans hx345_2
              have HR345_1 := zK hi345_1
              have HC345_1 := zK hl345_1; clear hi345_1 hl345_1
              replace p345 := eq_true p345
              replace q345 := eq_true q345
              go_wp2_with (first | ((with_reducible refine zC (f := 46) rfl ?_); refine goesL_ (some 33) rfl rfl Try.func46 (by kernel_rfl) rfl #[.agg #[.int .i64 ((rd_T70 l0 (rd t337 x16_1)).f0.f0), .slice A345_1 ((rd_T70 l0 (rd t337 x16_1)).f0.f1).length c345_1], .int .i64 a1] rfl (by (try simp only [List.map_toArray, List.map_cons, List.map_nil]); first | done | rfl | (simp only [List.length_drop, List.length_take]; rfl)) ?_; (with_reducible refine (lin_By.calls k2 ((rd_T70 l0 (rd t337 x16_1)).f0.f0) _ _ ((rd_T70 l0 (rd t337 x16_1)).f0.f1) a1 t346 _ ?side1 ?side2 A19.out).mono ?_); (case side1 => repeat (first | exact (Kd.C_below HR345_1.out HB.out) | (with_reducible refine cA ?_ _) | (with_reducible refine cN ?_ _) | (with_reducible refine cD ?_))); (case side2 => exact HC345_1.out); rintro e w21 ⟨rfl, hb⟩; refine ⟨_, rfl, ?_⟩; replace HO_14 := zK (Kd.R_below (zr HO_14) hb); replace HO_21 := zK (Kd.R_below (zr HO_21) hb); replace BK335 := zK (blk_below (g := gb335) (o := .cells #[.slice (some ad345) l0.length c0] 22 (0, 0)) (zb BK335) hb); replace BK336 := zK (blk_below (g := gb336) (o := .cells #[.int .i64 a1] 3 (0, 0)) (zb BK336) hb); replace HB := zK (below_step (zo HB) hb); (try clear hb); (try clear hb2); (try clear hk); (try clear hi)))
              go_roundg k2
              case measure => have := HK1.out; have := HK2.out; omega
              case rel => exact ⟨(wrap64 (x23_2 + 1)), (by first | rfl | (simp; done) | (simp [*]; done)), H', ⟨by have := HK1.out; have := HK2.out; omega⟩, ⟨zr HO_14⟩, ⟨zr HO_21⟩, ⟨zb BK335⟩, ⟨zb BK336⟩, ⟨zo HB⟩⟩
             ·rw [if_neg c20] at H
              have c20b0 : (t346 == (-1)) = false := beq_eq_false_iff_ne.mpr c20
              have c20b1 : (t346 != (-1)) = true := bne_iff_ne.mpr c20
              by_cases c22 : 0 ≤ (rd t341 x23_2)
              ·rw [if_pos c22] at H
               have c22b0 : decide (0 ≤ (rd t341 x23_2)) = true := decide_eq_true c22
               clear c22
               by_cases c23 : (rd t341 x23_2) < (l0.length : Int)
               ·rw [if_pos c23] at H
                have c23b0 : decide ((rd t341 x23_2) < (l0.length : Int)) = true := decide_eq_true c23
                clear c23; replace H := Option.bind_eq_some_iff.mp H
                obtain ⟨t348, A240, H⟩ := H
                replace H : (if t348 = 1 then (shadow_Exact.l1 k2 l0 a1 (rd t337 x16_1) t337 (t337.length : Int) x16_1 t341 (t341.length : Int) (wrap64 (x23_2 + 1)) l0 a1) else (some false)) = some r := H
                have A24 := zK A240; clear A240
                by_cases c25 : t348 = 1
                ·rw [if_pos c25] at H
                 have c25b0 : (t348 == 1) = true := beq_iff_eq.mpr c25
                 have c25b1 : (t348 != 1) = false := bne_eq_false_iff_eq.mpr c25; clear c25
                 have H' := zK H; clear H
                 have p344 : 0 ≤ (x23_2 : Int) := of_decide_eq_true (by first | (with_reducible assumption) | assumption)
                 have q344 : x23_2 < (t341.length : Int) := of_decide_eq_true (by first | (with_reducible assumption) | assumption)
                 obtain ⟨ad344, e344, hx344_0⟩ := Kd.at_int (Kd.R_reads' HO_21.out).2.2 x23_2 p344 q344
                 cases e344
                 replace p344 := eq_true p344
                 replace q344 := eq_true q344
                 have p345 : 0 ≤ ((rd t337 x16_1) : Int) := of_decide_eq_true (by first | (with_reducible assumption) | assumption)
                 have q345 : (rd t337 x16_1) < (l0.length : Int) := of_decide_eq_true (by first | (with_reducible assumption) | assumption)
                 obtain ⟨ad345, A345_1, c345_1, e345, hx345_0, hx345_1, hx345_2, hl345_1, hi345_1⟩ := at_T70 HR0.out (rd t337 x16_1) p345 q345
                 cases e345
                 replace hx345_0 := (HB.out.cell (World.block_lt_of_cell? w _ hx345_0)).trans hx345_0
                 replace hx345_1 := (HB.out.cell (World.block_lt_of_cell? w _ hx345_1)).trans hx345_1
                 replace hx345_2 := (HB.out.cell (World.block_lt_of_cell? w _ hx345_2)).trans hx345_2
                 have HR345_1 := zK hi345_1
                 have HC345_1 := zK hl345_1; clear hi345_1 hl345_1
                 replace p345 := eq_true p345
                 replace q345 := eq_true q345
                 go_wp2_with (first | ((with_reducible refine zC (f := 46) rfl ?_); refine goesL_ (some 33) rfl rfl Try.func46 (by kernel_rfl) rfl #[.agg #[.int .i64 ((rd_T70 l0 (rd t337 x16_1)).f0.f0), .slice A345_1 ((rd_T70 l0 (rd t337 x16_1)).f0.f1).length c345_1], .int .i64 a1] rfl (by (try simp only [List.map_toArray, List.map_cons, List.map_nil]); first | done | rfl | (simp only [List.length_drop, List.length_take]; rfl)) ?_; (with_reducible refine (lin_By.calls k2 ((rd_T70 l0 (rd t337 x16_1)).f0.f0) _ _ ((rd_T70 l0 (rd t337 x16_1)).f0.f1) a1 t346 _ ?side1 ?side2 A19.out).mono ?_); (case side1 => repeat (first | exact (Kd.C_below HR345_1.out HB.out) | (with_reducible refine cA ?_ _) | (with_reducible refine cN ?_ _) | (with_reducible refine cD ?_))); (case side2 => exact HC345_1.out); rintro e w26 ⟨rfl, hb⟩; refine ⟨_, rfl, ?_⟩; replace HO_14 := zK (Kd.R_below (zr HO_14) hb); replace HO_21 := zK (Kd.R_below (zr HO_21) hb); replace BK335 := zK (blk_below (g := gb335) (o := .cells #[.slice (some ad345) l0.length c0] 22 (0, 0)) (zb BK335) hb); replace BK336 := zK (blk_below (g := gb336) (o := .cells #[.int .i64 a1] 3 (0, 0)) (zb BK336) hb); replace HB := zK (below_step (zo HB) hb); (try clear hb); (try clear hb2); (try clear hk); (try clear hi); have p347 : 0 ≤ ((rd t341 x23_2) : Int) := of_decide_eq_true (by first | (with_reducible assumption) | assumption); have q347 : (rd t341 x23_2) < (l0.length : Int) := of_decide_eq_true (by first | (with_reducible assumption) | assumption); obtain ⟨ad347, A347_1, c347_1, e347, hx347_0, hx347_1, hx347_2, hl347_1, hi347_1⟩ := at_T70 HR0.out (rd t341 x23_2) p347 q347; obtain rfl : ad345 = ad347 := (by injection e347); replace hx347_0 := (HB.out.cell (World.block_lt_of_cell? w _ hx347_0)).trans hx347_0; replace hx347_1 := (HB.out.cell (World.block_lt_of_cell? w _ hx347_1)).trans hx347_1; replace hx347_2 := (HB.out.cell (World.block_lt_of_cell? w _ hx347_2)).trans hx347_2; have HR347_1 := zK hi347_1; have HC347_1 := zK hl347_1; clear hi347_1 hl347_1; replace p347 := eq_true p347; replace q347 := eq_true q347) | (go_at_call 46; (with_reducible refine (lin_By.calls k2 ((rd_T70 l0 (rd t341 x23_2)).f0.f0) _ _ ((rd_T70 l0 (rd t341 x23_2)).f0.f1) a1 t348 _ ?side1 ?side2 A24.out).mono ?_); (case side1 => repeat (first | exact (Kd.C_below HR347_1.out HB.out) | (with_reducible refine cA ?_ _) | (with_reducible refine cN ?_ _) | (with_reducible refine cD ?_))); (case side2 => exact HC347_1.out); rintro e w27 ⟨rfl, hb⟩; replace HO_14 := zK (Kd.R_below (zr HO_14) hb); replace HO_21 := zK (Kd.R_below (zr HO_21) hb); replace BK335 := zK (blk_below (g := gb335) (o := .cells #[.slice (some ad345) l0.length c0] 22 (0, 0)) (zb BK335) hb); replace BK336 := zK (blk_below (g := gb336) (o := .cells #[.int .i64 a1] 3 (0, 0)) (zb BK336) hb); replace HB := zK (below_step (zo HB) hb); (try clear hb); (try clear hb2); (try clear hk); (try clear hi)))
                 go_roundg k2
                 case measure => have := HK1.out; have := HK2.out; omega
                 case rel => exact ⟨(wrap64 (x23_2 + 1)), (by first | rfl | (simp; done) | (simp [*]; done)), H', ⟨by have := HK1.out; have := HK2.out; omega⟩, ⟨zr HO_14⟩, ⟨zr HO_21⟩, ⟨zb BK335⟩, ⟨zb BK336⟩, ⟨zo HB⟩⟩
                ·rw [if_neg c25] at H
                 have c25b0 : (t348 == 1) = false := beq_eq_false_iff_ne.mpr c25
                 have c25b1 : (t348 != 1) = true := bne_iff_ne.mpr c25
                 obtain rfl := Option.some.inj H
                 have p344 : 0 ≤ (x23_2 : Int) := of_decide_eq_true (by first | (with_reducible assumption) | assumption)
                 have q344 : x23_2 < (t341.length : Int) := of_decide_eq_true (by first | (with_reducible assumption) | assumption)
                 obtain ⟨ad344, e344, hx344_0⟩ := Kd.at_int (Kd.R_reads' HO_21.out).2.2 x23_2 p344 q344
                 cases e344
                 replace p344 := eq_true p344
                 replace q344 := eq_true q344
                 have p345 : 0 ≤ ((rd t337 x16_1) : Int) := of_decide_eq_true (by first | (with_reducible assumption) | assumption)
                 have q345 : (rd t337 x16_1) < (l0.length : Int) := of_decide_eq_true (by first | (with_reducible assumption) | assumption)
                 obtain ⟨ad345, A345_1, c345_1, e345, hx345_0, hx345_1, hx345_2, hl345_1, hi345_1⟩ := at_T70 HR0.out (rd t337 x16_1) p345 q345
                 cases e345
                 replace hx345_0 := (HB.out.cell (World.block_lt_of_cell? w _ hx345_0)).trans hx345_0
                 replace hx345_1 := (HB.out.cell (World.block_lt_of_cell? w _ hx345_1)).trans hx345_1
                 replace hx345_2 := (HB.out.cell (World.block_lt_of_cell? w _ hx345_2)).trans hx345_2
                 have HR345_1 := zK hi345_1
                 have HC345_1 := zK hl345_1; clear hi345_1 hl345_1
                 replace p345 := eq_true p345
                 replace q345 := eq_true q345
                 go_wp2_with (first | ((with_reducible refine zC (f := 46) rfl ?_); refine goesL_ (some 33) rfl rfl Try.func46 (by kernel_rfl) rfl #[.agg #[.int .i64 ((rd_T70 l0 (rd t337 x16_1)).f0.f0), .slice A345_1 ((rd_T70 l0 (rd t337 x16_1)).f0.f1).length c345_1], .int .i64 a1] rfl (by (try simp only [List.map_toArray, List.map_cons, List.map_nil]); first | done | rfl | (simp only [List.length_drop, List.length_take]; rfl)) ?_; (with_reducible refine (lin_By.calls k2 ((rd_T70 l0 (rd t337 x16_1)).f0.f0) _ _ ((rd_T70 l0 (rd t337 x16_1)).f0.f1) a1 t346 _ ?side1 ?side2 A19.out).mono ?_); (case side1 => repeat (first | exact (Kd.C_below HR345_1.out HB.out) | (with_reducible refine cA ?_ _) | (with_reducible refine cN ?_ _) | (with_reducible refine cD ?_))); (case side2 => exact HC345_1.out); rintro e w28 ⟨rfl, hb⟩; refine ⟨_, rfl, ?_⟩; replace HO_14 := zK (Kd.R_below (zr HO_14) hb); replace HO_21 := zK (Kd.R_below (zr HO_21) hb); replace BK335 := zK (blk_below (g := gb335) (o := .cells #[.slice (some ad345) l0.length c0] 22 (0, 0)) (zb BK335) hb); replace BK336 := zK (blk_below (g := gb336) (o := .cells #[.int .i64 a1] 3 (0, 0)) (zb BK336) hb); replace HB := zK (below_step (zo HB) hb); (try clear hb); (try clear hb2); (try clear hk); (try clear hi); have p347 : 0 ≤ ((rd t341 x23_2) : Int) := of_decide_eq_true (by first | (with_reducible assumption) | assumption); have q347 : (rd t341 x23_2) < (l0.length : Int) := of_decide_eq_true (by first | (with_reducible assumption) | assumption); obtain ⟨ad347, A347_1, c347_1, e347, hx347_0, hx347_1, hx347_2, hl347_1, hi347_1⟩ := at_T70 HR0.out (rd t341 x23_2) p347 q347; obtain rfl : ad345 = ad347 := (by injection e347); replace hx347_0 := (HB.out.cell (World.block_lt_of_cell? w _ hx347_0)).trans hx347_0; replace hx347_1 := (HB.out.cell (World.block_lt_of_cell? w _ hx347_1)).trans hx347_1; replace hx347_2 := (HB.out.cell (World.block_lt_of_cell? w _ hx347_2)).trans hx347_2; have HR347_1 := zK hi347_1; have HC347_1 := zK hl347_1; clear hi347_1 hl347_1; replace p347 := eq_true p347; replace q347 := eq_true q347) | (go_at_call 46; (with_reducible refine (lin_By.calls k2 ((rd_T70 l0 (rd t341 x23_2)).f0.f0) _ _ ((rd_T70 l0 (rd t341 x23_2)).f0.f1) a1 t348 _ ?side1 ?side2 A24.out).mono ?_); (case side1 => repeat (first | exact (Kd.C_below HR347_1.out HB.out) | (with_reducible refine cA ?_ _) | (with_reducible refine cN ?_ _) | (with_reducible refine cD ?_))); (case side2 => exact HC347_1.out); rintro e w29 ⟨rfl, hb⟩; replace HO_14 := zK (Kd.R_below (zr HO_14) hb); replace HO_21 := zK (Kd.R_below (zr HO_21) hb); replace BK335 := zK (blk_below (g := gb335) (o := .cells #[.slice (some ad345) l0.length c0] 22 (0, 0)) (zb BK335) hb); replace BK336 := zK (blk_below (g := gb336) (o := .cells #[.int .i64 a1] 3 (0, 0)) (zb BK336) hb); replace HB := zK (below_step (zo HB) hb); (try clear hb); (try clear hb2); (try clear hk); (try clear hi)))
                 go_ret
                 exact ⟨by first | rfl | (simp [errW_none, errW_some] <;> rfl) | (simp [*, errW_none, errW_some] <;> rfl), zo HB⟩
               ·rw [if_neg c23] at H
                exact absurd H (by simp)
              ·rw [if_neg c22] at H
               exact absurd H (by simp)
            ·rw [if_neg c18] at H
             exact absurd H (by simp)
           ·rw [if_neg c17] at H
            exact absurd H (by simp)
          ·rw [if_neg c16] at H
           exact absurd H (by simp)
         ·rw [if_neg c15] at H
          exact absurd H (by simp)
        ·rw [if_neg c14] at H
         have c14b0 : decide (x23_2 < (t341.length : Int)) = false := decide_eq_false c14
         clear c14
         have H' := zK H; clear H
         go_wp2
         go_roundg k2
         case measure => have := HK1.out; have := HK2.out; omega
         case rel => exact ⟨(wrap64 (x16_1 + 1)), (by first | rfl | (simp; done) | (simp [*]; done)), H', ⟨by have := HK1.out; have := HK2.out; omega⟩, ⟨by (with_reducible repeat (first | apply Kd.R_alloc | apply Kd.R_drewN | apply Kd.R_drew)); exact Kd.R_mono HO_14.out (fun _ hk => hk.2)⟩, ⟨zb BK335⟩, ⟨zb BK336⟩, ⟨zo HB⟩⟩
     ·rw [if_neg c10] at H
      exact absurd H (by simp)
    ·rw [if_neg c9] at H
     exact absurd H (by simp)
   ·rw [if_neg c8] at H
    have c8b0 : decide (x16_1 < (t337.length : Int)) = false := decide_eq_false c8
    clear c8
    obtain rfl := Option.some.inj H
    go_wp2
    go_ret
    exact ⟨by first | rfl | (simp [errW_none, errW_some] <;> rfl) | (simp [*, errW_none, errW_some] <;> rfl), zo HB⟩

/-! ### sequiturref30_Exact: function 19 -/
mutual
def sequiturref30_Exact.l0 : Nat → List (S70) → Int → Int → Option (Bool)
 | 0, _, _, _ => none
 | k + 1, x0, x1, x5 => if x5 < (x0.length : Int) then (sequiturref30_Exact.l1 k x0 x1 x5 0) else (some true)
def sequiturref30_Exact.l1 : Nat → List (S70) → Int → Int → Int → Option (Bool)
 | 0, _, _, _, _ => none
 | k + 1, x0, x1, x5, x6 => if x6 < (x0.length : Int) then (if 0 ≤ x5 then (if x5 < (x0.length : Int) then ((sequiturref27_By.f k ((rd_T70 x0 x5).f0.f0) ((rd_T70 x0 x5).f0.f1) x1).bind fun t350 => (if t350 < (-1) then (if 0 ≤ x6 then ((sequiturref27_By.f k ((rd_T70 x0 x6).f0.f0) ((rd_T70 x0 x6).f0.f1) x1).bind fun t352 => (if t352 > 1 then (some false) else (sequiturref30_Exact.l1 k x0 x1 x5 (wrap64 (x6 + 1))))) else (none)) else (sequiturref30_Exact.l1 k x0 x1 x5 (wrap64 (x6 + 1))))) else (none)) else (none)) else (sequiturref30_Exact.l0 k x0 x1 (wrap64 (x5 + 1)))
end
def sequiturref30_Exact.f (k : Nat) (l0 : List (S70)) (a1 : Int) : Option (Bool) := sequiturref30_Exact.l0 k l0 a1 0
theorem sequiturref30_Exact.mono_l : ∀ k, (∀ y0 y1 y2, LeO (sequiturref30_Exact.l0 k y0 y1 y2) (sequiturref30_Exact.l0 (k + 1) y0 y1 y2)) ∧ (∀ y0 y1 y2 y3, LeO (sequiturref30_Exact.l1 k y0 y1 y2 y3) (sequiturref30_Exact.l1 (k + 1) y0 y1 y2 y3))
 | 0 => ⟨fun _ _ _ r h => by simp [sequiturref30_Exact.l0] at h, fun _ _ _ _ r h => by simp [sequiturref30_Exact.l1] at h⟩
 | k + 1 => by
  obtain ⟨ih0, ih1⟩ := sequiturref30_Exact.mono_l k
  refine ⟨?_, ?_⟩
  ·intro y0 y1 y2
   unfold sequiturref30_Exact.l0
   repeat' first
   | (with_reducible exact ih0 _ _ _)
   | (with_reducible exact ih1 _ _ _ _)
   | (with_reducible exact sequiturref27_By.mono _ _ _ _)
   | (with_reducible exact LeO.refl _)
   | (with_reducible exact LeO.none _)
   | (with_reducible refine LeO.ite ?_ ?_)
   | (with_reducible refine LeO.bind ?_ (fun _ => ?_))
   | exact ih0 _ _ _
   | exact ih1 _ _ _ _
   | exact sequiturref27_By.mono _ _ _ _
   | exact LeO.none _
   | refine LeO.ite ?_ ?_
   | refine LeO.bind ?_ (fun _ => ?_)
  ·intro y0 y1 y2 y3
   unfold sequiturref30_Exact.l1
   repeat' first
   | (with_reducible exact ih0 _ _ _)
   | (with_reducible exact ih1 _ _ _ _)
   | (with_reducible exact sequiturref27_By.mono _ _ _ _)
   | (with_reducible exact LeO.refl _)
   | (with_reducible exact LeO.none _)
   | (with_reducible refine LeO.ite ?_ ?_)
   | (with_reducible refine LeO.bind ?_ (fun _ => ?_))
   | exact ih0 _ _ _
   | exact ih1 _ _ _ _
   | exact sequiturref27_By.mono _ _ _ _
   | exact LeO.none _
   | refine LeO.ite ?_ ?_
   | refine LeO.bind ?_ (fun _ => ?_)
theorem sequiturref30_Exact.mono : ∀ a0 a1 k, LeO (sequiturref30_Exact.f k a0 a1) (sequiturref30_Exact.f (k + 1) a0 a1) := by
 intro a0 a1 k
 obtain ⟨ih0, ih1⟩ := sequiturref30_Exact.mono_l k
 unfold sequiturref30_Exact.f
 repeat' first
   | (with_reducible exact ih0 _ _ _)
   | (with_reducible exact ih1 _ _ _ _)
   | (with_reducible exact sequiturref27_By.mono _ _ _ _)
   | (with_reducible exact LeO.refl _)
   | (with_reducible exact LeO.none _)
   | (with_reducible refine LeO.ite ?_ ?_)
   | (with_reducible refine LeO.bind ?_ (fun _ => ?_))
   | exact ih0 _ _ _
   | exact ih1 _ _ _ _
   | exact sequiturref27_By.mono _ _ _ _
   | exact LeO.none _
   | refine LeO.ite ?_ ?_
   | refine LeO.bind ?_ (fun _ => ?_)
set_option maxHeartbeats 8000000 in
set_option maxRecDepth 100000 in
theorem sequiturref30_Exact.calls (k : Nat) (A0 : Option Addr) (c0 : Nat) (l0 : List (S70)) (a1 : Int) (r : Bool) (w : World) (hr0 : Kd.C k70 w A0 l0.length l0) (hc0 : l0.length ≤ c0) (h : sequiturref30_Exact.f k l0 a1 = some r) :
  Calls Try.prog 19 #[.slice A0 l0.length c0, .int .i64 a1] w fun e w' => e = .returned (.bool r) ∧ Below w.heap.size w w' := by
 have hu62 := Try.underlying62
 have HR0 := zK hr0
 have HC0 := zK hc0; clear hr0 hc0
 have HB := zK (Below.refl w.heap.size w)
 have H : (sequiturref30_Exact.l0 k l0 a1 0) = some r := h; clear h
 have H' := zK H; clear H
 go_enter Try.func19, Try.ntmps19
 go_wp2
 go_loopg [5] k (fun kq v5 w' => ∃ (x5_1 : Int), v5 = .int .i64 x5_1 ∧ Aside0 (sequiturref30_Exact.l0 kq l0 a1 x5_1 = some r) ∧ Aside0 (kq ≤ k) ∧ Aside0 (Below w.heap.size w w'))
 case atStart => exact ⟨(0), (by first | rfl | (simp; done) | (simp [*]; done)), H', ⟨Nat.le_refl _⟩, ⟨zo HB⟩⟩
 case round =>
  clear H'; try clear c1; try clear p2
  obtain ⟨x5_1, rfl, HA, HK1, HB⟩ := hrel
  cases gk with
  | zero => exact absurd HA.out (by simp [sequiturref30_Exact.l0])
  | succ k1 =>
   have H := HA.out; clear HA
   simp only [sequiturref30_Exact.l0] at H
   by_cases c3 : x5_1 < (l0.length : Int)
   ·rw [if_pos c3] at H
    have c3b0 : decide (x5_1 < (l0.length : Int)) = true := decide_eq_true c3
    clear c3
    have H' := zK H; clear H
    go_wp2
    go_loopg [6] k1 (fun kq v6 w' => ∃ (x6_2 : Int), v6 = .int .i64 x6_2 ∧ Aside0 (sequiturref30_Exact.l1 kq l0 a1 x5_1 x6_2 = some r) ∧ Aside0 (kq ≤ k1) ∧ Aside0 (Below w.heap.size w w'))
    case atStart => exact ⟨(0), (by first | rfl | (simp; done) | (simp [*]; done)), H', ⟨Nat.le_refl _⟩, ⟨zo HB⟩⟩
    case round =>
     clear H'; try clear c1; try clear p2; try clear c3; try clear c3b0; try clear p2
     obtain ⟨x6_2, rfl, HA, HK2, HB⟩ := hrel
     cases gk with
     | zero => exact absurd HA.out (by simp [sequiturref30_Exact.l1])
     | succ k2 =>
      have H := HA.out; clear HA
      simp only [sequiturref30_Exact.l1] at H
      by_cases c4 : x6_2 < (l0.length : Int)
      ·rw [if_pos c4] at H
       have c4b0 : decide (x6_2 < (l0.length : Int)) = true := decide_eq_true c4
       clear c4
       by_cases c5 : 0 ≤ x5_1
       ·rw [if_pos c5] at H
        have c5b0 : decide (0 ≤ x5_1) = true := decide_eq_true c5; clear c5
        by_cases c6 : x5_1 < (l0.length : Int)
        ·rw [if_pos c6] at H
         have c6b0 : decide (x5_1 < (l0.length : Int)) = true := decide_eq_true c6
         clear c6; replace H := Option.bind_eq_some_iff.mp H
         obtain ⟨t350, A70, H⟩ := H
         replace H : (if t350 < (-1) then (if 0 ≤ x6_2 then ((sequiturref27_By.f k2 ((rd_T70 l0 x6_2).f0.f0) ((rd_T70 l0 x6_2).f0.f1) a1).bind fun t352 => (if t352 > 1 then (some false) else (sequiturref30_Exact.l1 k2 l0 a1 x5_1 (wrap64 (x6_2 + 1))))) else (none)) else (sequiturref30_Exact.l1 k2 l0 a1 x5_1 (wrap64 (x6_2 + 1)))) = some r := H
         have A7 := zK A70; clear A70
         by_cases c8 : t350 < (-1)
         ·rw [if_pos c8] at H
          have c8b0 : decide (t350 < (-1)) = true := decide_eq_true c8; clear c8
          by_cases c9 : 0 ≤ x6_2
          ·rw [if_pos c9] at H
           have c9b0 : decide (0 ≤ x6_2) = true := decide_eq_true c9; clear c9
           replace H := Option.bind_eq_some_iff.mp H
           obtain ⟨t352, A100, H⟩ := H
           replace H : (if t352 > 1 then (some false) else (sequiturref30_Exact.l1 k2 l0 a1 x5_1 (wrap64 (x6_2 + 1)))) = some r := H
           have A10 := zK A100; clear A100
           by_cases c11 : t352 > 1
           ·rw [if_pos c11] at H
            have c11b0 : decide (1 < t352) = true := decide_eq_true c11; clear c11
            obtain rfl := Option.some.inj H
            have p349 : 0 ≤ (x5_1 : Int) := of_decide_eq_true (by first | (with_reducible assumption) | assumption)
            have q349 : x5_1 < (l0.length : Int) := of_decide_eq_true (by first | (with_reducible assumption) | assumption)
            obtain ⟨ad349, A349_1, c349_1, e349, hx349_0, hx349_1, hx349_2, hl349_1, hi349_1⟩ := at_T70 HR0.out x5_1 p349 q349
            cases e349
            replace hx349_0 := (HB.out.cell (World.block_lt_of_cell? w _ hx349_0)).trans hx349_0
            replace hx349_1 := (HB.out.cell (World.block_lt_of_cell? w _ hx349_1)).trans hx349_1
            replace hx349_2 := (HB.out.cell (World.block_lt_of_cell? w _ hx349_2)).trans hx349_2
            have HR349_1 := zK hi349_1
            have HC349_1 := zK hl349_1; clear hi349_1 hl349_1
            replace p349 := eq_true p349
            replace q349 := eq_true q349
            go_wp2_with (first | ((with_reducible refine zC (f := 42) rfl ?_); refine goesL_ (some 25) rfl rfl Try.func42 (by kernel_rfl) rfl #[.agg #[.int .i64 ((rd_T70 l0 x5_1).f0.f0), .slice A349_1 ((rd_T70 l0 x5_1).f0.f1).length c349_1], .int .i64 a1] rfl (by (try simp only [List.map_toArray, List.map_cons, List.map_nil]); first | done | rfl | (simp only [List.length_drop, List.length_take]; rfl)) ?_; (with_reducible refine (sequiturref27_By.calls k2 ((rd_T70 l0 x5_1).f0.f0) _ _ ((rd_T70 l0 x5_1).f0.f1) a1 t350 _ ?side1 ?side2 A7.out).mono ?_); (case side1 => repeat (first | exact (Kd.C_below HR349_1.out HB.out) | (with_reducible refine cA ?_ _) | (with_reducible refine cN ?_ _) | (with_reducible refine cD ?_))); (case side2 => exact HC349_1.out); rintro e w12 ⟨rfl, hb⟩; refine ⟨_, rfl, ?_⟩; replace HB := zK (below_step (zo HB) hb); (try clear hb); (try clear hb2); (try clear hk); (try clear hi); have p351 : 0 ≤ (x6_2 : Int) := of_decide_eq_true (by first | (with_reducible assumption) | assumption); have q351 : x6_2 < (l0.length : Int) := of_decide_eq_true (by first | (with_reducible assumption) | assumption); obtain ⟨ad351, A351_1, c351_1, e351, hx351_0, hx351_1, hx351_2, hl351_1, hi351_1⟩ := at_T70 HR0.out x6_2 p351 q351; obtain rfl : ad349 = ad351 := (by injection e351); replace hx351_0 := (HB.out.cell (World.block_lt_of_cell? w _ hx351_0)).trans hx351_0; replace hx351_1 := (HB.out.cell (World.block_lt_of_cell? w _ hx351_1)).trans hx351_1; replace hx351_2 := (HB.out.cell (World.block_lt_of_cell? w _ hx351_2)).trans hx351_2; have HR351_1 := zK hi351_1; have HC351_1 := zK hl351_1; clear hi351_1 hl351_1; replace p351 := eq_true p351; replace q351 := eq_true q351) | (go_at_call 42; (with_reducible refine (sequiturref27_By.calls k2 ((rd_T70 l0 x6_2).f0.f0) _ _ ((rd_T70 l0 x6_2).f0.f1) a1 t352 _ ?side1 ?side2 A10.out).mono ?_); (case side1 => repeat (first | exact (Kd.C_below HR351_1.out HB.out) | (with_reducible refine cA ?_ _) | (with_reducible refine cN ?_ _) | (with_reducible refine cD ?_))); (case side2 => exact HC351_1.out); rintro e w13 ⟨rfl, hb⟩; replace HB := zK (below_step (zo HB) hb); (try clear hb); (try clear hb2); (try clear hk); (try clear hi)))
            go_ret
            exact ⟨by first | rfl | (simp [errW_none, errW_some] <;> rfl) | (simp [*, errW_none, errW_some] <;> rfl), zo HB⟩
           ·rw [if_neg c11] at H
            have c11b0 : decide (1 < t352) = false := decide_eq_false c11; clear c11
            have H' := zK H; clear H
            have p349 : 0 ≤ (x5_1 : Int) := of_decide_eq_true (by first | (with_reducible assumption) | assumption)
            have q349 : x5_1 < (l0.length : Int) := of_decide_eq_true (by first | (with_reducible assumption) | assumption)
            obtain ⟨ad349, A349_1, c349_1, e349, hx349_0, hx349_1, hx349_2, hl349_1, hi349_1⟩ := at_T70 HR0.out x5_1 p349 q349
            cases e349
            replace hx349_0 := (HB.out.cell (World.block_lt_of_cell? w _ hx349_0)).trans hx349_0
            replace hx349_1 := (HB.out.cell (World.block_lt_of_cell? w _ hx349_1)).trans hx349_1
            replace hx349_2 := (HB.out.cell (World.block_lt_of_cell? w _ hx349_2)).trans hx349_2
            have HR349_1 := zK hi349_1
            have HC349_1 := zK hl349_1; clear hi349_1 hl349_1
            replace p349 := eq_true p349
            replace q349 := eq_true q349
            go_wp2_with (first | ((with_reducible refine zC (f := 42) rfl ?_); refine goesL_ (some 25) rfl rfl Try.func42 (by kernel_rfl) rfl #[.agg #[.int .i64 ((rd_T70 l0 x5_1).f0.f0), .slice A349_1 ((rd_T70 l0 x5_1).f0.f1).length c349_1], .int .i64 a1] rfl (by (try simp only [List.map_toArray, List.map_cons, List.map_nil]); first | done | rfl | (simp only [List.length_drop, List.length_take]; rfl)) ?_; (with_reducible refine (sequiturref27_By.calls k2 ((rd_T70 l0 x5_1).f0.f0) _ _ ((rd_T70 l0 x5_1).f0.f1) a1 t350 _ ?side1 ?side2 A7.out).mono ?_); (case side1 => repeat (first | exact (Kd.C_below HR349_1.out HB.out) | (with_reducible refine cA ?_ _) | (with_reducible refine cN ?_ _) | (with_reducible refine cD ?_))); (case side2 => exact HC349_1.out); rintro e w14 ⟨rfl, hb⟩; refine ⟨_, rfl, ?_⟩; replace HB := zK (below_step (zo HB) hb); (try clear hb); (try clear hb2); (try clear hk); (try clear hi); have p351 : 0 ≤ (x6_2 : Int) := of_decide_eq_true (by first | (with_reducible assumption) | assumption); have q351 : x6_2 < (l0.length : Int) := of_decide_eq_true (by first | (with_reducible assumption) | assumption); obtain ⟨ad351, A351_1, c351_1, e351, hx351_0, hx351_1, hx351_2, hl351_1, hi351_1⟩ := at_T70 HR0.out x6_2 p351 q351; obtain rfl : ad349 = ad351 := (by injection e351); replace hx351_0 := (HB.out.cell (World.block_lt_of_cell? w _ hx351_0)).trans hx351_0; replace hx351_1 := (HB.out.cell (World.block_lt_of_cell? w _ hx351_1)).trans hx351_1; replace hx351_2 := (HB.out.cell (World.block_lt_of_cell? w _ hx351_2)).trans hx351_2; have HR351_1 := zK hi351_1; have HC351_1 := zK hl351_1; clear hi351_1 hl351_1; replace p351 := eq_true p351; replace q351 := eq_true q351) | (go_at_call 42; (with_reducible refine (sequiturref27_By.calls k2 ((rd_T70 l0 x6_2).f0.f0) _ _ ((rd_T70 l0 x6_2).f0.f1) a1 t352 _ ?side1 ?side2 A10.out).mono ?_); (case side1 => repeat (first | exact (Kd.C_below HR351_1.out HB.out) | (with_reducible refine cA ?_ _) | (with_reducible refine cN ?_ _) | (with_reducible refine cD ?_))); (case side2 => exact HC351_1.out); rintro e w15 ⟨rfl, hb⟩; replace HB := zK (below_step (zo HB) hb); (try clear hb); (try clear hb2); (try clear hk); (try clear hi)))
            go_roundg k2
            case measure => have := HK1.out; have := HK2.out; omega
            case rel => exact ⟨(wrap64 (x6_2 + 1)), (by first | rfl | (simp; done) | (simp [*]; done)), H', ⟨by have := HK1.out; have := HK2.out; omega⟩, ⟨zo HB⟩⟩
          ·rw [if_neg c9] at H
           exact absurd H (by simp)
         ·rw [if_neg c8] at H
          have c8b0 : decide (t350 < (-1)) = false := decide_eq_false c8; clear c8
          have H' := zK H; clear H
          have p349 : 0 ≤ (x5_1 : Int) := of_decide_eq_true (by first | (with_reducible assumption) | assumption)
          have q349 : x5_1 < (l0.length : Int) := of_decide_eq_true (by first | (with_reducible assumption) | assumption)
          obtain ⟨ad349, A349_1, c349_1, e349, hx349_0, hx349_1, hx349_2, hl349_1, hi349_1⟩ := at_T70 HR0.out x5_1 p349 q349
          cases e349
          replace hx349_0 := (HB.out.cell (World.block_lt_of_cell? w _ hx349_0)).trans hx349_0
          replace hx349_1 := (HB.out.cell (World.block_lt_of_cell? w _ hx349_1)).trans hx349_1
          replace hx349_2 := (HB.out.cell (World.block_lt_of_cell? w _ hx349_2)).trans hx349_2
          have HR349_1 := zK hi349_1
          have HC349_1 := zK hl349_1; clear hi349_1 hl349_1
          replace p349 := eq_true p349
          replace q349 := eq_true q349
          go_wp2_with (first | ((with_reducible refine zC (f := 42) rfl ?_); refine goesL_ (some 25) rfl rfl Try.func42 (by kernel_rfl) rfl #[.agg #[.int .i64 ((rd_T70 l0 x5_1).f0.f0), .slice A349_1 ((rd_T70 l0 x5_1).f0.f1).length c349_1], .int .i64 a1] rfl (by (try simp only [List.map_toArray, List.map_cons, List.map_nil]); first | done | rfl | (simp only [List.length_drop, List.length_take]; rfl)) ?_; (with_reducible refine (sequiturref27_By.calls k2 ((rd_T70 l0 x5_1).f0.f0) _ _ ((rd_T70 l0 x5_1).f0.f1) a1 t350 _ ?side1 ?side2 A7.out).mono ?_); (case side1 => repeat (first | exact (Kd.C_below HR349_1.out HB.out) | (with_reducible refine cA ?_ _) | (with_reducible refine cN ?_ _) | (with_reducible refine cD ?_))); (case side2 => exact HC349_1.out); rintro e w16 ⟨rfl, hb⟩; refine ⟨_, rfl, ?_⟩; replace HB := zK (below_step (zo HB) hb); (try clear hb); (try clear hb2); (try clear hk); (try clear hi)))
          go_roundg k2
          case measure => have := HK1.out; have := HK2.out; omega
          case rel => exact ⟨(wrap64 (x6_2 + 1)), (by first | rfl | (simp; done) | (simp [*]; done)), H', ⟨by have := HK1.out; have := HK2.out; omega⟩, ⟨zo HB⟩⟩
        ·rw [if_neg c6] at H
         exact absurd H (by simp)
       ·rw [if_neg c5] at H
        exact absurd H (by simp)
      ·rw [if_neg c4] at H
       have c4b0 : decide (x6_2 < (l0.length : Int)) = false := decide_eq_false c4
       clear c4
       have H' := zK H; clear H
       go_wp2
       go_roundg k2
       case measure => have := HK1.out; have := HK2.out; omega
       case rel => exact ⟨(wrap64 (x5_1 + 1)), (by first | rfl | (simp; done) | (simp [*]; done)), H', ⟨by have := HK1.out; have := HK2.out; omega⟩, ⟨zo HB⟩⟩
   ·rw [if_neg c3] at H
    have c3b0 : decide (x5_1 < (l0.length : Int)) = false := decide_eq_false c3
    clear c3
    obtain rfl := Option.some.inj H
    go_wp2
    go_ret
    exact ⟨by first | rfl | (simp [errW_none, errW_some] <;> rfl) | (simp [*, errW_none, errW_some] <;> rfl), zo HB⟩

/-! ### sequiturlaw30_ShadowCasts: function 3 -/
def sequiturlaw30_ShadowCasts.f (k : Nat) (l0 : List (S70)) (a1 : Int) : Option (Bool) := (sequiturlaw30_alive.f k).bind fun t353 => (if t353 = true then ((sequiturref30_Long.f k l0 70).bind fun t354 => (if t354 = true then (some true) else ((shadow_Real.f k l0 a1).bind fun bt355 => ((sequiturref30_Shadow.f k l0 a1 false).bind fun bt359 => ((shadow_Dark.f k l0 a1).bind fun bt363 => ((sequiturref30_Shadow.f k l0 a1 true).bind fun bt367 => ((sequiturlaw30_made.f k bt355.1 bt359.1).bind fun t371 => (if t371 = true then (if bt355.2 = bt359.2 then ((sequiturlaw30_made.f k bt363.1 bt367.1).bind fun t372 => (if t372 = true then (if bt363.2 = bt367.2 then ((shadow_Exact.f k l0 a1).bind fun t373 => ((sequiturref30_Exact.f k l0 a1).bind fun t374 => (some (t373 == t374)))) else (none)) else (none))) else (none)) else (none))))))))) else (none))
theorem sequiturlaw30_ShadowCasts.mono : ∀ a0 a1 k, LeO (sequiturlaw30_ShadowCasts.f k a0 a1) (sequiturlaw30_ShadowCasts.f (k + 1) a0 a1) := by
 intro a0 a1 k
 unfold sequiturlaw30_ShadowCasts.f
 repeat' first
   | (with_reducible exact sequiturlaw30_alive.mono _)
   | (with_reducible exact sequiturlaw30_made.mono _ _ _)
   | (with_reducible exact sequiturref30_Exact.mono _ _ _)
   | (with_reducible exact sequiturref30_Long.mono _ _ _)
   | (with_reducible exact sequiturref30_Shadow.mono _ _ _ _)
   | (with_reducible exact shadow_Dark.mono _ _ _)
   | (with_reducible exact shadow_Exact.mono _ _ _)
   | (with_reducible exact shadow_Real.mono _ _ _)
   | (with_reducible exact LeO.refl _)
   | (with_reducible exact LeO.none _)
   | (with_reducible refine LeO.ite ?_ ?_)
   | (with_reducible refine LeO.bind ?_ (fun _ => ?_))
   | exact sequiturlaw30_alive.mono _
   | exact sequiturlaw30_made.mono _ _ _
   | exact sequiturref30_Exact.mono _ _ _
   | exact sequiturref30_Long.mono _ _ _
   | exact sequiturref30_Shadow.mono _ _ _ _
   | exact shadow_Dark.mono _ _ _
   | exact shadow_Exact.mono _ _ _
   | exact shadow_Real.mono _ _ _
   | exact LeO.none _
   | refine LeO.ite ?_ ?_
   | refine LeO.bind ?_ (fun _ => ?_)
set_option maxHeartbeats 8000000 in
set_option maxRecDepth 100000 in
theorem sequiturlaw30_ShadowCasts.calls (k : Nat) (A0 : Option Addr) (c0 : Nat) (l0 : List (S70)) (a1 : Int) (r : Bool) (w : World) (hr0 : Kd.C k70 w A0 l0.length l0) (hc0 : l0.length ≤ c0) (h : sequiturlaw30_ShadowCasts.f k l0 a1 = some r) :
  Calls Try.prog 3 #[.slice A0 l0.length c0, .int .i64 a1] w fun e w' => e = .returned (.bool r) ∧ Below w.heap.size w w' := by
 have HR0 := zK hr0
 have HC0 := zK hc0; clear hr0 hc0
 have HB := zK (Below.refl w.heap.size w)
 have H : ((sequiturlaw30_alive.f k).bind fun t353 => (if t353 = true then ((sequiturref30_Long.f k l0 70).bind fun t354 => (if t354 = true then (some true) else ((shadow_Real.f k l0 a1).bind fun bt355 => ((sequiturref30_Shadow.f k l0 a1 false).bind fun bt359 => ((shadow_Dark.f k l0 a1).bind fun bt363 => ((sequiturref30_Shadow.f k l0 a1 true).bind fun bt367 => ((sequiturlaw30_made.f k bt355.1 bt359.1).bind fun t371 => (if t371 = true then (if bt355.2 = bt359.2 then ((sequiturlaw30_made.f k bt363.1 bt367.1).bind fun t372 => (if t372 = true then (if bt363.2 = bt367.2 then ((shadow_Exact.f k l0 a1).bind fun t373 => ((sequiturref30_Exact.f k l0 a1).bind fun t374 => (some (t373 == t374)))) else (none)) else (none))) else (none)) else (none))))))))) else (none))) = some r := h
 clear h; replace H := Option.bind_eq_some_iff.mp H
 obtain ⟨t353, A30, H⟩ := H
 replace H : (if t353 = true then ((sequiturref30_Long.f k l0 70).bind fun t354 => (if t354 = true then (some true) else ((shadow_Real.f k l0 a1).bind fun bt355 => ((sequiturref30_Shadow.f k l0 a1 false).bind fun bt359 => ((shadow_Dark.f k l0 a1).bind fun bt363 => ((sequiturref30_Shadow.f k l0 a1 true).bind fun bt367 => ((sequiturlaw30_made.f k bt355.1 bt359.1).bind fun t371 => (if t371 = true then (if bt355.2 = bt359.2 then ((sequiturlaw30_made.f k bt363.1 bt367.1).bind fun t372 => (if t372 = true then (if bt363.2 = bt367.2 then ((shadow_Exact.f k l0 a1).bind fun t373 => ((sequiturref30_Exact.f k l0 a1).bind fun t374 => (some (t373 == t374)))) else (none)) else (none))) else (none)) else (none))))))))) else (none)) = some r := H
 have A3 := zK A30; clear A30
 by_cases c4 : t353 = true
 ·subst c4
  have H1 : ((sequiturref30_Long.f k l0 70).bind fun t354 => (if t354 = true then (some true) else ((shadow_Real.f k l0 a1).bind fun bt355 => ((sequiturref30_Shadow.f k l0 a1 false).bind fun bt359 => ((shadow_Dark.f k l0 a1).bind fun bt363 => ((sequiturref30_Shadow.f k l0 a1 true).bind fun bt367 => ((sequiturlaw30_made.f k bt355.1 bt359.1).bind fun t371 => (if t371 = true then (if bt355.2 = bt359.2 then ((sequiturlaw30_made.f k bt363.1 bt367.1).bind fun t372 => (if t372 = true then (if bt363.2 = bt367.2 then ((shadow_Exact.f k l0 a1).bind fun t373 => ((sequiturref30_Exact.f k l0 a1).bind fun t374 => (some (t373 == t374)))) else (none)) else (none))) else (none)) else (none))))))))) = some r := by rw [if_pos rfl] at H; exact H
  clear H; have H := H1
  clear H1; replace H := Option.bind_eq_some_iff.mp H
  obtain ⟨t354, A50, H⟩ := H
  replace H : (if t354 = true then (some true) else ((shadow_Real.f k l0 a1).bind fun bt355 => ((sequiturref30_Shadow.f k l0 a1 false).bind fun bt359 => ((shadow_Dark.f k l0 a1).bind fun bt363 => ((sequiturref30_Shadow.f k l0 a1 true).bind fun bt367 => ((sequiturlaw30_made.f k bt355.1 bt359.1).bind fun t371 => (if t371 = true then (if bt355.2 = bt359.2 then ((sequiturlaw30_made.f k bt363.1 bt367.1).bind fun t372 => (if t372 = true then (if bt363.2 = bt367.2 then ((shadow_Exact.f k l0 a1).bind fun t373 => ((sequiturref30_Exact.f k l0 a1).bind fun t374 => (some (t373 == t374)))) else (none)) else (none))) else (none)) else (none)))))))) = some r := H
  have A5 := zK A50; clear A50
  by_cases c6 : t354 = true
  ·subst c6
   have H1 : (some true) = some r := by rw [if_pos rfl] at H; exact H
   clear H; have H := H1; clear H1
   obtain rfl := Option.some.inj H
   go_enter Try.func3, Try.ntmps3
   go_wp2_with (first | ((with_reducible refine zC (f := 12) rfl ?_); refine goesL_ (some 13) rfl rfl Try.func12 (by kernel_rfl) rfl #[] rfl (by (try simp only [List.map_toArray, List.map_cons, List.map_nil]); first | done | rfl | (simp only [List.length_drop, List.length_take]; rfl)) ?_; (with_reducible refine (sequiturlaw30_alive.calls k  true _ A3.out).mono ?_); rintro e w7 ⟨rfl, hb⟩; refine ⟨_, rfl, ?_⟩; replace HB := zK (below_step (zo HB) hb); (try clear hb); (try clear hb2); (try clear hk); (try clear hi)) | ((with_reducible refine zC (f := 13) rfl ?_); refine goesL_ (some 16) rfl rfl Try.func13 (by kernel_rfl) rfl #[.slice A0 l0.length c0, .int .i64 70] rfl (by (try simp only [List.map_toArray, List.map_cons, List.map_nil]); first | done | rfl | (simp only [List.length_drop, List.length_take]; rfl)) ?_; (with_reducible refine (sequiturref30_Long.calls k _ _ l0 70 true _ ?side1 ?side2 A5.out).mono ?_); (case side1 => repeat (first | exact (Kd.C_below HR0.out HB.out) | (with_reducible refine cA ?_ _) | (with_reducible refine cN ?_ _) | (with_reducible refine cD ?_))); (case side2 => exact HC0.out); rintro e w' ⟨rfl, ⟨nd, rfl⟩⟩; refine ⟨_, rfl, ?_⟩))
   go_ret
   exact ⟨by first | rfl | (simp [errW_none, errW_some] <;> rfl) | (simp [*, errW_none, errW_some] <;> rfl), zo HB⟩
  ·replace c6 := Bool.eq_false_iff.mpr c6
   subst c6
   have H1 : ((shadow_Real.f k l0 a1).bind fun bt355 => ((sequiturref30_Shadow.f k l0 a1 false).bind fun bt359 => ((shadow_Dark.f k l0 a1).bind fun bt363 => ((sequiturref30_Shadow.f k l0 a1 true).bind fun bt367 => ((sequiturlaw30_made.f k bt355.1 bt359.1).bind fun t371 => (if t371 = true then (if bt355.2 = bt359.2 then ((sequiturlaw30_made.f k bt363.1 bt367.1).bind fun t372 => (if t372 = true then (if bt363.2 = bt367.2 then ((shadow_Exact.f k l0 a1).bind fun t373 => ((sequiturref30_Exact.f k l0 a1).bind fun t374 => (some (t373 == t374)))) else (none)) else (none))) else (none)) else (none))))))) = some r := by rw [if_neg (show ¬ (false = true) by decide)] at H; exact H
   clear H; have H := H1
   clear H1; replace H := Option.bind_eq_some_iff.mp H
   obtain ⟨⟨t355, t358⟩, A80, H⟩ := H
   replace H : ((sequiturref30_Shadow.f k l0 a1 false).bind fun bt359 => ((shadow_Dark.f k l0 a1).bind fun bt363 => ((sequiturref30_Shadow.f k l0 a1 true).bind fun bt367 => ((sequiturlaw30_made.f k t355 bt359.1).bind fun t371 => (if t371 = true then (if t358 = bt359.2 then ((sequiturlaw30_made.f k bt363.1 bt367.1).bind fun t372 => (if t372 = true then (if bt363.2 = bt367.2 then ((shadow_Exact.f k l0 a1).bind fun t373 => ((sequiturref30_Exact.f k l0 a1).bind fun t374 => (some (t373 == t374)))) else (none)) else (none))) else (none)) else (none)))))) = some r := H
   have A8 := zK A80; clear A80; replace H := Option.bind_eq_some_iff.mp H
   obtain ⟨⟨t359, t362⟩, A90, H⟩ := H
   replace H : ((shadow_Dark.f k l0 a1).bind fun bt363 => ((sequiturref30_Shadow.f k l0 a1 true).bind fun bt367 => ((sequiturlaw30_made.f k t355 t359).bind fun t371 => (if t371 = true then (if t358 = t362 then ((sequiturlaw30_made.f k bt363.1 bt367.1).bind fun t372 => (if t372 = true then (if bt363.2 = bt367.2 then ((shadow_Exact.f k l0 a1).bind fun t373 => ((sequiturref30_Exact.f k l0 a1).bind fun t374 => (some (t373 == t374)))) else (none)) else (none))) else (none)) else (none))))) = some r := H
   have A9 := zK A90; clear A90; replace H := Option.bind_eq_some_iff.mp H
   obtain ⟨⟨t363, t366⟩, A100, H⟩ := H
   replace H : ((sequiturref30_Shadow.f k l0 a1 true).bind fun bt367 => ((sequiturlaw30_made.f k t355 t359).bind fun t371 => (if t371 = true then (if t358 = t362 then ((sequiturlaw30_made.f k t363 bt367.1).bind fun t372 => (if t372 = true then (if t366 = bt367.2 then ((shadow_Exact.f k l0 a1).bind fun t373 => ((sequiturref30_Exact.f k l0 a1).bind fun t374 => (some (t373 == t374)))) else (none)) else (none))) else (none)) else (none)))) = some r := H
   have A10 := zK A100; clear A100; replace H := Option.bind_eq_some_iff.mp H
   obtain ⟨⟨t367, t370⟩, A110, H⟩ := H
   replace H : ((sequiturlaw30_made.f k t355 t359).bind fun t371 => (if t371 = true then (if t358 = t362 then ((sequiturlaw30_made.f k t363 t367).bind fun t372 => (if t372 = true then (if t366 = t370 then ((shadow_Exact.f k l0 a1).bind fun t373 => ((sequiturref30_Exact.f k l0 a1).bind fun t374 => (some (t373 == t374)))) else (none)) else (none))) else (none)) else (none))) = some r := H
   have A11 := zK A110; clear A110; replace H := Option.bind_eq_some_iff.mp H
   obtain ⟨t371, A120, H⟩ := H
   replace H : (if t371 = true then (if t358 = t362 then ((sequiturlaw30_made.f k t363 t367).bind fun t372 => (if t372 = true then (if t366 = t370 then ((shadow_Exact.f k l0 a1).bind fun t373 => ((sequiturref30_Exact.f k l0 a1).bind fun t374 => (some (t373 == t374)))) else (none)) else (none))) else (none)) else (none)) = some r := H
   have A12 := zK A120; clear A120
   by_cases c13 : t371 = true
   ·subst c13
    have H1 : (if t358 = t362 then ((sequiturlaw30_made.f k t363 t367).bind fun t372 => (if t372 = true then (if t366 = t370 then ((shadow_Exact.f k l0 a1).bind fun t373 => ((sequiturref30_Exact.f k l0 a1).bind fun t374 => (some (t373 == t374)))) else (none)) else (none))) else (none)) = some r := by rw [if_pos rfl] at H; exact H
    clear H; have H := H1; clear H1
    by_cases c14 : t358 = t362
    ·rw [if_pos c14] at H
     have c14b0 : (t358 == t362) = true := beq_iff_eq.mpr c14
     have c14b1 : (t358 != t362) = false := bne_eq_false_iff_eq.mpr c14
     clear c14; replace H := Option.bind_eq_some_iff.mp H
     obtain ⟨t372, A150, H⟩ := H
     replace H : (if t372 = true then (if t366 = t370 then ((shadow_Exact.f k l0 a1).bind fun t373 => ((sequiturref30_Exact.f k l0 a1).bind fun t374 => (some (t373 == t374)))) else (none)) else (none)) = some r := H
     have A15 := zK A150; clear A150
     by_cases c16 : t372 = true
     ·subst c16
      have H1 : (if t366 = t370 then ((shadow_Exact.f k l0 a1).bind fun t373 => ((sequiturref30_Exact.f k l0 a1).bind fun t374 => (some (t373 == t374)))) else (none)) = some r := by rw [if_pos rfl] at H; exact H
      clear H; have H := H1; clear H1
      by_cases c17 : t366 = t370
      ·rw [if_pos c17] at H
       have c17b0 : (t366 == t370) = true := beq_iff_eq.mpr c17
       have c17b1 : (t366 != t370) = false := bne_eq_false_iff_eq.mpr c17
       clear c17; replace H := Option.bind_eq_some_iff.mp H
       obtain ⟨t373, A180, H⟩ := H
       replace H : ((sequiturref30_Exact.f k l0 a1).bind fun t374 => (some (t373 == t374))) = some r := H
       have A18 := zK A180; clear A180; replace H := Option.bind_eq_some_iff.mp H
       obtain ⟨t374, A190, H⟩ := H; replace H : (some (t373 == t374)) = some r := H
       have A19 := zK A190; clear A190
       obtain rfl := Option.some.inj H
       go_enter Try.func3, Try.ntmps3
       go_wp2_with (first | ((with_reducible refine zC (f := 12) rfl ?_); refine goesL_ (some 13) rfl rfl Try.func12 (by kernel_rfl) rfl #[] rfl (by (try simp only [List.map_toArray, List.map_cons, List.map_nil]); first | done | rfl | (simp only [List.length_drop, List.length_take]; rfl)) ?_; (with_reducible refine (sequiturlaw30_alive.calls k  true _ A3.out).mono ?_); rintro e w20 ⟨rfl, hb⟩; refine ⟨_, rfl, ?_⟩; replace HB := zK (below_step (zo HB) hb); (try clear hb); (try clear hb2); (try clear hk); (try clear hi)) | ((with_reducible refine zC (f := 13) rfl ?_); refine goesL_ (some 16) rfl rfl Try.func13 (by kernel_rfl) rfl #[.slice A0 l0.length c0, .int .i64 70] rfl (by (try simp only [List.map_toArray, List.map_cons, List.map_nil]); first | done | rfl | (simp only [List.length_drop, List.length_take]; rfl)) ?_; (with_reducible refine (sequiturref30_Long.calls k _ _ l0 70 false _ ?side1 ?side2 A5.out).mono ?_); (case side1 => repeat (first | exact (Kd.C_below HR0.out HB.out) | (with_reducible refine cA ?_ _) | (with_reducible refine cN ?_ _) | (with_reducible refine cD ?_))); (case side2 => exact HC0.out); rintro e w' ⟨rfl, ⟨nd, rfl⟩⟩; refine ⟨_, rfl, ?_⟩) | ((with_reducible refine zC (f := 14) rfl ?_); refine goesL_ (some 20) rfl rfl Try.func14 (by kernel_rfl) rfl #[.slice A0 l0.length c0, .int .i64 a1] rfl (by (try simp only [List.map_toArray, List.map_cons, List.map_nil]); first | done | rfl | (simp only [List.length_drop, List.length_take]; rfl)) ?_; (with_reducible refine (shadow_Real.calls k (fun k_ => k_ < w.heap.size) _ _ l0 a1 t355 t358 _ ?side1 A8.out).mono ?_); (case side1 => exact Kd.V_mk HC0.out (Kd.F_below (Kd.C_F k70_heap HR0.out) (zo HB))); rintro e w21 ⟨v356, rfl, ho0, hb⟩; refine ⟨_, rfl, ?_⟩; have HO357 := zK (Kd.N_lower (Kd.N_mono (ok' := fun k_ => True) ho0 (fun k_ hk_ => trivial)) (below_size (zo HB))); replace HB := zK (below_step (zo HB) hb); (try clear hb); (try clear hb2); (try clear hk); (try clear hi); (try clear ho0)) | ((with_reducible refine zC (f := 15) rfl ?_); refine goesL_ (some 26) rfl rfl Try.func15 (by kernel_rfl) rfl #[.slice A0 l0.length c0, .int .i64 a1, .bool false] rfl (by (try simp only [List.map_toArray, List.map_cons, List.map_nil]); first | done | rfl | (simp only [List.length_drop, List.length_take]; rfl)) ?_; (with_reducible refine (sequiturref30_Shadow.calls k (fun k_ => k_ < w.heap.size) _ _ l0 a1 false t359 t362 _ ?side1 A9.out).mono ?_); (case side1 => exact Kd.V_mk HC0.out (Kd.F_below (Kd.C_F k70_heap HR0.out) (zo HB))); rintro e w22 ⟨v360, rfl, ho0, hb⟩; refine ⟨_, rfl, ?_⟩; have HO361 := zK (Kd.N_lower (Kd.N_mono (ok' := fun k_ => some k_ ≠ (v356 : Value).ownBlock) ho0 (fun k_ hk_ => Or.elim hk_ (fun hs_ => fun e_ => Nat.not_le.2 hs_ (Kd.N_base HO357.out k_ e_.symm)) (fun hn_ => (Kd.fresh' (Kd.N_lt (zn HO357)) k_ hn_)))) (below_size (zo HB))); replace HO357 := zK (Kd.N_elder' (zn HO357) (Kd.N_base ho0) hb); replace HB := zK (below_step (zo HB) hb); (try clear hb); (try clear hb2); (try clear hk); (try clear hi); (try clear ho0)) | ((with_reducible refine zC (f := 16) rfl ?_); refine goesL_ (some 32) rfl rfl Try.func16 (by kernel_rfl) rfl #[.slice A0 l0.length c0, .int .i64 a1] rfl (by (try simp only [List.map_toArray, List.map_cons, List.map_nil]); first | done | rfl | (simp only [List.length_drop, List.length_take]; rfl)) ?_; (with_reducible refine (shadow_Dark.calls k (fun k_ => k_ < w.heap.size) _ _ l0 a1 t363 t366 _ ?side1 A10.out).mono ?_); (case side1 => exact Kd.V_mk HC0.out (Kd.F_below (Kd.C_F k70_heap HR0.out) (zo HB))); rintro e w23 ⟨v364, rfl, ho0, hb⟩; refine ⟨_, rfl, ?_⟩; have HO365 := zK (Kd.N_lower (Kd.N_mono (ok' := fun k_ => some k_ ≠ (v356 : Value).ownBlock ∧ some k_ ≠ (v360 : Value).ownBlock) ho0 (fun k_ hk_ => ⟨Or.elim hk_ (fun hs_ => fun e_ => Nat.not_le.2 hs_ (Kd.N_base HO357.out k_ e_.symm)) (fun hn_ => (Kd.fresh' (Kd.N_lt (zn HO357)) k_ hn_)), Or.elim hk_ (fun hs_ => fun e_ => Nat.not_le.2 hs_ (Kd.N_base HO361.out k_ e_.symm)) (fun hn_ => (Kd.fresh' (Kd.N_lt (zn HO361)) k_ hn_))⟩)) (below_size (zo HB))); replace HO357 := zK (Kd.N_elder' (zn HO357) (Kd.N_base ho0) hb); replace HO361 := zK (Kd.N_elder' (zn HO361) (Kd.N_base ho0) hb); replace HB := zK (below_step (zo HB) hb); (try clear hb); (try clear hb2); (try clear hk); (try clear hi); (try clear ho0)) | ((with_reducible refine zC (f := 15) rfl ?_); refine goesL_ (some 38) rfl rfl Try.func15 (by kernel_rfl) rfl #[.slice A0 l0.length c0, .int .i64 a1, .bool true] rfl (by (try simp only [List.map_toArray, List.map_cons, List.map_nil]); first | done | rfl | (simp only [List.length_drop, List.length_take]; rfl)) ?_; (with_reducible refine (sequiturref30_Shadow.calls k (fun k_ => k_ < w.heap.size) _ _ l0 a1 true t367 t370 _ ?side1 A11.out).mono ?_); (case side1 => exact Kd.V_mk HC0.out (Kd.F_below (Kd.C_F k70_heap HR0.out) (zo HB))); rintro e w24 ⟨v368, rfl, ho0, hb⟩; refine ⟨_, rfl, ?_⟩; have HO369 := zK (Kd.N_lower (Kd.N_mono (ok' := fun k_ => some k_ ≠ (v356 : Value).ownBlock ∧ some k_ ≠ (v360 : Value).ownBlock ∧ some k_ ≠ (v364 : Value).ownBlock) ho0 (fun k_ hk_ => ⟨Or.elim hk_ (fun hs_ => fun e_ => Nat.not_le.2 hs_ (Kd.N_base HO357.out k_ e_.symm)) (fun hn_ => (Kd.fresh' (Kd.N_lt (zn HO357)) k_ hn_)), Or.elim hk_ (fun hs_ => fun e_ => Nat.not_le.2 hs_ (Kd.N_base HO361.out k_ e_.symm)) (fun hn_ => (Kd.fresh' (Kd.N_lt (zn HO361)) k_ hn_)), Or.elim hk_ (fun hs_ => fun e_ => Nat.not_le.2 hs_ (Kd.N_base HO365.out k_ e_.symm)) (fun hn_ => (Kd.fresh' (Kd.N_lt (zn HO365)) k_ hn_))⟩)) (below_size (zo HB))); replace HO357 := zK (Kd.N_elder' (zn HO357) (Kd.N_base ho0) hb); replace HO361 := zK (Kd.N_elder' (zn HO361) (Kd.N_base ho0) hb); replace HO365 := zK (Kd.N_elder' (zn HO365) (Kd.N_base ho0) hb); replace HB := zK (below_step (zo HB) hb); (try clear hb); (try clear hb2); (try clear hk); (try clear hi); (try clear ho0); obtain ⟨Ao25, co25, eo25⟩ := Kd.N_slice HO357.out; subst eo25; obtain ⟨Ao26, co26, eo26⟩ := Kd.N_slice HO361.out; subst eo26) | ((with_reducible refine zC (f := 17) rfl ?_); refine goesL_ (some 43) rfl rfl Try.func17 (by kernel_rfl) rfl #[.slice Ao25 t355.length co25, .slice Ao26 t359.length co26] rfl (by (try simp only [List.map_toArray, List.map_cons, List.map_nil]); first | done | rfl | (simp only [List.length_drop, List.length_take]; rfl)) ?_; (with_reducible refine (sequiturlaw30_made.calls k _ _ t355 _ _ t359 true _ ?side1 ?side2 ?side3 ?side4 A12.out).mono ?_); (case side1 => repeat (first | exact (Kd.N_reads' HO357.out).2.2 | (with_reducible refine cA ?_ _) | (with_reducible refine cN ?_ _) | (with_reducible refine cD ?_))); (case side2 => exact (Kd.N_reads' HO357.out).2.1); (case side3 => repeat (first | exact (Kd.N_reads' HO361.out).2.2 | (with_reducible refine cA ?_ _) | (with_reducible refine cN ?_ _) | (with_reducible refine cD ?_))); (case side4 => exact (Kd.N_reads' HO361.out).2.1); rintro e w27 ⟨rfl, hb⟩; refine ⟨_, rfl, ?_⟩; replace HO357 := zK (Kd.N_below (zn HO357) hb); replace HO361 := zK (Kd.N_below (zn HO361) hb); replace HO365 := zK (Kd.N_below (zn HO365) hb); replace HO369 := zK (Kd.N_below (zn HO369) hb); replace HB := zK (below_step (zo HB) hb); (try clear hb); (try clear hb2); (try clear hk); (try clear hi); obtain ⟨Ao28, co28, eo28⟩ := Kd.N_slice HO365.out; subst eo28; obtain ⟨Ao29, co29, eo29⟩ := Kd.N_slice HO369.out; subst eo29) | (go_at_call 17; (with_reducible refine (sequiturlaw30_made.calls k _ _ t363 _ _ t367 true _ ?side1 ?side2 ?side3 ?side4 A15.out).mono ?_); (case side1 => repeat (first | exact (Kd.N_reads' HO365.out).2.2 | (with_reducible refine cA ?_ _) | (with_reducible refine cN ?_ _) | (with_reducible refine cD ?_))); (case side2 => exact (Kd.N_reads' HO365.out).2.1); (case side3 => repeat (first | exact (Kd.N_reads' HO369.out).2.2 | (with_reducible refine cA ?_ _) | (with_reducible refine cN ?_ _) | (with_reducible refine cD ?_))); (case side4 => exact (Kd.N_reads' HO369.out).2.1); rintro e w30 ⟨rfl, hb⟩; replace HO357 := zK (Kd.N_below (zn HO357) hb); replace HO361 := zK (Kd.N_below (zn HO361) hb); replace HO365 := zK (Kd.N_below (zn HO365) hb); replace HO369 := zK (Kd.N_below (zn HO369) hb); replace HB := zK (below_step (zo HB) hb); (try clear hb); (try clear hb2); (try clear hk); (try clear hi)) | (go_at_call 18; (with_reducible refine (shadow_Exact.calls k _ _ l0 a1 t373 _ ?side1 ?side2 A18.out).mono ?_); (case side1 => repeat (first | exact (Kd.C_below HR0.out HB.out) | (with_reducible refine cA ?_ _) | (with_reducible refine cN ?_ _) | (with_reducible refine cD ?_))); (case side2 => exact HC0.out); rintro e w31 ⟨rfl, hb⟩; replace HO357 := zK (Kd.N_below (zn HO357) hb); replace HO361 := zK (Kd.N_below (zn HO361) hb); replace HO365 := zK (Kd.N_below (zn HO365) hb); replace HO369 := zK (Kd.N_below (zn HO369) hb); replace HB := zK (below_step (zo HB) hb); (try clear hb); (try clear hb2); (try clear hk); (try clear hi)) | (go_at_call 19; (with_reducible refine (sequiturref30_Exact.calls k _ _ l0 a1 t374 _ ?side1 ?side2 A19.out).mono ?_); (case side1 => repeat (first | exact (Kd.C_below HR0.out HB.out) | (with_reducible refine cA ?_ _) | (with_reducible refine cN ?_ _) | (with_reducible refine cD ?_))); (case side2 => exact HC0.out); rintro e w32 ⟨rfl, hb⟩; replace HO357 := zK (Kd.N_below (zn HO357) hb); replace HO361 := zK (Kd.N_below (zn HO361) hb); replace HO365 := zK (Kd.N_below (zn HO365) hb); replace HO369 := zK (Kd.N_below (zn HO369) hb); replace HB := zK (below_step (zo HB) hb); (try clear hb); (try clear hb2); (try clear hk); (try clear hi)))
       go_ret
       exact ⟨by first | rfl | (simp [errW_none, errW_some] <;> rfl) | (simp [*, errW_none, errW_some] <;> rfl), zo HB⟩
      ·rw [if_neg c17] at H
       exact absurd H (by simp)
     ·replace c16 := Bool.eq_false_iff.mpr c16
      subst c16
      have H1 : (none) = some r := by rw [if_neg (show ¬ (false = true) by decide)] at H; exact H
      clear H; have H := H1; clear H1
      exact absurd H (by simp)
    ·rw [if_neg c14] at H
     exact absurd H (by simp)
   ·replace c13 := Bool.eq_false_iff.mpr c13
    subst c13
    have H1 : (none) = some r := by rw [if_neg (show ¬ (false = true) by decide)] at H; exact H
    clear H; have H := H1; clear H1
    exact absurd H (by simp)
 ·replace c4 := Bool.eq_false_iff.mpr c4
  subst c4
  have H1 : (none) = some r := by rw [if_neg (show ¬ (false = true) by decide)] at H; exact H
  clear H; have H := H1; clear H1
  exact absurd H (by simp)

end Go.Proofs.Ytkfbfgkdabljiaa.PShadowCasts
