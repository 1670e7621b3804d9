/- What the call of each function that the law reaches comes to, and the law out of its plain form; no condition but what stands in each theorem. -/
import Derived.Test.YtjinmlpekecmbaaPEuclidNonex0
import Derived.Test.YtjinmlpekecmbaaPEuclidNonex1
import Derived.Test.YtjinmlpekecmbaaPEuclidNonex3
namespace Go.Proofs.Ytjinmlpekecmbaa.PEuclidNone
open Go.RowKit Go.Proofs.YtjinmlpekecmbaaW.PrintWords Go.Proofs.YtjinmlpekecmbaaW.PrintLast Go.Proofs.YtjinmlpekecmbaaW.PrintMore
open Go.Proofs.YtjinmlpekecmbaaW.PrintWords renaming blk_drewN → zN, blk_drew → zD, blk_alloc → zA, below_alloc → yA, pw_below_drewN → yN, below_drew1 → yD, below_set → yS, gate_callee → zC, gate_guard → zG
open Go.Proofs.YtjinmlpekecmbaaW.PrintWords.Aside0 renaming mk → zK
attribute [local go_sem] max2_int min2_int max_two min_two max_three min_three max_four min_four
set_option linter.unusedVariables false
set_option maxHeartbeats 8000000
set_option maxRecDepth 100000
set_option linter.unusedSimpArgs false

/-! ### euclid_asked: function 39 -/
mutual
def euclid_asked.j0 : Nat → List (S41) → Int → Bool → Option (Int)
 | 0, _, _, _ => none
 | k + 1, x0, x1, x12 => if x12 = true then (some 1) else (if (x0.length : Int) > 64 then (some 2) else (euclid_asked.l0 k x1 x0 (x0.length : Int) 0))
def euclid_asked.l0 : Nat → Int → List (S41) → Int → Int → Option (Int)
 | 0, _, _, _, _ => none
 | k + 1, x1, x16, x17, x18 => if x18 < x17 then (if 0 ≤ x18 then (if x18 < (x16.length : Int) then ((ineq_Right.f k ((rd_T41 x16 x18).f0) ((rd_T41 x16 x18).f1) true).bind fun t140 => (if t140 = 0 then (if (((rd_T41 x16 x18).f1).length : Int) > 0 then (if 0 ≤ (wrap64 ((((rd_T41 x16 x18).f1).length : Int) - 1)) then (if (wrap64 ((((rd_T41 x16 x18).f1).length : Int) - 1)) < (((rd_T41 x16 x18).f1).length : Int) then (if ((rd_T44 ((rd_T41 x16 x18).f1) (wrap64 ((((rd_T41 x16 x18).f1).length : Int) - 1))).f0) ≥ x1 then (some 1) else (euclid_asked.l0 k x1 x16 x17 (wrap64 (x18 + 1)))) else (none)) else (none)) else (euclid_asked.l0 k x1 x16 x17 (wrap64 (x18 + 1)))) else (some 1))) else (none)) else (none)) else (some 0)
end
def euclid_asked.f (k : Nat) (l0 : List (S41)) (a1 : Int) : Option (Int) := if a1 < 0 then (euclid_asked.j0 k l0 a1 true) else (euclid_asked.j0 k l0 a1 (decide (a1 > 64)))
theorem euclid_asked.mono_l : ∀ k, (∀ y0 y1 y2, LeO (euclid_asked.j0 k y0 y1 y2) (euclid_asked.j0 (k + 1) y0 y1 y2)) ∧ (∀ y0 y1 y2 y3, LeO (euclid_asked.l0 k y0 y1 y2 y3) (euclid_asked.l0 (k + 1) y0 y1 y2 y3))
 | 0 => ⟨fun _ _ _ r h => by simp [euclid_asked.j0] at h, fun _ _ _ _ r h => by simp [euclid_asked.l0] at h⟩
 | k + 1 => by
  obtain ⟨ih0, ih1⟩ := euclid_asked.mono_l k
  refine ⟨?_, ?_⟩ <;> intros <;> first | unfold euclid_asked.j0 | unfold euclid_asked.l0
  all_goals repeat' first | (with_reducible first | exact ih0 .. | exact ih1 .. | exact ineq_Right.mono .. | exact LeO.refl _ | exact LeO.none _ | refine LeO.ite ?_ ?_ | refine LeO.bind ?_ (fun _ => ?_)) | exact ih0 .. | exact ih1 .. | exact ineq_Right.mono .. | exact LeO.none _ | refine LeO.ite ?_ ?_ | refine LeO.bind ?_ (fun _ => ?_)
theorem euclid_asked.mono : ∀ a0 a1 k, LeO (euclid_asked.f k a0 a1) (euclid_asked.f (k + 1) a0 a1) := by
 intro a0 a1 k
 obtain ⟨ih0, ih1⟩ := euclid_asked.mono_l k
 unfold euclid_asked.f
 repeat' first | (with_reducible first | exact ih0 .. | exact ih1 .. | exact ineq_Right.mono .. | exact LeO.refl _ | exact LeO.none _ | refine LeO.ite ?_ ?_ | refine LeO.bind ?_ (fun _ => ?_)) | exact ih0 .. | exact ih1 .. | exact ineq_Right.mono .. | exact LeO.none _ | refine LeO.ite ?_ ?_ | refine LeO.bind ?_ (fun _ => ?_)
theorem euclid_asked.calls (k : Nat) (A0 : Option Addr) (c0 : Nat) (l0 : List (S41)) (a1 : Int) (r : Int) (w : World) (hr0 : Kd.C k41 w A0 l0.length l0) (hc0 : l0.length ≤ c0) (h : euclid_asked.f k l0 a1 = some r) :
  Calls Try.prog 39 #[.slice A0 l0.length c0, .int .i64 a1] w fun e w' => e = .returned (.int .i64 r) ∧ Below w.heap.size w w' := by
 have hu41 := Try.underlying41
 have hu112 := Try.underlying112
 have HR0 := zK hr0
 have HC0 := zK hc0; clear hr0 hc0
 have HB := zK (Below.refl w.heap.size w)
 have H : (if a1 < 0 then (euclid_asked.j0 k l0 a1 true) else (euclid_asked.j0 k l0 a1 (decide (a1 > 64)))) = some r := h
 clear h
 have HC3 := zK H; clear H
 go_enter Try.func39, Try.ntmps39
 go_upto_region 1 with (fail)
 go_cut [12] (fun v12 wc => ∃ (kq : Nat) (x12_2 : Bool), v12 = .bool x12_2 ∧ Aside0 (euclid_asked.j0 kq l0 a1 x12_2 = some r) ∧ Aside0 (kq ≤ k) ∧ Aside0 (Below w.heap.size w wc))
 case first =>
  have H := HC3.out; clear HC3
  by_cases c4 : a1 < 0
  ·rw [if_pos c4] at H
   have c4b0 : decide (a1 < 0) = true := decide_eq_true c4; clear c4
   (first | rw [c4b0] | (simp only [i64_w, i32_w]; rw [c4b0]) | skip)
   have H' := zK H; clear H
   go_wp2
   go_meet
   case rel => exact ⟨_, (true), (by first | rfl | (simp; done) | (simp [*]; done)), H', ⟨by first | omega | exact Nat.le_refl _⟩, ⟨zo HB⟩⟩
  ·rw [if_neg c4] at H
   have c4b0 : decide (a1 < 0) = false := decide_eq_false c4; clear c4
   (first | rw [c4b0] | (simp only [i64_w, i32_w]; rw [c4b0]) | skip)
   have H' := zK H; clear H
   go_wp2
   go_meet
   case rel => exact ⟨_, (decide (a1 > 64)), (by first | rfl | (simp; done) | (simp [*]; done)), H', ⟨by first | omega | exact Nat.le_refl _⟩, ⟨zo HB⟩⟩
 case rest =>
  clear HC3; try clear p2; try clear c3; try clear c4; try clear c4b0
  obtain ⟨kq, x12_2, rfl, HA, HJ2, HB⟩ := hcut
  cases kq with
  | zero => exact absurd HA.out (by simp [euclid_asked.j0])
  | succ kj2 =>
   have H := HA.out; clear HA
   simp only [euclid_asked.j0] at H
   by_cases c5 : x12_2 = true
   ·subst c5
    have H1 : (some 1) = some r := by rw [if_pos rfl] at H; exact H
    clear H
    have H := H1; clear H1
    obtain rfl := Option.some.inj H
    go_wp2
    go_ret
    exact zR (h := zo HB)
   ·replace c5 := Bool.eq_false_iff.mpr c5
    subst c5
    have H1 : (if (l0.length : Int) > 64 then (some 2) else (euclid_asked.l0 kj2 a1 l0 (l0.length : Int) 0)) = some r := by rw [if_neg (show ¬ (false = true) by decide)] at H; exact H
    clear H; have H := H1; clear H1
    by_cases c6 : (l0.length : Int) > 64
    ·rw [if_pos c6] at H
     have c6b0 : decide (64 < (l0.length : Int)) = true := decide_eq_true c6
     have c6b1 : decide (64 < l0.length) = true := decide_eq_true (by omega)
     clear c6
     obtain rfl := Option.some.inj H
     go_wp2
     go_ret
     exact zR (h := zo HB)
    ·rw [if_neg c6] at H
     have c6b0 : decide (64 < (l0.length : Int)) = false := decide_eq_false c6
     have c6b1 : decide (64 < l0.length) = false := decide_eq_false (by omega)
     clear c6
     have H' := zK H; clear H
     go_wp2
     go_loopg [18] kj2 (fun kq v18 w' => ∃ (x18_2 : Int), v18 = .int .i64 x18_2 ∧ Aside0 (euclid_asked.l0 kq a1 l0 (l0.length : Int) x18_2 = some r) ∧ Aside0 (kq ≤ kj2) ∧ Aside0 (Below w.heap.size w w'))
     case atStart => exact ⟨(0), (by first | rfl | (simp; done) | (simp [*]; done)), H', ⟨Nat.le_refl _⟩, ⟨zo HB⟩⟩
     case round =>
      clear H'; try clear p2; try clear c3; try clear c4
      try clear c4b0; try clear c5; try clear c6; try clear c6b0; try clear c6b1; try clear p2
      obtain ⟨x18_2, rfl, HA, HK2, HB⟩ := hrel
      cases gk with
      | zero => exact absurd HA.out (by simp [euclid_asked.l0])
      | succ k2 =>
       have H := HA.out; clear HA
       simp only [euclid_asked.l0] at H
       by_cases c7 : x18_2 < (l0.length : Int)
       ·rw [if_pos c7] at H
        have c7b0 : decide (x18_2 < (l0.length : Int)) = true := decide_eq_true c7
        clear c7
        by_cases c8 : 0 ≤ x18_2
        ·rw [if_pos c8] at H
         have c8b0 : decide (0 ≤ x18_2) = true := decide_eq_true c8; clear c8
         by_cases c9 : x18_2 < (l0.length : Int)
         ·rw [if_pos c9] at H
          have c9b0 : decide (x18_2 < (l0.length : Int)) = true := decide_eq_true c9
          clear c9; replace H := zob H
          obtain ⟨t140, A100, H⟩ := H
          replace H : (if t140 = 0 then (if (((rd_T41 l0 x18_2).f1).length : Int) > 0 then (if 0 ≤ (wrap64 ((((rd_T41 l0 x18_2).f1).length : Int) - 1)) then (if (wrap64 ((((rd_T41 l0 x18_2).f1).length : Int) - 1)) < (((rd_T41 l0 x18_2).f1).length : Int) then (if ((rd_T44 ((rd_T41 l0 x18_2).f1) (wrap64 ((((rd_T41 l0 x18_2).f1).length : Int) - 1))).f0) ≥ a1 then (some 1) else (euclid_asked.l0 k2 a1 l0 (l0.length : Int) (wrap64 (x18_2 + 1)))) else (none)) else (none)) else (euclid_asked.l0 k2 a1 l0 (l0.length : Int) (wrap64 (x18_2 + 1)))) else (some 1)) = some r := H
          have A10 := zK A100; clear A100
          by_cases c11 : t140 = 0
          ·rw [if_pos c11] at H
           have c11b0 : (t140 == 0) = true := beq_iff_eq.mpr c11
           have c11b1 : (t140 != 0) = false := bne_eq_false_iff_eq.mpr c11; clear c11
           by_cases c12 : (((rd_T41 l0 x18_2).f1).length : Int) > 0
           ·rw [if_pos c12] at H
            have c12b0 : decide (0 < (((rd_T41 l0 x18_2).f1).length : Int)) = true := decide_eq_true c12
            have c12b1 : decide (0 < ((rd_T41 l0 x18_2).f1).length) = true := decide_eq_true (by omega)
            clear c12
            obtain ⟨ji13, hji13⟩ : ∃ j_ : Int, (wrap64 ((((rd_T41 l0 x18_2).f1).length : Int) - 1)) = j_ := ⟨_, rfl⟩
            replace H : (if 0 ≤ (ji13) then (if (ji13) < (((rd_T41 l0 x18_2).f1).length : Int) then (if ((rd_T44 ((rd_T41 l0 x18_2).f1) (ji13)).f0) ≥ a1 then (some 1) else (euclid_asked.l0 k2 a1 l0 (l0.length : Int) (wrap64 (x18_2 + 1)))) else (none)) else (none)) = some r := by first | (rw [hji13] at H; exact H) | (simp only [hji13] at H ⊢; exact H)
            (try rw [hji13] at A10)
            have hji13w : (IntKind.i64.wrap ((((rd_T41 l0 x18_2).f1).length : Int) - 1)) = ji13 := (i64_w _).trans hji13
            by_cases c14 : 0 ≤ (ji13)
            ·rw [if_pos c14] at H
             have c14b0 : decide (0 ≤ (ji13)) = true := decide_eq_true c14; clear c14
             by_cases c15 : (ji13) < (((rd_T41 l0 x18_2).f1).length : Int)
             ·rw [if_pos c15] at H
              have c15b0 : decide ((ji13) < (((rd_T41 l0 x18_2).f1).length : Int)) = true := decide_eq_true c15
              clear c15
              by_cases c16 : ((rd_T44 ((rd_T41 l0 x18_2).f1) (ji13)).f0) ≥ a1
              ·rw [if_pos c16] at H
               have c16b0 : decide (a1 ≤ ((rd_T44 ((rd_T41 l0 x18_2).f1) (ji13)).f0)) = true := decide_eq_true c16
               clear c16
               obtain rfl := Option.some.inj H
               have p138 : 0 ≤ (x18_2 : Int) := zdt
               have q138 : x18_2 < (l0.length : Int) := zdt
               obtain ⟨ad138, A138_1, c138_1, e138, hx138_0, hx138_1, hl138_1, hi138_1⟩ := at_T41 HR0.out x18_2 p138 q138
               cases e138
               replace hx138_0 := zcl HB hx138_0
               replace hx138_1 := zcl HB hx138_1
               have HR138_1 := zK hi138_1
               have HC138_1 := zK hl138_1; clear hi138_1 hl138_1
               replace p138 := eq_true p138
               replace q138 := eq_true q138
               go_wp2_with (first | ((with_reducible refine gate_dst (N := 6) rfl ?_); (try (refine zG (by rfl) ?_; dsimp only)); refine zBx HB (cs := #[.int .i64 0, .slice none 0 0]) (t := 41) ?_; clear HB; intro gb139 hg w17 BK139 GW139 hb HB; clear hb hg; have hcz18_0 := zc0 BK139; have hcz18_1 := zc1 BK139; have hfz18_0 := zfz BK139 0; have hfz18_1 := zfz BK139 1) | ((with_reducible refine zC (f := 56) rfl ?_); refine zGo (some 24) Try.func56 #[.agg #[.int .i64 ((rd_T41 l0 x18_2).f0), .slice A138_1 ((rd_T41 l0 x18_2).f1).length c138_1, .bool true]] ?_; (with_reducible refine (ineq_Right.calls k2 ((rd_T41 l0 x18_2).f0) _ _ ((rd_T41 l0 x18_2).f1) true t140 _ ?side1 ?side2 A10.out).mono ?_); (case side1 => exact Kd.C_below HR138_1.out (zo HB)); (case side2 => exact HC138_1.out); rintro e w19 ⟨rfl, hb⟩; refine ⟨_, rfl, ?_⟩; replace BK139 := zK (blk_below (g := gb139) (o := .cells #[.int .i64 ((rd_T41 l0 x18_2).f0), .slice A138_1 ((rd_T41 l0 x18_2).f1).length c138_1] 41 (0, 0)) (by refine zM ?_; refine blk_put (cs := #[.int .i64 ((rd_T41 l0 x18_2).f0), .slice none 0 0]) ?_ 1 _ rfl; refine zM ?_; refine blk_put (cs := #[.int .i64 0, .slice none 0 0]) ?_ 0 _ rfl; refine zM ?_; exact BK139.out) hb); replace HB := zst HB hb; clear hb; have hcz20_0 := zc0 BK139; have hcz20_1 := zc1 BK139; have hfz20_0 := zfz BK139 0; have hfz20_1 := zfz BK139 1; have p141 : 0 ≤ ((ji13) : Int) := zdt; have q141 : (ji13) < (((rd_T41 l0 x18_2).f1).length : Int) := zdt; obtain ⟨ad141, e141, hx141_0, hx141_1⟩ := at_T44 HR138_1.out (ji13) p141 q141; cases e141; replace hx141_0 := zcl HB hx141_0; replace hx141_1 := zcl HB hx141_1; replace p141 := eq_true p141; replace q141 := eq_true q141))
               go_ret
               exact ⟨by first | rfl | (simp [errW_none, errW_some] <;> rfl) | (simp only [← hji13]; first | rfl | (simp [errW_none, errW_some] <;> rfl)) | (simp [*, errW_none, errW_some] <;> rfl), zo HB⟩
              ·rw [if_neg c16] at H
               have c16b0 : decide (a1 ≤ ((rd_T44 ((rd_T41 l0 x18_2).f1) (ji13)).f0)) = false := decide_eq_false c16
               clear c16
               have H' := zK H; clear H
               have p138 : 0 ≤ (x18_2 : Int) := zdt
               have q138 : x18_2 < (l0.length : Int) := zdt
               obtain ⟨ad138, A138_1, c138_1, e138, hx138_0, hx138_1, hl138_1, hi138_1⟩ := at_T41 HR0.out x18_2 p138 q138
               cases e138
               replace hx138_0 := zcl HB hx138_0
               replace hx138_1 := zcl HB hx138_1
               have HR138_1 := zK hi138_1
               have HC138_1 := zK hl138_1; clear hi138_1 hl138_1
               replace p138 := eq_true p138
               replace q138 := eq_true q138
               go_wp2_with (first | ((with_reducible refine gate_dst (N := 6) rfl ?_); (try (refine zG (by rfl) ?_; dsimp only)); refine zBx HB (cs := #[.int .i64 0, .slice none 0 0]) (t := 41) ?_; clear HB; intro gb139 hg w21 BK139 GW139 hb HB; clear hb hg; have hcz22_0 := zc0 BK139; have hcz22_1 := zc1 BK139; have hfz22_0 := zfz BK139 0; have hfz22_1 := zfz BK139 1) | ((with_reducible refine zC (f := 56) rfl ?_); refine zGo (some 24) Try.func56 #[.agg #[.int .i64 ((rd_T41 l0 x18_2).f0), .slice A138_1 ((rd_T41 l0 x18_2).f1).length c138_1, .bool true]] ?_; (with_reducible refine (ineq_Right.calls k2 ((rd_T41 l0 x18_2).f0) _ _ ((rd_T41 l0 x18_2).f1) true t140 _ ?side1 ?side2 A10.out).mono ?_); (case side1 => exact Kd.C_below HR138_1.out (zo HB)); (case side2 => exact HC138_1.out); rintro e w23 ⟨rfl, hb⟩; refine ⟨_, rfl, ?_⟩; replace BK139 := zK (blk_below (g := gb139) (o := .cells #[.int .i64 ((rd_T41 l0 x18_2).f0), .slice A138_1 ((rd_T41 l0 x18_2).f1).length c138_1] 41 (0, 0)) (by refine zM ?_; refine blk_put (cs := #[.int .i64 ((rd_T41 l0 x18_2).f0), .slice none 0 0]) ?_ 1 _ rfl; refine zM ?_; refine blk_put (cs := #[.int .i64 0, .slice none 0 0]) ?_ 0 _ rfl; refine zM ?_; exact BK139.out) hb); replace HB := zst HB hb; clear hb; have hcz24_0 := zc0 BK139; have hcz24_1 := zc1 BK139; have hfz24_0 := zfz BK139 0; have hfz24_1 := zfz BK139 1; have p141 : 0 ≤ ((ji13) : Int) := zdt; have q141 : (ji13) < (((rd_T41 l0 x18_2).f1).length : Int) := zdt; obtain ⟨ad141, e141, hx141_0, hx141_1⟩ := at_T44 HR138_1.out (ji13) p141 q141; cases e141; replace hx141_0 := zcl HB hx141_0; replace hx141_1 := zcl HB hx141_1; replace p141 := eq_true p141; replace q141 := eq_true q141))
               go_roundg k2
               case measure => have := HJ2.out; have := HK2.out; omega
               case rel => exact ⟨(wrap64 (x18_2 + 1)), (by first | rfl | (simp; done) | (simp [*]; done)), H', ⟨by have := HJ2.out; have := HK2.out; omega⟩, ⟨zo HB⟩⟩
             ·rw [if_neg c15] at H
              exact absurd H (by simp)
            ·rw [if_neg c14] at H
             exact absurd H (by simp)
           ·rw [if_neg c12] at H
            have c12b0 : decide (0 < (((rd_T41 l0 x18_2).f1).length : Int)) = false := decide_eq_false c12
            have c12b1 : decide (0 < ((rd_T41 l0 x18_2).f1).length) = false := decide_eq_false (by omega)
            clear c12
            have H' := zK H; clear H
            have p138 : 0 ≤ (x18_2 : Int) := zdt
            have q138 : x18_2 < (l0.length : Int) := zdt
            obtain ⟨ad138, A138_1, c138_1, e138, hx138_0, hx138_1, hl138_1, hi138_1⟩ := at_T41 HR0.out x18_2 p138 q138
            cases e138
            replace hx138_0 := zcl HB hx138_0
            replace hx138_1 := zcl HB hx138_1
            have HR138_1 := zK hi138_1
            have HC138_1 := zK hl138_1; clear hi138_1 hl138_1
            replace p138 := eq_true p138
            replace q138 := eq_true q138
            go_wp2_with (first | ((with_reducible refine gate_dst (N := 6) rfl ?_); (try (refine zG (by rfl) ?_; dsimp only)); refine zBx HB (cs := #[.int .i64 0, .slice none 0 0]) (t := 41) ?_; clear HB; intro gb139 hg w25 BK139 GW139 hb HB; clear hb hg; have hcz26_0 := zc0 BK139; have hcz26_1 := zc1 BK139; have hfz26_0 := zfz BK139 0; have hfz26_1 := zfz BK139 1) | ((with_reducible refine zC (f := 56) rfl ?_); refine zGo (some 24) Try.func56 #[.agg #[.int .i64 ((rd_T41 l0 x18_2).f0), .slice A138_1 ((rd_T41 l0 x18_2).f1).length c138_1, .bool true]] ?_; (with_reducible refine (ineq_Right.calls k2 ((rd_T41 l0 x18_2).f0) _ _ ((rd_T41 l0 x18_2).f1) true t140 _ ?side1 ?side2 A10.out).mono ?_); (case side1 => exact Kd.C_below HR138_1.out (zo HB)); (case side2 => exact HC138_1.out); rintro e w27 ⟨rfl, hb⟩; refine ⟨_, rfl, ?_⟩; replace BK139 := zK (blk_below (g := gb139) (o := .cells #[.int .i64 ((rd_T41 l0 x18_2).f0), .slice A138_1 ((rd_T41 l0 x18_2).f1).length c138_1] 41 (0, 0)) (by refine zM ?_; refine blk_put (cs := #[.int .i64 ((rd_T41 l0 x18_2).f0), .slice none 0 0]) ?_ 1 _ rfl; refine zM ?_; refine blk_put (cs := #[.int .i64 0, .slice none 0 0]) ?_ 0 _ rfl; refine zM ?_; exact BK139.out) hb); replace HB := zst HB hb; clear hb; have hcz28_0 := zc0 BK139; have hcz28_1 := zc1 BK139; have hfz28_0 := zfz BK139 0; have hfz28_1 := zfz BK139 1))
            go_roundg k2
            case measure => have := HJ2.out; have := HK2.out; omega
            case rel => exact ⟨(wrap64 (x18_2 + 1)), (by first | rfl | (simp; done) | (simp [*]; done)), H', ⟨by have := HJ2.out; have := HK2.out; omega⟩, ⟨zo HB⟩⟩
          ·rw [if_neg c11] at H
           have c11b0 : (t140 == 0) = false := beq_eq_false_iff_ne.mpr c11
           have c11b1 : (t140 != 0) = true := bne_iff_ne.mpr c11
           obtain rfl := Option.some.inj H
           have p138 : 0 ≤ (x18_2 : Int) := zdt
           have q138 : x18_2 < (l0.length : Int) := zdt
           obtain ⟨ad138, A138_1, c138_1, e138, hx138_0, hx138_1, hl138_1, hi138_1⟩ := at_T41 HR0.out x18_2 p138 q138
           cases e138
           replace hx138_0 := zcl HB hx138_0
           replace hx138_1 := zcl HB hx138_1
           have HR138_1 := zK hi138_1
           have HC138_1 := zK hl138_1; clear hi138_1 hl138_1
           replace p138 := eq_true p138
           replace q138 := eq_true q138
           go_wp2_with (first | ((with_reducible refine gate_dst (N := 6) rfl ?_); (try (refine zG (by rfl) ?_; dsimp only)); refine zBx HB (cs := #[.int .i64 0, .slice none 0 0]) (t := 41) ?_; clear HB; intro gb139 hg w29 BK139 GW139 hb HB; clear hb hg; have hcz30_0 := zc0 BK139; have hcz30_1 := zc1 BK139; have hfz30_0 := zfz BK139 0; have hfz30_1 := zfz BK139 1) | ((with_reducible refine zC (f := 56) rfl ?_); refine zGo (some 24) Try.func56 #[.agg #[.int .i64 ((rd_T41 l0 x18_2).f0), .slice A138_1 ((rd_T41 l0 x18_2).f1).length c138_1, .bool true]] ?_; (with_reducible refine (ineq_Right.calls k2 ((rd_T41 l0 x18_2).f0) _ _ ((rd_T41 l0 x18_2).f1) true t140 _ ?side1 ?side2 A10.out).mono ?_); (case side1 => exact Kd.C_below HR138_1.out (zo HB)); (case side2 => exact HC138_1.out); rintro e w31 ⟨rfl, hb⟩; refine ⟨_, rfl, ?_⟩; replace BK139 := zK (blk_below (g := gb139) (o := .cells #[.int .i64 ((rd_T41 l0 x18_2).f0), .slice A138_1 ((rd_T41 l0 x18_2).f1).length c138_1] 41 (0, 0)) (by refine zM ?_; refine blk_put (cs := #[.int .i64 ((rd_T41 l0 x18_2).f0), .slice none 0 0]) ?_ 1 _ rfl; refine zM ?_; refine blk_put (cs := #[.int .i64 0, .slice none 0 0]) ?_ 0 _ rfl; refine zM ?_; exact BK139.out) hb); replace HB := zst HB hb; clear hb))
           go_ret
           exact zR (h := zo HB)
         ·rw [if_neg c9] at H
          exact absurd H (by simp)
        ·rw [if_neg c8] at H
         exact absurd H (by simp)
       ·rw [if_neg c7] at H
        have c7b0 : decide (x18_2 < (l0.length : Int)) = false := decide_eq_false c7
        clear c7
        obtain rfl := Option.some.inj H
        go_wp2
        go_ret
        exact zR (h := zo HB)

/-! ### num_Mod: function 43 -/
def num_Mod.f (a0 : Int) (a1 : Int) : Option (Int × Bool) := if a1 = 0 then (some (0, false)) else (if (Int.tmod a0 a1) = 0 then (some (Int.tmod a0 a1, true)) else (if ((decide ((Int.tmod a0 a1) < 0)) != (decide (a1 < 0))) = true then (some (wrap64 ((Int.tmod a0 a1) + a1), true)) else (some (Int.tmod a0 a1, true))))
theorem num_Mod.calls (a0 : Int) (a1 : Int) (r1 : Int) (r2 : Bool) (w : World) (h : num_Mod.f a0 a1 = some (r1, r2)) :
  Calls Try.prog 43 #[.int .i64 a0, .int .i64 a1] w fun e w' => e = .returned (.tuple #[.int .i64 r1, .bool r2]) ∧ Drawn0 w w' := by
 have H : (if a1 = 0 then (some (0, false)) else (if (Int.tmod a0 a1) = 0 then (some (Int.tmod a0 a1, true)) else (if ((decide ((Int.tmod a0 a1) < 0)) != (decide (a1 < 0))) = true then (some (wrap64 ((Int.tmod a0 a1) + a1), true)) else (some (Int.tmod a0 a1, true))))) = some (r1, r2) := h
 clear h
 by_cases c3 : a1 = 0
 ·rw [if_pos c3] at H
  have c3b0 : (a1 == 0) = true := beq_iff_eq.mpr c3
  have c3b1 : (a1 != 0) = false := bne_eq_false_iff_eq.mpr c3; clear c3
  simp only [Option.some.injEq, Prod.mk.injEq] at H
  obtain ⟨rfl, rfl⟩ := H
  go_enter Try.func43, Try.ntmps43
  go_wp2
  go_ret2
  exact zW
 ·rw [if_neg c3] at H
  have c3b0 : (a1 == 0) = false := beq_eq_false_iff_ne.mpr c3
  have c3b1 : (a1 != 0) = true := bne_iff_ne.mpr c3
  by_cases c4 : (Int.tmod a0 a1) = 0
  ·rw [if_pos c4] at H
   have c4b0 : ((Int.tmod a0 a1) == 0) = true := beq_iff_eq.mpr c4
   have c4b1 : ((Int.tmod a0 a1) != 0) = false := bne_eq_false_iff_eq.mpr c4
   clear c4
   simp only [Option.some.injEq, Prod.mk.injEq] at H
   obtain ⟨rfl, rfl⟩ := H
   go_enter Try.func43, Try.ntmps43
   go_wp2
   go_ret2
   exact zW
  ·rw [if_neg c4] at H
   have c4b0 : ((Int.tmod a0 a1) == 0) = false := beq_eq_false_iff_ne.mpr c4
   have c4b1 : ((Int.tmod a0 a1) != 0) = true := bne_iff_ne.mpr c4
   by_cases c5 : ((decide ((Int.tmod a0 a1) < 0)) != (decide (a1 < 0))) = true
   ·rw [if_pos c5] at H
    have c5b0 : ((decide ((Int.tmod a0 a1) < 0)) != (decide (a1 < 0))) = true := c5
    (try (have c5b1 : decide ((decide ((Int.tmod a0 a1) < 0)) = (decide (a1 < 0))) = false := by simpa using c5))
    (try (have c5b2 : ((decide ((Int.tmod a0 a1) < 0)) == (decide (a1 < 0))) = false := by simpa using c5))
    (try (have c5b3 : ¬ ((decide ((Int.tmod a0 a1) < 0)) = (decide (a1 < 0))) := by simpa using c5))
    clear c5
    simp only [Option.some.injEq, Prod.mk.injEq] at H
    obtain ⟨rfl, rfl⟩ := H
    go_enter Try.func43, Try.ntmps43
    go_wp2
    go_ret2
    exact zW
   ·rw [if_neg c5] at H
    have c5b0 : ((decide ((Int.tmod a0 a1) < 0)) != (decide (a1 < 0))) = false := by simpa using c5
    (try (have c5b1 : decide ((decide ((Int.tmod a0 a1) < 0)) = (decide (a1 < 0))) = true := by simpa using c5))
    (try (have c5b2 : ((decide ((Int.tmod a0 a1) < 0)) == (decide (a1 < 0))) = true := by simpa using c5))
    clear c5
    simp only [Option.some.injEq, Prod.mk.injEq] at H
    obtain ⟨rfl, rfl⟩ := H
    go_enter Try.func43, Try.ntmps43
    go_wp2
    go_ret2
    exact zW

/-! ### num_told: function 77 -/
def num_told.f (a0 : Int) (a1 : Bool) : Option (Int × Bool) := if a1 = true then (some (a0, true)) else (some (0, false))
theorem num_told.calls (a0 : Int) (a1 : Bool) (r1 : Int) (r2 : Bool) (w : World) (h : num_told.f a0 a1 = some (r1, r2)) :
  Calls Try.prog 77 #[.int .i64 a0, .bool a1] w fun e w' => e = .returned (.tuple #[.int .i64 r1, .bool r2]) ∧ Drawn0 w w' := by
 have H : (if a1 = true then (some (a0, true)) else (some (0, false))) = some (r1, r2) := h
 clear h
 by_cases c3 : a1 = true
 ·subst c3
  have H1 : (some (a0, true)) = some (r1, r2) := by rw [if_pos rfl] at H; exact H
  clear H; have H := H1; clear H1
  simp only [Option.some.injEq, Prod.mk.injEq] at H
  obtain ⟨rfl, rfl⟩ := H
  go_enter Try.func77, Try.ntmps77
  go_wp2
  go_ret2
  exact zW
 ·replace c3 := Bool.eq_false_iff.mpr c3
  subst c3
  have H1 : (some (0, false)) = some (r1, r2) := by rw [if_neg (show ¬ (false = true) by decide)] at H; exact H
  clear H; have H := H1; clear H1
  simp only [Option.some.injEq, Prod.mk.injEq] at H
  obtain ⟨rfl, rfl⟩ := H
  go_enter Try.func77, Try.ntmps77
  go_wp2
  go_ret2
  exact zW

/-! ### num_Sub: function 71 -/
def num_Sub.f (a0 : Int) (a1 : Int) : Option (Int × Bool) := (num_told.f (wrap64 (a0 - a1)) ((decide ((wrap64 (a0 - a1)) < a0)) == (decide (a1 > 0)))).bind fun bt142 => (some (bt142.1, bt142.2))
theorem num_Sub.calls (a0 : Int) (a1 : Int) (r1 : Int) (r2 : Bool) (w : World) (h : num_Sub.f a0 a1 = some (r1, r2)) :
  Calls Try.prog 71 #[.int .i64 a0, .int .i64 a1] w fun e w' => e = .returned (.tuple #[.int .i64 r1, .bool r2]) ∧ Drawn0 w w' := by
 have H : ((num_told.f (wrap64 (a0 - a1)) ((decide ((wrap64 (a0 - a1)) < a0)) == (decide (a1 > 0)))).bind fun bt142 => (some (bt142.1, bt142.2))) = some (r1, r2) := h
 clear h; replace H := zob H
 obtain ⟨⟨t142, t143⟩, A30, H⟩ := H
 replace H : (some (t142, t143)) = some (r1, r2) := H
 have A3 := zK A30; clear A30
 simp only [Option.some.injEq, Prod.mk.injEq] at H
 obtain ⟨rfl, rfl⟩ := H
 go_enter Try.func71, Try.ntmps71
 go_wp2_with (first | ((with_reducible refine zC (f := 77) rfl ?_); refine zGo (some 17) Try.func77 #[.int .i64 (wrap64 (a0 - a1)), .bool ((decide ((wrap64 (a0 - a1)) < a0)) == (decide (a1 > 0)))] ?_; (with_reducible refine (num_told.calls (wrap64 (a0 - a1)) ((decide ((wrap64 (a0 - a1)) < a0)) == (decide (a1 > 0))) t142 t143 _ A3.out).mono ?_); rintro e w' ⟨rfl, ⟨nd, rfl⟩⟩; refine ⟨_, rfl, ?_⟩))
 go_ret2
 exact zW

/-! ### num_Neg: function 59 -/
def num_Neg.f (a0 : Int) : Option (Int × Bool) := (num_Sub.f 0 a0).bind fun bt144 => (some (bt144.1, bt144.2))
theorem num_Neg.calls (a0 : Int) (r1 : Int) (r2 : Bool) (w : World) (h : num_Neg.f a0 = some (r1, r2)) :
  Calls Try.prog 59 #[.int .i64 a0] w fun e w' => e = .returned (.tuple #[.int .i64 r1, .bool r2]) ∧ Drawn0 w w' := by
 have H : ((num_Sub.f 0 a0).bind fun bt144 => (some (bt144.1, bt144.2))) = some (r1, r2) := h
 clear h; replace H := zob H
 obtain ⟨⟨t144, t145⟩, A20, H⟩ := H
 replace H : (some (t144, t145)) = some (r1, r2) := H
 have A2 := zK A20; clear A20
 simp only [Option.some.injEq, Prod.mk.injEq] at H
 obtain ⟨rfl, rfl⟩ := H
 go_enter Try.func59, Try.ntmps59
 go_wp2_with (first | ((with_reducible refine zC (f := 71) rfl ?_); refine zGo (some 5) Try.func71 #[.int .i64 0, .int .i64 a0] ?_; (with_reducible refine (num_Sub.calls 0 a0 t144 t145 _ A2.out).mono ?_); rintro e w' ⟨rfl, ⟨nd, rfl⟩⟩; refine ⟨_, rfl, ?_⟩))
 go_ret2
 exact zW

/-! ### num_size: function 75 -/
def num_size.f (a0 : Int) : Option (Int) := if a0 < 0 then (some (IntKind.u64.wrap (-(IntKind.u64.wrap (a0))))) else (some (IntKind.u64.wrap (a0)))
theorem num_size.calls (a0 : Int) (r : Int) (w : World) (h : num_size.f a0 = some r) :
  Calls Try.prog 75 #[.int .i64 a0] w fun e w' => e = .returned (.int .u64 r) ∧ Drawn0 w w' := by
 have H : (if a0 < 0 then (some (IntKind.u64.wrap (-(IntKind.u64.wrap (a0))))) else (some (IntKind.u64.wrap (a0)))) = some r := h
 clear h
 by_cases c2 : a0 < 0
 ·rw [if_pos c2] at H
  have c2b0 : decide (a0 < 0) = true := decide_eq_true c2; clear c2
  obtain rfl := Option.some.inj H
  go_enter Try.func75, Try.ntmps75
  go_wp2
  go_ret
  exact zW
 ·rw [if_neg c2] at H
  have c2b0 : decide (a0 < 0) = false := decide_eq_false c2; clear c2
  obtain rfl := Option.some.inj H
  go_enter Try.func75, Try.ntmps75
  go_wp2
  go_ret
  exact zW

/-! ### num_signed: function 76 -/
def num_signed.f (a0 : Int) (a1 : Bool) : Option (Int × Bool) := if a1 = true then ((num_told.f (wrap64 (-(wrap64 (a0)))) (decide (a0 ≤ 9223372036854775808))).bind fun bt146 => (some (bt146.1, bt146.2))) else ((num_told.f (wrap64 (a0)) (decide (a0 ≤ 9223372036854775807))).bind fun bt148 => (some (bt148.1, bt148.2)))
theorem num_signed.calls (a0 : Int) (a1 : Bool) (r1 : Int) (r2 : Bool) (w : World) (h : num_signed.f a0 a1 = some (r1, r2)) :
  Calls Try.prog 76 #[.int .u64 a0, .bool a1] w fun e w' => e = .returned (.tuple #[.int .i64 r1, .bool r2]) ∧ Drawn0 w w' := by
 have H : (if a1 = true then ((num_told.f (wrap64 (-(wrap64 (a0)))) (decide (a0 ≤ 9223372036854775808))).bind fun bt146 => (some (bt146.1, bt146.2))) else ((num_told.f (wrap64 (a0)) (decide (a0 ≤ 9223372036854775807))).bind fun bt148 => (some (bt148.1, bt148.2)))) = some (r1, r2) := h
 clear h
 by_cases c3 : a1 = true
 ·subst c3
  have H1 : ((num_told.f (wrap64 (-(wrap64 (a0)))) (decide (a0 ≤ 9223372036854775808))).bind fun bt146 => (some (bt146.1, bt146.2))) = some (r1, r2) := by rw [if_pos rfl] at H; exact H
  clear H; have H := H1
  clear H1; replace H := zob H
  obtain ⟨⟨t146, t147⟩, A40, H⟩ := H
  replace H : (some (t146, t147)) = some (r1, r2) := H
  have A4 := zK A40; clear A40
  simp only [Option.some.injEq, Prod.mk.injEq] at H
  obtain ⟨rfl, rfl⟩ := H
  go_enter Try.func76, Try.ntmps76
  go_wp2_with (first | ((with_reducible refine zC (f := 77) rfl ?_); refine zGo (some 12) Try.func77 #[.int .i64 (wrap64 (-(wrap64 (a0)))), .bool (decide (a0 ≤ 9223372036854775808))] ?_; (with_reducible refine (num_told.calls (wrap64 (-(wrap64 (a0)))) (decide (a0 ≤ 9223372036854775808)) t146 t147 _ A4.out).mono ?_); rintro e w' ⟨rfl, ⟨nd, rfl⟩⟩; refine ⟨_, rfl, ?_⟩))
  go_ret2
  exact zW
 ·replace c3 := Bool.eq_false_iff.mpr c3
  subst c3
  have H1 : ((num_told.f (wrap64 (a0)) (decide (a0 ≤ 9223372036854775807))).bind fun bt148 => (some (bt148.1, bt148.2))) = some (r1, r2) := by rw [if_neg (show ¬ (false = true) by decide)] at H; exact H
  clear H; have H := H1
  clear H1; replace H := zob H
  obtain ⟨⟨t148, t149⟩, A50, H⟩ := H
  replace H : (some (t148, t149)) = some (r1, r2) := H
  have A5 := zK A50; clear A50
  simp only [Option.some.injEq, Prod.mk.injEq] at H
  obtain ⟨rfl, rfl⟩ := H
  go_enter Try.func76, Try.ntmps76
  go_wp2_with (first | ((with_reducible refine zC (f := 77) rfl ?_); refine zGo (some 19) Try.func77 #[.int .i64 (wrap64 (a0)), .bool (decide (a0 ≤ 9223372036854775807))] ?_; (with_reducible refine (num_told.calls (wrap64 (a0)) (decide (a0 ≤ 9223372036854775807)) t148 t149 _ A5.out).mono ?_); rintro e w' ⟨rfl, ⟨nd, rfl⟩⟩; refine ⟨_, rfl, ?_⟩))
  go_ret2
  exact zW

/-! ### num_Mul: function 64 -/
def num_Mul.f (a0 : Int) (a1 : Int) : Option (Int × Bool) := (num_size.f a0).bind fun t150 => ((num_size.f a1).bind fun t151 => ((bits_Mul64.f t150 t151).bind fun bt152 => (if bt152.1 > 0 then (some (0, false)) else ((num_signed.f bt152.2 ((decide (a0 < 0)) != (decide (a1 < 0)))).bind fun bt154 => (some (bt154.1, bt154.2))))))
theorem num_Mul.calls (a0 : Int) (a1 : Int) (r1 : Int) (r2 : Bool) (w : World) (h : num_Mul.f a0 a1 = some (r1, r2)) :
  Calls Try.prog 64 #[.int .i64 a0, .int .i64 a1] w fun e w' => e = .returned (.tuple #[.int .i64 r1, .bool r2]) ∧ Drawn0 w w' := by
 have H : ((num_size.f a0).bind fun t150 => ((num_size.f a1).bind fun t151 => ((bits_Mul64.f t150 t151).bind fun bt152 => (if bt152.1 > 0 then (some (0, false)) else ((num_signed.f bt152.2 ((decide (a0 < 0)) != (decide (a1 < 0)))).bind fun bt154 => (some (bt154.1, bt154.2))))))) = some (r1, r2) := h
 clear h; replace H := zob H
 obtain ⟨t150, A30, H⟩ := H
 replace H : ((num_size.f a1).bind fun t151 => ((bits_Mul64.f t150 t151).bind fun bt152 => (if bt152.1 > 0 then (some (0, false)) else ((num_signed.f bt152.2 ((decide (a0 < 0)) != (decide (a1 < 0)))).bind fun bt154 => (some (bt154.1, bt154.2)))))) = some (r1, r2) := H
 have A3 := zK A30; clear A30; replace H := zob H
 obtain ⟨t151, A40, H⟩ := H
 replace H : ((bits_Mul64.f t150 t151).bind fun bt152 => (if bt152.1 > 0 then (some (0, false)) else ((num_signed.f bt152.2 ((decide (a0 < 0)) != (decide (a1 < 0)))).bind fun bt154 => (some (bt154.1, bt154.2))))) = some (r1, r2) := H
 have A4 := zK A40; clear A40; replace H := zob H
 obtain ⟨⟨t152, t153⟩, A50, H⟩ := H
 replace H : (if t152 > 0 then (some (0, false)) else ((num_signed.f t153 ((decide (a0 < 0)) != (decide (a1 < 0)))).bind fun bt154 => (some (bt154.1, bt154.2)))) = some (r1, r2) := H
 have A5 := zK A50; clear A50
 by_cases c6 : t152 > 0
 ·rw [if_pos c6] at H
  have c6b0 : decide (0 < t152) = true := decide_eq_true c6; clear c6
  simp only [Option.some.injEq, Prod.mk.injEq] at H
  obtain ⟨rfl, rfl⟩ := H
  go_enter Try.func64, Try.ntmps64
  go_wp2_with (first | ((with_reducible refine zC (f := 75) rfl ?_); refine zGo (some 10) Try.func75 #[.int .i64 a0] ?_; (with_reducible refine (num_size.calls a0 t150 _ A3.out).mono ?_); rintro e w' ⟨rfl, ⟨nd, rfl⟩⟩; refine ⟨_, rfl, ?_⟩) | ((with_reducible refine zC (f := 75) rfl ?_); refine zGo (some 12) Try.func75 #[.int .i64 a1] ?_; (with_reducible refine (num_size.calls a1 t151 _ A4.out).mono ?_); rintro e w' ⟨rfl, ⟨nd, rfl⟩⟩; refine ⟨_, rfl, ?_⟩) | ((with_reducible refine zC (f := 67) rfl ?_); refine zGo (some 13) Try.func67 #[.int .u64 t150, .int .u64 t151] ?_; (with_reducible refine (bits_Mul64.calls t150 t151 t152 t153 _ A5.out).mono ?_); rintro e w' ⟨rfl, ⟨nd, rfl⟩⟩; refine ⟨_, rfl, ?_⟩))
  go_ret2
  exact zW
 ·rw [if_neg c6] at H
  have c6b0 : decide (0 < t152) = false := decide_eq_false c6; clear c6
  replace H := zob H
  obtain ⟨⟨t154, t155⟩, A70, H⟩ := H
  replace H : (some (t154, t155)) = some (r1, r2) := H
  have A7 := zK A70; clear A70
  simp only [Option.some.injEq, Prod.mk.injEq] at H
  obtain ⟨rfl, rfl⟩ := H
  go_enter Try.func64, Try.ntmps64
  go_wp2_with (first | ((with_reducible refine zC (f := 75) rfl ?_); refine zGo (some 10) Try.func75 #[.int .i64 a0] ?_; (with_reducible refine (num_size.calls a0 t150 _ A3.out).mono ?_); rintro e w' ⟨rfl, ⟨nd, rfl⟩⟩; refine ⟨_, rfl, ?_⟩) | ((with_reducible refine zC (f := 75) rfl ?_); refine zGo (some 12) Try.func75 #[.int .i64 a1] ?_; (with_reducible refine (num_size.calls a1 t151 _ A4.out).mono ?_); rintro e w' ⟨rfl, ⟨nd, rfl⟩⟩; refine ⟨_, rfl, ?_⟩) | ((with_reducible refine zC (f := 67) rfl ?_); refine zGo (some 13) Try.func67 #[.int .u64 t150, .int .u64 t151] ?_; (with_reducible refine (bits_Mul64.calls t150 t151 t152 t153 _ A5.out).mono ?_); rintro e w' ⟨rfl, ⟨nd, rfl⟩⟩; refine ⟨_, rfl, ?_⟩) | ((with_reducible refine zC (f := 76) rfl ?_); refine zGo (some 24) Try.func76 #[.int .u64 t153, .bool ((decide (a0 < 0)) != (decide (a1 < 0)))] ?_; (with_reducible refine (num_signed.calls t153 ((decide (a0 < 0)) != (decide (a1 < 0))) t154 t155 _ A7.out).mono ?_); rintro e w' ⟨rfl, ⟨nd, rfl⟩⟩; refine ⟨_, rfl, ?_⟩))
  go_ret2
  exact zW

/-! ### num_Add: function 65 -/
def num_Add.f (a0 : Int) (a1 : Int) : Option (Int × Bool) := (num_told.f (wrap64 (a0 + a1)) ((decide ((wrap64 (a0 + a1)) > a0)) == (decide (a1 > 0)))).bind fun bt156 => (some (bt156.1, bt156.2))
theorem num_Add.calls (a0 : Int) (a1 : Int) (r1 : Int) (r2 : Bool) (w : World) (h : num_Add.f a0 a1 = some (r1, r2)) :
  Calls Try.prog 65 #[.int .i64 a0, .int .i64 a1] w fun e w' => e = .returned (.tuple #[.int .i64 r1, .bool r2]) ∧ Drawn0 w w' := by
 have H : ((num_told.f (wrap64 (a0 + a1)) ((decide ((wrap64 (a0 + a1)) > a0)) == (decide (a1 > 0)))).bind fun bt156 => (some (bt156.1, bt156.2))) = some (r1, r2) := h
 clear h; replace H := zob H
 obtain ⟨⟨t156, t157⟩, A30, H⟩ := H
 replace H : (some (t156, t157)) = some (r1, r2) := H
 have A3 := zK A30; clear A30
 simp only [Option.some.injEq, Prod.mk.injEq] at H
 obtain ⟨rfl, rfl⟩ := H
 go_enter Try.func65, Try.ntmps65
 go_wp2_with (first | ((with_reducible refine zC (f := 77) rfl ?_); refine zGo (some 17) Try.func77 #[.int .i64 (wrap64 (a0 + a1)), .bool ((decide ((wrap64 (a0 + a1)) > a0)) == (decide (a1 > 0)))] ?_; (with_reducible refine (num_told.calls (wrap64 (a0 + a1)) ((decide ((wrap64 (a0 + a1)) > a0)) == (decide (a1 > 0))) t156 t157 _ A3.out).mono ?_); rintro e w' ⟨rfl, ⟨nd, rfl⟩⟩; refine ⟨_, rfl, ?_⟩))
 go_ret2
 exact zW

end Go.Proofs.Ytjinmlpekecmbaa.PEuclidNone
