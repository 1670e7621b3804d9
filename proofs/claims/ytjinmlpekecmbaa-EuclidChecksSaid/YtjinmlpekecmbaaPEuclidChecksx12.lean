/- What the call of each function that the law reaches comes to, and the law out of its plain form; no condition but what stands in each theorem. -/
import Derived.Test.YtjinmlpekecmbaaPEuclidChecksx0
namespace Go.Proofs.Ytjinmlpekecmbaa.PEuclidChecks
open Go.RowKit Go.Proofs.YtjinmlpekecmbaaW.PrintWords Go.Proofs.YtjinmlpekecmbaaW.PrintLast Go.Proofs.YtjinmlpekecmbaaW.PrintMore
open Go.Proofs.YtjinmlpekecmbaaW.PrintWords renaming blk_drewN → zN, blk_drew → zD, blk_alloc → zA, below_alloc → yA, pw_below_drewN → yN, below_drew1 → yD, below_set → yS, gate_callee → zC
open Go.Proofs.YtjinmlpekecmbaaW.PrintWords.Aside0 renaming mk → zK
attribute [local go_sem] max2_int min2_int max_two min_two max_three min_three max_four min_four
set_option linter.unusedVariables false
set_option maxHeartbeats 8000000
set_option maxRecDepth 100000
set_option linter.unusedSimpArgs false

/-! ### sequiturref01_Fits: function 55 -/
def sequiturref01_Fits.f (a0_0 : Int) (a0_1 : Int) : Option (Int × Bool) := if a0_0 = 0 then (if (wrap64 (a0_1)) ≥ 0 then (some (wrap64 (a0_1), true)) else (if a0_0 = (-1) then (if (wrap64 (a0_1)) < 0 then (some (wrap64 (a0_1), true)) else (some (0, false))) else (some (0, false)))) else (if a0_0 = (-1) then (if (wrap64 (a0_1)) < 0 then (some (wrap64 (a0_1), true)) else (some (0, false))) else (some (0, false)))
theorem sequiturref01_Fits.calls (a0_0 : Int) (a0_1 : Int) (r1 : Int) (r2 : Bool) (w : World) (h : sequiturref01_Fits.f a0_0 a0_1 = some (r1, r2)) :
  Calls Try.prog 55 #[.agg #[.int .i64 a0_0, .int .u64 a0_1]] w fun e w' => e = .returned (.tuple #[.int .i64 r1, .bool r2]) ∧ Below w.heap.size w w' := by
 have hu78 := Try.underlying78
 have HB := zK (Below.refl w.heap.size w)
 have H : (if a0_0 = 0 then (if (wrap64 (a0_1)) ≥ 0 then (some (wrap64 (a0_1), true)) else (if a0_0 = (-1) then (if (wrap64 (a0_1)) < 0 then (some (wrap64 (a0_1), true)) else (some (0, false))) else (some (0, false)))) else (if a0_0 = (-1) then (if (wrap64 (a0_1)) < 0 then (some (wrap64 (a0_1), true)) else (some (0, false))) else (some (0, false)))) = some (r1, r2) := h
 clear h
 by_cases c2 : a0_0 = 0
 ·rw [if_pos c2] at H
  have c2b0 : (a0_0 == 0) = true := beq_iff_eq.mpr c2
  have c2b1 : (a0_0 != 0) = false := bne_eq_false_iff_eq.mpr c2; clear c2
  by_cases c3 : (wrap64 (a0_1)) ≥ 0
  ·rw [if_pos c3] at H
   have c3b0 : decide (0 ≤ (wrap64 (a0_1))) = true := decide_eq_true c3
   clear c3
   simp only [Option.some.injEq, Prod.mk.injEq] at H
   obtain ⟨rfl, rfl⟩ := H
   go_enter Try.func55, Try.ntmps55
   go_wp2_with (first | ((with_reducible refine gate_dst (N := 1) rfl ?_); refine zBx HB (cs := #[.int .i64 a0_0, .int .u64 a0_1]) (t := 78) ?_; clear HB; intro gb356 hg w4 BK356 GW356 hb HB; clear hb hg; have hcz5_0 := zc0 BK356; have hcz5_1 := zc1 BK356; have hfz5_0 := zfz BK356 0; have hfz5_1 := zfz BK356 1))
   go_ret2
   exact zR (h := zo HB)
  ·rw [if_neg c3] at H
   have c3b0 : decide (0 ≤ (wrap64 (a0_1))) = false := decide_eq_false c3
   clear c3
   by_cases c6 : a0_0 = (-1)
   ·rw [if_pos c6] at H
    have c6b0 : (a0_0 == (-1)) = true := beq_iff_eq.mpr c6
    have c6b1 : (a0_0 != (-1)) = false := bne_eq_false_iff_eq.mpr c6; clear c6
    by_cases c7 : (wrap64 (a0_1)) < 0
    ·rw [if_pos c7] at H
     have c7b0 : decide ((wrap64 (a0_1)) < 0) = true := decide_eq_true c7
     clear c7
     simp only [Option.some.injEq, Prod.mk.injEq] at H
     obtain ⟨rfl, rfl⟩ := H
     go_enter Try.func55, Try.ntmps55
     go_wp2_with (first | ((with_reducible refine gate_dst (N := 1) rfl ?_); refine zBx HB (cs := #[.int .i64 a0_0, .int .u64 a0_1]) (t := 78) ?_; clear HB; intro gb356 hg w8 BK356 GW356 hb HB; clear hb hg; have hcz9_0 := zc0 BK356; have hcz9_1 := zc1 BK356; have hfz9_0 := zfz BK356 0; have hfz9_1 := zfz BK356 1))
     go_ret2
     exact zR (h := zo HB)
    ·rw [if_neg c7] at H
     have c7b0 : decide ((wrap64 (a0_1)) < 0) = false := decide_eq_false c7
     clear c7
     simp only [Option.some.injEq, Prod.mk.injEq] at H
     obtain ⟨rfl, rfl⟩ := H
     go_enter Try.func55, Try.ntmps55
     go_wp2_with (first | ((with_reducible refine gate_dst (N := 1) rfl ?_); refine zBx HB (cs := #[.int .i64 a0_0, .int .u64 a0_1]) (t := 78) ?_; clear HB; intro gb356 hg w10 BK356 GW356 hb HB; clear hb hg; have hcz11_0 := zc0 BK356; have hcz11_1 := zc1 BK356; have hfz11_0 := zfz BK356 0; have hfz11_1 := zfz BK356 1))
     go_ret2
     exact zR (h := zo HB)
   ·rw [if_neg c6] at H
    have c6b0 : (a0_0 == (-1)) = false := beq_eq_false_iff_ne.mpr c6
    have c6b1 : (a0_0 != (-1)) = true := bne_iff_ne.mpr c6
    simp only [Option.some.injEq, Prod.mk.injEq] at H
    obtain ⟨rfl, rfl⟩ := H
    go_enter Try.func55, Try.ntmps55
    go_wp2_with (first | ((with_reducible refine gate_dst (N := 1) rfl ?_); refine zBx HB (cs := #[.int .i64 a0_0, .int .u64 a0_1]) (t := 78) ?_; clear HB; intro gb356 hg w12 BK356 GW356 hb HB; clear hb hg; have hcz13_0 := zc0 BK356; have hcz13_1 := zc1 BK356; have hfz13_0 := zfz BK356 0; have hfz13_1 := zfz BK356 1))
    go_ret2
    exact zR (h := zo HB)
 ·rw [if_neg c2] at H
  have c2b0 : (a0_0 == 0) = false := beq_eq_false_iff_ne.mpr c2
  have c2b1 : (a0_0 != 0) = true := bne_iff_ne.mpr c2
  by_cases c14 : a0_0 = (-1)
  ·rw [if_pos c14] at H
   have c14b0 : (a0_0 == (-1)) = true := beq_iff_eq.mpr c14
   have c14b1 : (a0_0 != (-1)) = false := bne_eq_false_iff_eq.mpr c14
   clear c14
   by_cases c15 : (wrap64 (a0_1)) < 0
   ·rw [if_pos c15] at H
    have c15b0 : decide ((wrap64 (a0_1)) < 0) = true := decide_eq_true c15
    clear c15
    simp only [Option.some.injEq, Prod.mk.injEq] at H
    obtain ⟨rfl, rfl⟩ := H
    go_enter Try.func55, Try.ntmps55
    go_wp2_with (first | ((with_reducible refine gate_dst (N := 1) rfl ?_); refine zBx HB (cs := #[.int .i64 a0_0, .int .u64 a0_1]) (t := 78) ?_; clear HB; intro gb356 hg w16 BK356 GW356 hb HB; clear hb hg; have hcz17_0 := zc0 BK356; have hcz17_1 := zc1 BK356; have hfz17_0 := zfz BK356 0; have hfz17_1 := zfz BK356 1))
    go_ret2
    exact zR (h := zo HB)
   ·rw [if_neg c15] at H
    have c15b0 : decide ((wrap64 (a0_1)) < 0) = false := decide_eq_false c15
    clear c15
    simp only [Option.some.injEq, Prod.mk.injEq] at H
    obtain ⟨rfl, rfl⟩ := H
    go_enter Try.func55, Try.ntmps55
    go_wp2_with (first | ((with_reducible refine gate_dst (N := 1) rfl ?_); refine zBx HB (cs := #[.int .i64 a0_0, .int .u64 a0_1]) (t := 78) ?_; clear HB; intro gb356 hg w18 BK356 GW356 hb HB; clear hb hg; have hcz19_0 := zc0 BK356; have hcz19_1 := zc1 BK356; have hfz19_0 := zfz BK356 0; have hfz19_1 := zfz BK356 1))
    go_ret2
    exact zR (h := zo HB)
  ·rw [if_neg c14] at H
   have c14b0 : (a0_0 == (-1)) = false := beq_eq_false_iff_ne.mpr c14
   have c14b1 : (a0_0 != (-1)) = true := bne_iff_ne.mpr c14
   simp only [Option.some.injEq, Prod.mk.injEq] at H
   obtain ⟨rfl, rfl⟩ := H
   go_enter Try.func55, Try.ntmps55
   go_wp2_with (first | ((with_reducible refine gate_dst (N := 1) rfl ?_); refine zBx HB (cs := #[.int .i64 a0_0, .int .u64 a0_1]) (t := 78) ?_; clear HB; intro gb356 hg w20 BK356 GW356 hb HB; clear hb hg; have hcz21_0 := zc0 BK356; have hcz21_1 := zc1 BK356; have hfz21_0 := zfz BK356 0; have hfz21_1 := zfz BK356 1))
   go_ret2
   exact zR (h := zo HB)

/-! ### sequiturref28_Fits: function 37 -/
def sequiturref28_Fits.f (a0_0 : Int) (a0_1 : Int) (a0_2 : Int) : Option (Int × Bool) := (sequiturref01_Fits.f a0_0 a0_1).bind fun bt358 => (if bt358.2 = true then ((sequiturref01_Fits.f bt358.1 a0_2).bind fun bt360 => (some (bt360.1, bt360.2))) else (some (0, false)))
theorem sequiturref28_Fits.calls (a0_0 : Int) (a0_1 : Int) (a0_2 : Int) (r1 : Int) (r2 : Bool) (w : World) (h : sequiturref28_Fits.f a0_0 a0_1 a0_2 = some (r1, r2)) :
  Calls Try.prog 37 #[.agg #[.int .i64 a0_0, .int .u64 a0_1, .int .u64 a0_2]] w fun e w' => e = .returned (.tuple #[.int .i64 r1, .bool r2]) ∧ Below w.heap.size w w' := by
 have hu80 := Try.underlying80
 have hu78 := Try.underlying78
 have HB := zK (Below.refl w.heap.size w)
 have H : ((sequiturref01_Fits.f a0_0 a0_1).bind fun bt358 => (if bt358.2 = true then ((sequiturref01_Fits.f bt358.1 a0_2).bind fun bt360 => (some (bt360.1, bt360.2))) else (some (0, false)))) = some (r1, r2) := h
 clear h; replace H := zob H
 obtain ⟨⟨t358, t359⟩, A20, H⟩ := H
 replace H : (if t359 = true then ((sequiturref01_Fits.f t358 a0_2).bind fun bt360 => (some (bt360.1, bt360.2))) else (some (0, false))) = some (r1, r2) := H
 have A2 := zK A20; clear A20
 by_cases c3 : t359 = true
 ·subst c3
  have H1 : ((sequiturref01_Fits.f t358 a0_2).bind fun bt360 => (some (bt360.1, bt360.2))) = some (r1, r2) := by rw [if_pos rfl] at H; exact H
  clear H; have H := H1
  clear H1; replace H := zob H
  obtain ⟨⟨t360, t361⟩, A40, H⟩ := H
  replace H : (some (t360, t361)) = some (r1, r2) := H
  have A4 := zK A40; clear A40
  simp only [Option.some.injEq, Prod.mk.injEq] at H
  obtain ⟨rfl, rfl⟩ := H
  go_enter Try.func37, Try.ntmps37
  go_wp2_with (first | ((with_reducible refine gate_dst (N := 1) rfl ?_); refine zBx HB (cs := #[.int .i64 a0_0, .int .u64 a0_1, .int .u64 a0_2]) (t := 80) ?_; clear HB; intro gb357 hg w5 BK357 GW357 hb HB; clear hb hg; have hcz6_0 := zc0 BK357; have hcz6_1 := zc1 BK357; have hcz6_2 := zc2 BK357; have hfz6_0 := zfz BK357 0; have hfz6_1 := zfz BK357 1; have hfz6_2 := zfz BK357 2) | ((with_reducible refine zC (f := 55) rfl ?_); refine zGo (some 9) Try.func55 #[.agg #[.int .i64 a0_0, .int .u64 a0_1]] ?_; (with_reducible refine (sequiturref01_Fits.calls a0_0 a0_1 t358 true _ A2.out).mono ?_); rintro e w7 ⟨rfl, hb⟩; refine ⟨_, rfl, ?_⟩; replace BK357 := zbb BK357 hb; replace HB := zst HB hb; clear hb; have hcz8_0 := zc0 BK357; have hcz8_1 := zc1 BK357; have hcz8_2 := zc2 BK357; have hfz8_0 := zfz BK357 0; have hfz8_1 := zfz BK357 1; have hfz8_2 := zfz BK357 2) | ((with_reducible refine zC (f := 55) rfl ?_); refine zGo (some 18) Try.func55 #[.agg #[.int .i64 t358, .int .u64 a0_2]] ?_; (with_reducible refine (sequiturref01_Fits.calls t358 a0_2 t360 t361 _ A4.out).mono ?_); rintro e w9 ⟨rfl, hb⟩; refine ⟨_, rfl, ?_⟩; replace BK357 := zbb BK357 hb; replace HB := zst HB hb; clear hb))
  go_ret2
  exact zR (h := zo HB)
 ·replace c3 := Bool.eq_false_iff.mpr c3
  subst c3
  have H1 : (some (0, false)) = some (r1, r2) := by rw [if_neg (show ¬ (false = true) by decide)] at H; exact H
  clear H; have H := H1; clear H1
  simp only [Option.some.injEq, Prod.mk.injEq] at H
  obtain ⟨rfl, rfl⟩ := H
  go_enter Try.func37, Try.ntmps37
  go_wp2_with (first | ((with_reducible refine gate_dst (N := 1) rfl ?_); refine zBx HB (cs := #[.int .i64 a0_0, .int .u64 a0_1, .int .u64 a0_2]) (t := 80) ?_; clear HB; intro gb357 hg w10 BK357 GW357 hb HB; clear hb hg; have hcz11_0 := zc0 BK357; have hcz11_1 := zc1 BK357; have hcz11_2 := zc2 BK357; have hfz11_0 := zfz BK357 0; have hfz11_1 := zfz BK357 1; have hfz11_2 := zfz BK357 2) | ((with_reducible refine zC (f := 55) rfl ?_); refine zGo (some 9) Try.func55 #[.agg #[.int .i64 a0_0, .int .u64 a0_1]] ?_; (with_reducible refine (sequiturref01_Fits.calls a0_0 a0_1 t358 false _ A2.out).mono ?_); rintro e w12 ⟨rfl, hb⟩; refine ⟨_, rfl, ?_⟩; replace BK357 := zbb BK357 hb; replace HB := zst HB hb; clear hb))
  go_ret2
  exact zR (h := zo HB)

/-! ### sequiturref28_By: function 38 -/
def sequiturref28_By.l0 : Nat → Int → Int → Int → List (S44) → Option (Int)
 | 0, _, _, _, _ => none
 | k + 1, x1, x5, x363000, x363001 => if x5 < (x363001.length : Int) then (if 0 ≤ x5 then (if ((rd_T44 x363001 x5).f0) = x1 then (some ((rd_T44 x363001 x5).f1)) else (sequiturref28_By.l0 k x1 (wrap64 (x5 + 1)) x363000 x363001)) else (none)) else (some 0)
def sequiturref28_By.f (k : Nat) (a0_0 : Int) (l0_1 : List (S44)) (a1 : Int) : Option (Int) := sequiturref28_By.l0 k a1 0 a0_0 l0_1
theorem sequiturref28_By.mono_l : ∀ k, (∀ y0 y1 y2 y3, LeO (sequiturref28_By.l0 k y0 y1 y2 y3) (sequiturref28_By.l0 (k + 1) y0 y1 y2 y3))
 | 0 => fun _ _ _ _ r h => by simp [sequiturref28_By.l0] at h
 | k + 1 => by
  have ih0 := sequiturref28_By.mono_l k
  ·intro y0 y1 y2 y3
   unfold sequiturref28_By.l0
   repeat' first | (with_reducible first | exact ih0 .. | exact LeO.refl _ | exact LeO.none _ | refine LeO.ite ?_ ?_ | refine LeO.bind ?_ (fun _ => ?_)) | exact ih0 .. | exact LeO.none _ | refine LeO.ite ?_ ?_ | refine LeO.bind ?_ (fun _ => ?_)
theorem sequiturref28_By.mono : ∀ a0 a1 a2 k, LeO (sequiturref28_By.f k a0 a1 a2) (sequiturref28_By.f (k + 1) a0 a1 a2) := by
 intro a0 a1 a2 k
 have ih0 := sequiturref28_By.mono_l k
 unfold sequiturref28_By.f
 repeat' first | (with_reducible first | exact ih0 .. | exact LeO.refl _ | exact LeO.none _ | refine LeO.ite ?_ ?_ | refine LeO.bind ?_ (fun _ => ?_)) | exact ih0 .. | exact LeO.none _ | refine LeO.ite ?_ ?_ | refine LeO.bind ?_ (fun _ => ?_)
theorem sequiturref28_By.calls (k : Nat) (a0_0 : Int) (A0_1 : Option Addr) (c0_1 : Nat) (l0_1 : List (S44)) (a1 : Int) (r : Int) (w : World) (hr0_1 : Kd.C k44 w A0_1 l0_1.length l0_1) (hc0_1 : l0_1.length ≤ c0_1) (h : sequiturref28_By.f k a0_0 l0_1 a1 = some r) :
  Calls Try.prog 38 #[.agg #[.int .i64 a0_0, .slice A0_1 l0_1.length c0_1], .int .i64 a1] w fun e w' => e = .returned (.int .i64 r) ∧ Below w.heap.size w w' := by
 have hu41 := Try.underlying41
 have HR0_1 := zK hr0_1
 have HC0_1 := zK hc0_1; clear hr0_1 hc0_1
 have HB := zK (Below.refl w.heap.size w)
 have H : (sequiturref28_By.l0 k a1 0 a0_0 l0_1) = some r := h; clear h
 have H' := zK H; clear H
 go_enter Try.func38, Try.ntmps38
 go_wp2_with (first | ((with_reducible refine gate_dst (N := 2) rfl ?_); refine zBx HB (cs := #[.int .i64 a0_0, .slice A0_1 l0_1.length c0_1]) (t := 41) ?_; clear HB; intro gb362 hg w3 BK362 GW362 hb HB; clear hb hg))
 go_loopg [5] k (fun kq v5 w' => ∃ (x5_1 : Int), v5 = .int .i64 x5_1 ∧ Aside0 (sequiturref28_By.l0 kq a1 x5_1 a0_0 l0_1 = some r) ∧ Aside0 (kq ≤ k) ∧ Aside0 (w'.heap[gb362]? = some (.cells #[.int .i64 a0_0, (.slice A0_1 l0_1.length c0_1)] 41 (0, 0))) ∧ Aside0 (Below w.heap.size w w'))
 case atStart => exact ⟨(0), (by first | rfl | (simp; done) | (simp [*]; done)), H', ⟨Nat.le_refl _⟩, ⟨zb BK362⟩, ⟨zo HB⟩⟩
 case round =>
  clear H'; try clear p2; try clear c3
  obtain ⟨x5_1, rfl, HA, HK1, BK362, HB⟩ := hrel
  cases gk with
  | zero => exact absurd HA.out (by simp [sequiturref28_By.l0])
  | succ k1 =>
   have H := HA.out; clear HA
   simp only [sequiturref28_By.l0] at H
   by_cases c4 : x5_1 < (l0_1.length : Int)
   ·rw [if_pos c4] at H
    have c4b0 : decide (x5_1 < (l0_1.length : Int)) = true := decide_eq_true c4
    clear c4
    by_cases c5 : 0 ≤ x5_1
    ·rw [if_pos c5] at H
     have c5b0 : decide (0 ≤ x5_1) = true := decide_eq_true c5; clear c5
     by_cases c6 : ((rd_T44 l0_1 x5_1).f0) = a1
     ·rw [if_pos c6] at H
      have c6b0 : (((rd_T44 l0_1 x5_1).f0) == a1) = true := beq_iff_eq.mpr c6
      have c6b1 : (((rd_T44 l0_1 x5_1).f0) != a1) = false := bne_eq_false_iff_eq.mpr c6
      clear c6
      obtain rfl := Option.some.inj H
      have hcz7_0 := zc0 BK362
      have hcz7_1 := zc1 BK362
      have hfz7_0 := zfz BK362 0
      have hfz7_1 := zfz BK362 1
      have p363 : 0 ≤ (x5_1 : Int) := zdt
      have q363 : x5_1 < (l0_1.length : Int) := zdt
      obtain ⟨ad363, e363, hx363_0, hx363_1⟩ := at_T44 HR0_1.out x5_1 p363 q363
      cases e363
      replace hx363_0 := zcl HB hx363_0
      replace hx363_1 := zcl HB hx363_1
      replace p363 := eq_true p363
      replace q363 := eq_true q363
      have p364 : 0 ≤ (x5_1 : Int) := zdt
      have q364 : x5_1 < (l0_1.length : Int) := zdt
      obtain ⟨ad364, e364, hx364_0, hx364_1⟩ := at_T44 HR0_1.out x5_1 p364 q364
      obtain rfl : ad363 = ad364 := (by injection e364)
      replace hx364_0 := zcl HB hx364_0
      replace hx364_1 := zcl HB hx364_1
      replace p364 := eq_true p364
      replace q364 := eq_true q364
      go_wp2
      go_ret
      exact zR (h := zo HB)
     ·rw [if_neg c6] at H
      have c6b0 : (((rd_T44 l0_1 x5_1).f0) == a1) = false := beq_eq_false_iff_ne.mpr c6
      have c6b1 : (((rd_T44 l0_1 x5_1).f0) != a1) = true := bne_iff_ne.mpr c6
      have H' := zK H; clear H
      have hcz8_0 := zc0 BK362
      have hcz8_1 := zc1 BK362
      have hfz8_0 := zfz BK362 0
      have hfz8_1 := zfz BK362 1
      have p363 : 0 ≤ (x5_1 : Int) := zdt
      have q363 : x5_1 < (l0_1.length : Int) := zdt
      obtain ⟨ad363, e363, hx363_0, hx363_1⟩ := at_T44 HR0_1.out x5_1 p363 q363
      cases e363
      replace hx363_0 := zcl HB hx363_0
      replace hx363_1 := zcl HB hx363_1
      replace p363 := eq_true p363
      replace q363 := eq_true q363
      go_wp2
      go_roundg k1
      case measure => have := HK1.out; omega
      case rel => exact ⟨(wrap64 (x5_1 + 1)), (by first | rfl | (simp; done) | (simp [*]; done)), H', ⟨by have := HK1.out; omega⟩, ⟨zb BK362⟩, ⟨zo HB⟩⟩
    ·rw [if_neg c5] at H
     exact absurd H (by simp)
   ·rw [if_neg c4] at H
    have c4b0 : decide (x5_1 < (l0_1.length : Int)) = false := decide_eq_false c4
    clear c4
    obtain rfl := Option.some.inj H
    have hcz9_0 := zc0 BK362
    have hcz9_1 := zc1 BK362
    have hfz9_0 := zfz BK362 0
    have hfz9_1 := zfz BK362 1
    go_wp2
    go_ret
    exact zR (h := zo HB)

end Go.Proofs.Ytjinmlpekecmbaa.PEuclidChecks
