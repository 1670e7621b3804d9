/- What the call of each function that the law reaches comes to, and the law out of its plain form; no condition but what stands in each theorem. -/
import Derived.Test.YtjinmlpekecmbaaPEuclidNonex0
namespace Go.Proofs.Ytjinmlpekecmbaa.PEuclidNone
open Go.RowKit Go.Proofs.YtjinmlpekecmbaaW.PrintWords Go.Proofs.YtjinmlpekecmbaaW.PrintLast Go.Proofs.YtjinmlpekecmbaaW.PrintMore
open Go.Proofs.YtjinmlpekecmbaaW.PrintWords renaming blk_drewN → zN, blk_drew → zD, blk_alloc → zA, below_alloc → yA, pw_below_drewN → yN, below_drew1 → yD, below_set → yS, gate_callee → zC
open Go.Proofs.YtjinmlpekecmbaaW.PrintWords.Kd renaming C_alloc → cA, C_drewN → cN, C_drew → cD
open Go.Proofs.YtjinmlpekecmbaaW.PrintWords.Aside0 renaming mk → zK
attribute [local go_sem] max2_int min2_int max_two min_two max_three min_three max_four min_four
set_option linter.unusedVariables false
set_option maxHeartbeats 8000000
set_option maxRecDepth 100000
set_option linter.unusedSimpArgs false

/-! ### sequiturlaw29_few: function 9 -/
def sequiturlaw29_few.l0 : Nat → List (S41) → Int → Int → Option (Bool)
 | 0, _, _, _ => none
 | k + 1, x8, x9, x10 => if x10 < x9 then (if 0 ≤ x10 then (if x10 < (x8.length : Int) then (if (((rd_T41 x8 x10).f1).length : Int) > 80 then (some false) else (sequiturlaw29_few.l0 k x8 x9 (wrap64 (x10 + 1)))) else (none)) else (none)) else (some true)
def sequiturlaw29_few.f (k : Nat) (l0 : List (S41)) : Option (Bool) := if (l0.length : Int) > 80 then (some false) else (sequiturlaw29_few.l0 k l0 (l0.length : Int) 0)
theorem sequiturlaw29_few.mono_l : ∀ k, (∀ y0 y1 y2, LeO (sequiturlaw29_few.l0 k y0 y1 y2) (sequiturlaw29_few.l0 (k + 1) y0 y1 y2))
 | 0 => fun _ _ _ r h => by simp [sequiturlaw29_few.l0] at h
 | k + 1 => by
  have ih0 := sequiturlaw29_few.mono_l k
  ·intro y0 y1 y2
   unfold sequiturlaw29_few.l0
   repeat' first | (with_reducible first | exact ih0 .. | exact LeO.refl _ | exact LeO.none _ | refine LeO.ite ?_ ?_ | refine LeO.bind ?_ (fun _ => ?_)) | exact ih0 .. | exact LeO.none _ | refine LeO.ite ?_ ?_ | refine LeO.bind ?_ (fun _ => ?_)
theorem sequiturlaw29_few.mono : ∀ a0 k, LeO (sequiturlaw29_few.f k a0) (sequiturlaw29_few.f (k + 1) a0) := by
 intro a0 k
 have ih0 := sequiturlaw29_few.mono_l k
 unfold sequiturlaw29_few.f
 repeat' first | (with_reducible first | exact ih0 .. | exact LeO.refl _ | exact LeO.none _ | refine LeO.ite ?_ ?_ | refine LeO.bind ?_ (fun _ => ?_)) | exact ih0 .. | exact LeO.none _ | refine LeO.ite ?_ ?_ | refine LeO.bind ?_ (fun _ => ?_)
theorem sequiturlaw29_few.calls (k : Nat) (A0 : Option Addr) (c0 : Nat) (l0 : List (S41)) (r : Bool) (w : World) (hr0 : Kd.C k41 w A0 l0.length l0) (hc0 : l0.length ≤ c0) (h : sequiturlaw29_few.f k l0 = some r) :
  Calls Try.prog 9 #[.slice A0 l0.length c0] w fun e w' => e = .returned (.bool r) ∧ Below w.heap.size w w' := by
 have hu41 := Try.underlying41
 have HR0 := zK hr0
 have HC0 := zK hc0; clear hr0 hc0
 have HB := zK (Below.refl w.heap.size w)
 have H : (if (l0.length : Int) > 80 then (some false) else (sequiturlaw29_few.l0 k l0 (l0.length : Int) 0)) = some r := h
 clear h
 by_cases c2 : (l0.length : Int) > 80
 ·rw [if_pos c2] at H
  have c2b0 : decide (80 < (l0.length : Int)) = true := decide_eq_true c2
  have c2b1 : decide (80 < l0.length) = true := decide_eq_true (by omega)
  clear c2
  obtain rfl := Option.some.inj H
  go_enter Try.func9, Try.ntmps9
  go_wp2
  go_ret
  exact zR (h := zo HB)
 ·rw [if_neg c2] at H
  have c2b0 : decide (80 < (l0.length : Int)) = false := decide_eq_false c2
  have c2b1 : decide (80 < l0.length) = false := decide_eq_false (by omega)
  clear c2
  have H' := zK H; clear H
  go_enter Try.func9, Try.ntmps9
  go_wp2
  go_loopg [10] k (fun kq v10 w' => ∃ (x10_1 : Int), v10 = .int .i64 x10_1 ∧ Aside0 (sequiturlaw29_few.l0 kq l0 (l0.length : Int) x10_1 = some r) ∧ Aside0 (kq ≤ k) ∧ Aside0 (Below w.heap.size w w'))
  case atStart => exact ⟨(0), (by first | rfl | (simp; done) | (simp [*]; done)), H', ⟨Nat.le_refl _⟩, ⟨zo HB⟩⟩
  case round =>
   clear H'; try clear c2; try clear c2b0; try clear c2b1; try clear p2
   obtain ⟨x10_1, rfl, HA, HK1, HB⟩ := hrel
   cases gk with
   | zero => exact absurd HA.out (by simp [sequiturlaw29_few.l0])
   | succ k1 =>
    have H := HA.out; clear HA
    simp only [sequiturlaw29_few.l0] at H
    by_cases c3 : x10_1 < (l0.length : Int)
    ·rw [if_pos c3] at H
     have c3b0 : decide (x10_1 < (l0.length : Int)) = true := decide_eq_true c3
     clear c3
     by_cases c4 : 0 ≤ x10_1
     ·rw [if_pos c4] at H
      have c4b0 : decide (0 ≤ x10_1) = true := decide_eq_true c4; clear c4
      by_cases c5 : x10_1 < (l0.length : Int)
      ·rw [if_pos c5] at H
       have c5b0 : decide (x10_1 < (l0.length : Int)) = true := decide_eq_true c5
       clear c5
       by_cases c6 : (((rd_T41 l0 x10_1).f1).length : Int) > 80
       ·rw [if_pos c6] at H
        have c6b0 : decide (80 < (((rd_T41 l0 x10_1).f1).length : Int)) = true := decide_eq_true c6
        have c6b1 : decide (80 < ((rd_T41 l0 x10_1).f1).length) = true := decide_eq_true (by omega)
        clear c6
        obtain rfl := Option.some.inj H
        have p101 : 0 ≤ (x10_1 : Int) := zdt
        have q101 : x10_1 < (l0.length : Int) := zdt
        obtain ⟨ad101, A101_1, c101_1, e101, hx101_0, hx101_1, hl101_1, hi101_1⟩ := at_T41 HR0.out x10_1 p101 q101
        cases e101
        replace hx101_0 := zcl HB hx101_0
        replace hx101_1 := zcl HB hx101_1
        have HR101_1 := zK hi101_1
        have HC101_1 := zK hl101_1; clear hi101_1 hl101_1
        replace p101 := eq_true p101
        replace q101 := eq_true q101
        go_wp2_with (first | ((with_reducible refine gate_dst (N := 4) rfl ?_); refine zBx HB (cs := #[.int .i64 0, .slice none 0 0]) (t := 41) ?_; clear HB; intro gb102 hg w7 BK102 GW102 hb HB; clear hb hg; have hcz8_0 := zc0 BK102; have hcz8_1 := zc1 BK102; have hfz8_0 := zfz BK102 0; have hfz8_1 := zfz BK102 1))
        go_ret
        exact zR (h := zo HB)
       ·rw [if_neg c6] at H
        have c6b0 : decide (80 < (((rd_T41 l0 x10_1).f1).length : Int)) = false := decide_eq_false c6
        have c6b1 : decide (80 < ((rd_T41 l0 x10_1).f1).length) = false := decide_eq_false (by omega)
        clear c6
        have H' := zK H; clear H
        have p101 : 0 ≤ (x10_1 : Int) := zdt
        have q101 : x10_1 < (l0.length : Int) := zdt
        obtain ⟨ad101, A101_1, c101_1, e101, hx101_0, hx101_1, hl101_1, hi101_1⟩ := at_T41 HR0.out x10_1 p101 q101
        cases e101
        replace hx101_0 := zcl HB hx101_0
        replace hx101_1 := zcl HB hx101_1
        have HR101_1 := zK hi101_1
        have HC101_1 := zK hl101_1; clear hi101_1 hl101_1
        replace p101 := eq_true p101
        replace q101 := eq_true q101
        go_wp2_with (first | ((with_reducible refine gate_dst (N := 4) rfl ?_); refine zBx HB (cs := #[.int .i64 0, .slice none 0 0]) (t := 41) ?_; clear HB; intro gb102 hg w9 BK102 GW102 hb HB; clear hb hg; have hcz10_0 := zc0 BK102; have hcz10_1 := zc1 BK102; have hfz10_0 := zfz BK102 0; have hfz10_1 := zfz BK102 1))
        go_roundg k1
        case measure => have := HK1.out; omega
        case rel => exact ⟨(wrap64 (x10_1 + 1)), (by first | rfl | (simp; done) | (simp [*]; done)), H', ⟨by have := HK1.out; omega⟩, ⟨zo HB⟩⟩
      ·rw [if_neg c5] at H
       exact absurd H (by simp)
     ·rw [if_neg c4] at H
      exact absurd H (by simp)
    ·rw [if_neg c3] at H
     have c3b0 : decide (x10_1 < (l0.length : Int)) = false := decide_eq_false c3
     clear c3
     obtain rfl := Option.some.inj H
     go_wp2
     go_ret
     exact zR (h := zo HB)

/-! ### lin_Right: function 18 -/
def lin_Right.l0 : Nat → Int → List (S44) → Int → Int → Option (Int)
 | 0, _, _, _, _ => none
 | k + 1, x3, x7, x8, x9 => if x9 < x8 then (if 0 ≤ x9 then (if x9 < (x7.length : Int) then (if ((rd_T44 x7 x9).f0) ≤ x3 then (some 1) else (if ((rd_T44 x7 x9).f0) ≥ 64 then (some 1) else (if ((rd_T44 x7 x9).f1) = 0 then (some 1) else (lin_Right.l0 k ((rd_T44 x7 x9).f0) x7 x8 (wrap64 (x9 + 1)))))) else (none)) else (none)) else (some 0)
def lin_Right.f (k : Nat) (a0_0 : Int) (l0_1 : List (S44)) : Option (Int) := lin_Right.l0 k (-1) l0_1 (l0_1.length : Int) 0
theorem lin_Right.mono_l : ∀ k, (∀ y0 y1 y2 y3, LeO (lin_Right.l0 k y0 y1 y2 y3) (lin_Right.l0 (k + 1) y0 y1 y2 y3))
 | 0 => fun _ _ _ _ r h => by simp [lin_Right.l0] at h
 | k + 1 => by
  have ih0 := lin_Right.mono_l k
  ·intro y0 y1 y2 y3
   unfold lin_Right.l0
   repeat' first | (with_reducible first | exact ih0 .. | exact LeO.refl _ | exact LeO.none _ | refine LeO.ite ?_ ?_ | refine LeO.bind ?_ (fun _ => ?_)) | exact ih0 .. | exact LeO.none _ | refine LeO.ite ?_ ?_ | refine LeO.bind ?_ (fun _ => ?_)
theorem lin_Right.mono : ∀ a0 a1 k, LeO (lin_Right.f k a0 a1) (lin_Right.f (k + 1) a0 a1) := by
 intro a0 a1 k
 have ih0 := lin_Right.mono_l k
 unfold lin_Right.f
 repeat' first | (with_reducible first | exact ih0 .. | exact LeO.refl _ | exact LeO.none _ | refine LeO.ite ?_ ?_ | refine LeO.bind ?_ (fun _ => ?_)) | exact ih0 .. | exact LeO.none _ | refine LeO.ite ?_ ?_ | refine LeO.bind ?_ (fun _ => ?_)
theorem lin_Right.calls (k : Nat) (a0_0 : Int) (A0_1 : Option Addr) (c0_1 : Nat) (l0_1 : List (S44)) (r : Int) (w : World) (hr0_1 : Kd.C k44 w A0_1 l0_1.length l0_1) (hc0_1 : l0_1.length ≤ c0_1) (h : lin_Right.f k a0_0 l0_1 = some r) :
  Calls Try.prog 18 #[.agg #[.int .i64 a0_0, .slice A0_1 l0_1.length c0_1]] w fun e w' => e = .returned (.int .i64 r) ∧ Below w.heap.size w w' := by
 have hu41 := Try.underlying41
 have hu44 := Try.underlying44
 have HR0_1 := zK hr0_1
 have HC0_1 := zK hc0_1; clear hr0_1 hc0_1
 have HB := zK (Below.refl w.heap.size w)
 have H : (lin_Right.l0 k (-1) l0_1 (l0_1.length : Int) 0) = some r := h
 clear h
 have H' := zK H; clear H
 go_enter Try.func18, Try.ntmps18
 go_wp2_with (first | ((with_reducible refine gate_dst (N := 1) rfl ?_); refine zBx HB (cs := #[.int .i64 a0_0, .slice A0_1 l0_1.length c0_1]) (t := 41) ?_; clear HB; intro gb103 hg w2 BK103 GW103 hb HB; clear hb hg; have hcz3_0 := zc0 BK103; have hcz3_1 := zc1 BK103; have hfz3_0 := zfz BK103 0; have hfz3_1 := zfz BK103 1))
 go_loopg [3, 9] k (fun kq v3 v9 w' => ∃ (x3_1 : Int) (x9_1 : Int), v3 = .int .i64 x3_1 ∧ v9 = .int .i64 x9_1 ∧ Aside0 (lin_Right.l0 kq x3_1 l0_1 (l0_1.length : Int) x9_1 = some r) ∧ Aside0 (kq ≤ k) ∧ Aside0 (w'.heap[gb103]? = some (.cells #[.int .i64 a0_0, (.slice A0_1 l0_1.length c0_1)] 41 (0, 0))) ∧ Aside0 (Below w.heap.size w w'))
 case atStart => exact ⟨((-1)), (0), (by first | rfl | (simp; done) | (simp [*]; done)), (by first | rfl | (simp; done) | (simp [*]; done)), H', ⟨Nat.le_refl _⟩, ⟨zb BK103⟩, ⟨zo HB⟩⟩
 case round =>
  clear H'; try clear c1; try clear p2; try clear hcz3_0
  try clear hcz3_1; try clear hfz3_0; try clear hfz3_1
  obtain ⟨x3_1, x9_1, rfl, rfl, HA, HK1, BK103, HB⟩ := hrel
  cases gk with
  | zero => exact absurd HA.out (by simp [lin_Right.l0])
  | succ k1 =>
   have H := HA.out; clear HA
   simp only [lin_Right.l0] at H
   by_cases c4 : x9_1 < (l0_1.length : Int)
   ·rw [if_pos c4] at H
    have c4b0 : decide (x9_1 < (l0_1.length : Int)) = true := decide_eq_true c4
    clear c4
    by_cases c5 : 0 ≤ x9_1
    ·rw [if_pos c5] at H
     have c5b0 : decide (0 ≤ x9_1) = true := decide_eq_true c5; clear c5
     by_cases c6 : x9_1 < (l0_1.length : Int)
     ·rw [if_pos c6] at H
      have c6b0 : decide (x9_1 < (l0_1.length : Int)) = true := decide_eq_true c6
      clear c6
      by_cases c7 : ((rd_T44 l0_1 x9_1).f0) ≤ x3_1
      ·rw [if_pos c7] at H
       have c7b0 : decide (((rd_T44 l0_1 x9_1).f0) ≤ x3_1) = true := decide_eq_true c7
       clear c7
       obtain rfl := Option.some.inj H
       have p104 : 0 ≤ (x9_1 : Int) := zdt
       have q104 : x9_1 < (l0_1.length : Int) := zdt
       obtain ⟨ad104, e104, hx104_0, hx104_1⟩ := at_T44 HR0_1.out x9_1 p104 q104
       cases e104
       replace hx104_0 := zcl HB hx104_0
       replace hx104_1 := zcl HB hx104_1
       replace p104 := eq_true p104
       replace q104 := eq_true q104
       go_wp2_with (first | ((with_reducible refine gate_dst (N := 5) rfl ?_); refine zBx HB (cs := #[.int .i64 0, .int .i64 0]) (t := 44) ?_; clear HB; intro gb105 hg w8 BK105 GW105 hb HB; have NB103_105 := zn1 BK103 hg; have NB105_103 := zn2 BK103 hg; replace BK103 := zbb BK103 hb; clear hb hg; have hnb9 := NB105_103.out; have hnc9 := NB103_105.out; have hcz10_0 := zc0 BK105; have hcz10_1 := zc1 BK105; have hfz10_0 := zfz BK105 0; have hfz10_1 := zfz BK105 1))
       go_ret
       exact zR (h := zo HB)
      ·rw [if_neg c7] at H
       have c7b0 : decide (((rd_T44 l0_1 x9_1).f0) ≤ x3_1) = false := decide_eq_false c7
       clear c7
       by_cases c11 : ((rd_T44 l0_1 x9_1).f0) ≥ 64
       ·rw [if_pos c11] at H
        have c11b0 : decide (64 ≤ ((rd_T44 l0_1 x9_1).f0)) = true := decide_eq_true c11
        clear c11
        obtain rfl := Option.some.inj H
        have p104 : 0 ≤ (x9_1 : Int) := zdt
        have q104 : x9_1 < (l0_1.length : Int) := zdt
        obtain ⟨ad104, e104, hx104_0, hx104_1⟩ := at_T44 HR0_1.out x9_1 p104 q104
        cases e104
        replace hx104_0 := zcl HB hx104_0
        replace hx104_1 := zcl HB hx104_1
        replace p104 := eq_true p104
        replace q104 := eq_true q104
        go_wp2_with (first | ((with_reducible refine gate_dst (N := 5) rfl ?_); refine zBx HB (cs := #[.int .i64 0, .int .i64 0]) (t := 44) ?_; clear HB; intro gb105 hg w12 BK105 GW105 hb HB; have NB103_105 := zn1 BK103 hg; have NB105_103 := zn2 BK103 hg; replace BK103 := zbb BK103 hb; clear hb hg; have hnb13 := NB105_103.out; have hnc13 := NB103_105.out; have hcz14_0 := zc0 BK105; have hcz14_1 := zc1 BK105; have hfz14_0 := zfz BK105 0; have hfz14_1 := zfz BK105 1))
        go_ret
        exact zR (h := zo HB)
       ·rw [if_neg c11] at H
        have c11b0 : decide (64 ≤ ((rd_T44 l0_1 x9_1).f0)) = false := decide_eq_false c11
        clear c11
        by_cases c15 : ((rd_T44 l0_1 x9_1).f1) = 0
        ·rw [if_pos c15] at H
         have c15b0 : (((rd_T44 l0_1 x9_1).f1) == 0) = true := beq_iff_eq.mpr c15
         have c15b1 : (((rd_T44 l0_1 x9_1).f1) != 0) = false := bne_eq_false_iff_eq.mpr c15
         clear c15
         obtain rfl := Option.some.inj H
         have p104 : 0 ≤ (x9_1 : Int) := zdt
         have q104 : x9_1 < (l0_1.length : Int) := zdt
         obtain ⟨ad104, e104, hx104_0, hx104_1⟩ := at_T44 HR0_1.out x9_1 p104 q104
         cases e104
         replace hx104_0 := zcl HB hx104_0
         replace hx104_1 := zcl HB hx104_1
         replace p104 := eq_true p104
         replace q104 := eq_true q104
         go_wp2_with (first | ((with_reducible refine gate_dst (N := 5) rfl ?_); refine zBx HB (cs := #[.int .i64 0, .int .i64 0]) (t := 44) ?_; clear HB; intro gb105 hg w16 BK105 GW105 hb HB; have NB103_105 := zn1 BK103 hg; have NB105_103 := zn2 BK103 hg; replace BK103 := zbb BK103 hb; clear hb hg; have hnb17 := NB105_103.out; have hnc17 := NB103_105.out; have hcz18_0 := zc0 BK105; have hcz18_1 := zc1 BK105; have hfz18_0 := zfz BK105 0; have hfz18_1 := zfz BK105 1))
         go_ret
         exact zR (h := zo HB)
        ·rw [if_neg c15] at H
         have c15b0 : (((rd_T44 l0_1 x9_1).f1) == 0) = false := beq_eq_false_iff_ne.mpr c15
         have c15b1 : (((rd_T44 l0_1 x9_1).f1) != 0) = true := bne_iff_ne.mpr c15
         have H' := zK H; clear H
         have p104 : 0 ≤ (x9_1 : Int) := zdt
         have q104 : x9_1 < (l0_1.length : Int) := zdt
         obtain ⟨ad104, e104, hx104_0, hx104_1⟩ := at_T44 HR0_1.out x9_1 p104 q104
         cases e104
         replace hx104_0 := zcl HB hx104_0
         replace hx104_1 := zcl HB hx104_1
         replace p104 := eq_true p104
         replace q104 := eq_true q104
         go_wp2_with (first | ((with_reducible refine gate_dst (N := 5) rfl ?_); refine zBx HB (cs := #[.int .i64 0, .int .i64 0]) (t := 44) ?_; clear HB; intro gb105 hg w19 BK105 GW105 hb HB; have NB103_105 := zn1 BK103 hg; have NB105_103 := zn2 BK103 hg; replace BK103 := zbb BK103 hb; clear hb hg; have hnb20 := NB105_103.out; have hnc20 := NB103_105.out; have hcz21_0 := zc0 BK105; have hcz21_1 := zc1 BK105; have hfz21_0 := zfz BK105 0; have hfz21_1 := zfz BK105 1))
         go_roundg k1
         case measure => have := HK1.out; omega
         case rel => exact ⟨((rd_T44 l0_1 x9_1).f0), (wrap64 (x9_1 + 1)), (by first | rfl | (simp; done) | (simp [*]; done)), (by first | rfl | (simp; done) | (simp [*]; done)), H', ⟨by have := HK1.out; omega⟩, ⟨zb BK103⟩, ⟨zo HB⟩⟩
     ·rw [if_neg c6] at H
      exact absurd H (by simp)
    ·rw [if_neg c5] at H
     exact absurd H (by simp)
   ·rw [if_neg c4] at H
    have c4b0 : decide (x9_1 < (l0_1.length : Int)) = false := decide_eq_false c4
    clear c4
    obtain rfl := Option.some.inj H
    go_wp2
    go_ret
    exact zR (h := zo HB)

/-! ### lin_right_1: function 48 -/
def lin_right_1.f (k : Nat) (a0_0 : Int) (l0_1 : List (S44)) : Option (Bool) := (lin_Right.f k a0_0 l0_1).bind fun t107 => (some (t107 != 0))
theorem lin_right_1.mono : ∀ a0 a1 k, LeO (lin_right_1.f k a0 a1) (lin_right_1.f (k + 1) a0 a1) := by
 intro a0 a1 k
 unfold lin_right_1.f
 repeat' first | (with_reducible first | exact lin_Right.mono .. | exact LeO.refl _ | exact LeO.none _ | refine LeO.ite ?_ ?_ | refine LeO.bind ?_ (fun _ => ?_)) | exact lin_Right.mono .. | exact LeO.none _ | refine LeO.ite ?_ ?_ | refine LeO.bind ?_ (fun _ => ?_)
theorem lin_right_1.calls (k : Nat) (a0_0 : Int) (A0_1 : Option Addr) (c0_1 : Nat) (l0_1 : List (S44)) (r : Bool) (w : World) (hr0_1 : Kd.C k44 w A0_1 l0_1.length l0_1) (hc0_1 : l0_1.length ≤ c0_1) (h : lin_right_1.f k a0_0 l0_1 = some r) :
  Calls Try.prog 48 #[.agg #[.int .i64 a0_0, .slice A0_1 l0_1.length c0_1]] w fun e w' => e = .returned (.bool r) ∧ Below w.heap.size w w' := by
 have hu41 := Try.underlying41
 have HR0_1 := zK hr0_1
 have HC0_1 := zK hc0_1; clear hr0_1 hc0_1
 have HB := zK (Below.refl w.heap.size w)
 have H : ((lin_Right.f k a0_0 l0_1).bind fun t107 => (some (t107 != 0))) = some r := h
 clear h; replace H := zob H
 obtain ⟨t107, A20, H⟩ := H; replace H : (some (t107 != 0)) = some r := H
 have A2 := zK A20; clear A20
 obtain rfl := Option.some.inj H
 go_enter Try.func48, Try.ntmps48
 go_wp2_with (first | ((with_reducible refine gate_dst (N := 1) rfl ?_); refine zBx HB (cs := #[.int .i64 a0_0, .slice A0_1 l0_1.length c0_1]) (t := 41) ?_; clear HB; intro gb106 hg w3 BK106 GW106 hb HB; clear hb hg; have hcz4_0 := zc0 BK106; have hcz4_1 := zc1 BK106; have hfz4_0 := zfz BK106 0; have hfz4_1 := zfz BK106 1) | ((with_reducible refine zC (f := 18) rfl ?_); refine zGo (some 4) Try.func18 #[.agg #[.int .i64 a0_0, .slice A0_1 l0_1.length c0_1]] ?_; (with_reducible refine (lin_Right.calls k a0_0 _ _ l0_1 t107 _ ?side1 ?side2 A2.out).mono ?_); (case side1 => repeat (first | exact (Kd.C_below HR0_1.out HB.out) | (with_reducible refine cA ?_ _) | (with_reducible refine cN ?_ _) | (with_reducible refine cD ?_))); (case side2 => exact HC0_1.out); rintro e w5 ⟨rfl, hb⟩; refine ⟨_, rfl, ?_⟩; replace BK106 := zbb BK106 hb; replace HB := zst HB hb; clear hb))
 go_ret
 exact zR (h := zo HB)

/-! ### api_Lin_66: function 66 -/
def api_Lin_66.l0 : Nat → List (S41) → Int → Int → Option (Int)
 | 0, _, _, _ => none
 | k + 1, x0, x7, x8 => if x8 < x7 then (if 0 ≤ x8 then (if x8 < (x0.length : Int) then ((lin_right_1.f k ((rd_T41 x0 x8).f0) ((rd_T41 x0 x8).f1)).bind fun t109 => (if t109 = true then (some x8) else (api_Lin_66.l0 k x0 x7 (wrap64 (x8 + 1))))) else (none)) else (none)) else (some (-1))
def api_Lin_66.f (k : Nat) (l0 : List (S41))  : Option (Int) := api_Lin_66.l0 k l0 (l0.length : Int) 0
theorem api_Lin_66.mono_l : ∀ k, (∀ y0 y1 y2, LeO (api_Lin_66.l0 k y0 y1 y2) (api_Lin_66.l0 (k + 1) y0 y1 y2))
 | 0 => fun _ _ _ r h => by simp [api_Lin_66.l0] at h
 | k + 1 => by
  have ih0 := api_Lin_66.mono_l k
  ·intro y0 y1 y2
   unfold api_Lin_66.l0
   repeat' first | (with_reducible first | exact ih0 .. | exact lin_right_1.mono .. | exact LeO.refl _ | exact LeO.none _ | refine LeO.ite ?_ ?_ | refine LeO.bind ?_ (fun _ => ?_)) | exact ih0 .. | exact lin_right_1.mono .. | exact LeO.none _ | refine LeO.ite ?_ ?_ | refine LeO.bind ?_ (fun _ => ?_)
theorem api_Lin_66.mono : ∀ a0 k, LeO (api_Lin_66.f k a0) (api_Lin_66.f (k + 1) a0) := by
 intro a0 k
 have ih0 := api_Lin_66.mono_l k
 unfold api_Lin_66.f
 repeat' first | (with_reducible first | exact ih0 .. | exact lin_right_1.mono .. | exact LeO.refl _ | exact LeO.none _ | refine LeO.ite ?_ ?_ | refine LeO.bind ?_ (fun _ => ?_)) | exact ih0 .. | exact lin_right_1.mono .. | exact LeO.none _ | refine LeO.ite ?_ ?_ | refine LeO.bind ?_ (fun _ => ?_)
theorem api_Lin_66.calls (k : Nat) (A0 : Option Addr) (c0 : Nat) (l0 : List (S41))  (r : Int) (w : World) (hr0 : Kd.C k41 w A0 l0.length l0) (hc0 : l0.length ≤ c0) (h : api_Lin_66.f k l0 = some r) :
  Calls Try.prog 66 #[.slice A0 l0.length c0, .func (.func 48) #[] #[]] w fun e w' => e = .returned (.int .i64 r) ∧ Below w.heap.size w w' := by
 have hu41 := Try.underlying41
 have HR0 := zK hr0
 have HC0 := zK hc0; clear hr0 hc0
 have HB := zK (Below.refl w.heap.size w)
 have H : (api_Lin_66.l0 k l0 (l0.length : Int) 0) = some r := h; clear h
 have H' := zK H; clear H
 go_enter Try.func66, Try.ntmps66
 go_wp2
 go_loopg [8] k (fun kq v8 w' => ∃ (x8_1 : Int), v8 = .int .i64 x8_1 ∧ Aside0 (api_Lin_66.l0 kq l0 (l0.length : Int) x8_1 = some r) ∧ Aside0 (kq ≤ k) ∧ Aside0 (Below w.heap.size w w'))
 case atStart => exact ⟨(0), (by first | rfl | (simp; done) | (simp [*]; done)), H', ⟨Nat.le_refl _⟩, ⟨zo HB⟩⟩
 case round =>
  clear H'; try clear p2
  obtain ⟨x8_1, rfl, HA, HK1, HB⟩ := hrel
  cases gk with
  | zero => exact absurd HA.out (by simp [api_Lin_66.l0])
  | succ k1 =>
   have H := HA.out; clear HA
   simp only [api_Lin_66.l0] at H
   by_cases c3 : x8_1 < (l0.length : Int)
   ·rw [if_pos c3] at H
    have c3b0 : decide (x8_1 < (l0.length : Int)) = true := decide_eq_true c3
    clear c3
    by_cases c4 : 0 ≤ x8_1
    ·rw [if_pos c4] at H
     have c4b0 : decide (0 ≤ x8_1) = true := decide_eq_true c4; clear c4
     by_cases c5 : x8_1 < (l0.length : Int)
     ·rw [if_pos c5] at H
      have c5b0 : decide (x8_1 < (l0.length : Int)) = true := decide_eq_true c5
      clear c5; replace H := zob H
      obtain ⟨t109, A60, H⟩ := H
      replace H : (if t109 = true then (some x8_1) else (api_Lin_66.l0 k1 l0 (l0.length : Int) (wrap64 (x8_1 + 1)))) = some r := H
      have A6 := zK A60; clear A60
      by_cases c7 : t109 = true
      ·subst c7
       have H1 : (some x8_1) = some r := by rw [if_pos rfl] at H; exact H
       clear H; have H := H1; clear H1
       obtain rfl := Option.some.inj H
       have p108 : 0 ≤ (x8_1 : Int) := zdt
       have q108 : x8_1 < (l0.length : Int) := zdt
       obtain ⟨ad108, A108_1, c108_1, e108, hx108_0, hx108_1, hl108_1, hi108_1⟩ := at_T41 HR0.out x8_1 p108 q108
       cases e108
       replace hx108_0 := zcl HB hx108_0
       replace hx108_1 := zcl HB hx108_1
       have HR108_1 := zK hi108_1
       have HC108_1 := zK hl108_1; clear hi108_1 hl108_1
       replace p108 := eq_true p108
       replace q108 := eq_true q108
       go_wp2_with (first | (go_at_call 48; (with_reducible refine (lin_right_1.calls k1 ((rd_T41 l0 x8_1).f0) _ _ ((rd_T41 l0 x8_1).f1) true _ ?side1 ?side2 A6.out).mono ?_); (case side1 => repeat (first | exact (Kd.C_below HR108_1.out HB.out) | (with_reducible refine cA ?_ _) | (with_reducible refine cN ?_ _) | (with_reducible refine cD ?_))); (case side2 => exact HC108_1.out); rintro e w8 ⟨rfl, hb⟩; replace HB := zst HB hb; (try clear hb); (try clear hb2); (try clear hk); (try clear hi)))
       go_ret
       exact zR (h := zo HB)
      ·replace c7 := Bool.eq_false_iff.mpr c7
       subst c7
       have H1 : (api_Lin_66.l0 k1 l0 (l0.length : Int) (wrap64 (x8_1 + 1))) = some r := by rw [if_neg (show ¬ (false = true) by decide)] at H; exact H
       clear H; have H := H1; clear H1
       have H' := zK H; clear H
       have p108 : 0 ≤ (x8_1 : Int) := zdt
       have q108 : x8_1 < (l0.length : Int) := zdt
       obtain ⟨ad108, A108_1, c108_1, e108, hx108_0, hx108_1, hl108_1, hi108_1⟩ := at_T41 HR0.out x8_1 p108 q108
       cases e108
       replace hx108_0 := zcl HB hx108_0
       replace hx108_1 := zcl HB hx108_1
       have HR108_1 := zK hi108_1
       have HC108_1 := zK hl108_1; clear hi108_1 hl108_1
       replace p108 := eq_true p108
       replace q108 := eq_true q108
       go_wp2_with (first | (go_at_call 48; (with_reducible refine (lin_right_1.calls k1 ((rd_T41 l0 x8_1).f0) _ _ ((rd_T41 l0 x8_1).f1) false _ ?side1 ?side2 A6.out).mono ?_); (case side1 => repeat (first | exact (Kd.C_below HR108_1.out HB.out) | (with_reducible refine cA ?_ _) | (with_reducible refine cN ?_ _) | (with_reducible refine cD ?_))); (case side2 => exact HC108_1.out); rintro e w9 ⟨rfl, hb⟩; replace HB := zst HB hb; (try clear hb); (try clear hb2); (try clear hk); (try clear hi)))
       go_roundg k1
       case measure => have := HK1.out; omega
       case rel => exact ⟨(wrap64 (x8_1 + 1)), (by first | rfl | (simp; done) | (simp [*]; done)), H', ⟨by have := HK1.out; omega⟩, ⟨zo HB⟩⟩
     ·rw [if_neg c5] at H
      exact absurd H (by simp)
    ·rw [if_neg c4] at H
     exact absurd H (by simp)
   ·rw [if_neg c3] at H
    have c3b0 : decide (x8_1 < (l0.length : Int)) = false := decide_eq_false c3
    clear c3
    obtain rfl := Option.some.inj H
    go_wp2
    go_ret
    exact zR (h := zo HB)

/-! ### api_Lin_47: function 47 -/
def api_Lin_47.f (k : Nat) (l0 : List (S41))  : Option (Bool) := (api_Lin_66.f k l0).bind fun t110 => (some (decide (t110 ≥ 0)))
theorem api_Lin_47.mono : ∀ a0 k, LeO (api_Lin_47.f k a0) (api_Lin_47.f (k + 1) a0) := by
 intro a0 k
 unfold api_Lin_47.f
 repeat' first | (with_reducible first | exact api_Lin_66.mono .. | exact LeO.refl _ | exact LeO.none _ | refine LeO.ite ?_ ?_ | refine LeO.bind ?_ (fun _ => ?_)) | exact api_Lin_66.mono .. | exact LeO.none _ | refine LeO.ite ?_ ?_ | refine LeO.bind ?_ (fun _ => ?_)
theorem api_Lin_47.calls (k : Nat) (A0 : Option Addr) (c0 : Nat) (l0 : List (S41))  (r : Bool) (w : World) (hr0 : Kd.C k41 w A0 l0.length l0) (hc0 : l0.length ≤ c0) (h : api_Lin_47.f k l0 = some r) :
  Calls Try.prog 47 #[.slice A0 l0.length c0, .func (.func 48) #[] #[]] w fun e w' => e = .returned (.bool r) ∧ Below w.heap.size w w' := by
 have HR0 := zK hr0
 have HC0 := zK hc0; clear hr0 hc0
 have HB := zK (Below.refl w.heap.size w)
 have H : ((api_Lin_66.f k l0).bind fun t110 => (some (decide (t110 ≥ 0)))) = some r := h
 clear h; replace H := zob H
 obtain ⟨t110, A30, H⟩ := H
 replace H : (some (decide (t110 ≥ 0))) = some r := H
 have A3 := zK A30; clear A30
 obtain rfl := Option.some.inj H
 go_enter Try.func47, Try.ntmps47
 go_wp2_with (first | (go_at_call 66; (with_reducible refine (api_Lin_66.calls k _ _ l0 t110 _ ?side1 ?side2 A3.out).mono ?_); (case side1 => repeat (first | exact HR0.out | (with_reducible refine cA ?_ _) | (with_reducible refine cN ?_ _) | (with_reducible refine cD ?_))); (case side2 => exact HC0.out); rintro e w4 ⟨rfl, hb⟩; replace HB := zst HB hb; (try clear hb); (try clear hb2); (try clear hk); (try clear hi)))
 go_ret
 exact zR (h := zo HB)

/-! ### lin_right: function 32 -/
def lin_right.f (k : Nat) (l0 : List (S41)) : Option (Bool) := (api_Lin_47.f k l0).bind fun t111 => (some (!t111))
theorem lin_right.mono : ∀ a0 k, LeO (lin_right.f k a0) (lin_right.f (k + 1) a0) := by
 intro a0 k
 unfold lin_right.f
 repeat' first | (with_reducible first | exact api_Lin_47.mono .. | exact LeO.refl _ | exact LeO.none _ | refine LeO.ite ?_ ?_ | refine LeO.bind ?_ (fun _ => ?_)) | exact api_Lin_47.mono .. | exact LeO.none _ | refine LeO.ite ?_ ?_ | refine LeO.bind ?_ (fun _ => ?_)
theorem lin_right.calls (k : Nat) (A0 : Option Addr) (c0 : Nat) (l0 : List (S41)) (r : Bool) (w : World) (hr0 : Kd.C k41 w A0 l0.length l0) (hc0 : l0.length ≤ c0) (h : lin_right.f k l0 = some r) :
  Calls Try.prog 32 #[.slice A0 l0.length c0] w fun e w' => e = .returned (.bool r) ∧ Below w.heap.size w w' := by
 have HR0 := zK hr0
 have HC0 := zK hc0; clear hr0 hc0
 have HB := zK (Below.refl w.heap.size w)
 have H : ((api_Lin_47.f k l0).bind fun t111 => (some (!t111))) = some r := h
 clear h; replace H := zob H
 obtain ⟨t111, A20, H⟩ := H; replace H : (some (!t111)) = some r := H
 have A2 := zK A20; clear A20
 obtain rfl := Option.some.inj H
 go_enter Try.func32, Try.ntmps32
 go_wp2_with (first | (go_at_call 47; (with_reducible refine (api_Lin_47.calls k _ _ l0 t111 _ ?side1 ?side2 A2.out).mono ?_); (case side1 => repeat (first | exact HR0.out | (with_reducible refine cA ?_ _) | (with_reducible refine cN ?_ _) | (with_reducible refine cD ?_))); (case side2 => exact HC0.out); rintro e w3 ⟨rfl, hb⟩; replace HB := zst HB hb; (try clear hb); (try clear hb2); (try clear hk); (try clear hi)))
 go_ret
 exact zR (h := zo HB)

/-! ### bits_Mul64: function 67 -/
def bits_Mul64.f (a0 : Int) (a1 : Int) : Option (Int × Int) := some (IntKind.u64.wrap ((IntKind.u64.wrap ((IntKind.u64.wrap ((a0 / 4294967296) * (a1 / 4294967296))) + ((IntKind.u64.wrap ((IntKind.u64.wrap ((a0 / 4294967296) * (Go.bits .and .u64 a1 4294967295))) + ((IntKind.u64.wrap ((Go.bits .and .u64 a0 4294967295) * (Go.bits .and .u64 a1 4294967295))) / 4294967296))) / 4294967296))) + ((IntKind.u64.wrap ((Go.bits .and .u64 (IntKind.u64.wrap ((IntKind.u64.wrap ((a0 / 4294967296) * (Go.bits .and .u64 a1 4294967295))) + ((IntKind.u64.wrap ((Go.bits .and .u64 a0 4294967295) * (Go.bits .and .u64 a1 4294967295))) / 4294967296))) 4294967295) + (IntKind.u64.wrap ((Go.bits .and .u64 a0 4294967295) * (a1 / 4294967296))))) / 4294967296)), IntKind.u64.wrap (a0 * a1))
theorem bits_Mul64.calls (a0 : Int) (a1 : Int) (r1 : Int) (r2 : Int) (w : World) (h : bits_Mul64.f a0 a1 = some (r1, r2)) :
  Calls Try.prog 67 #[.int .u64 a0, .int .u64 a1] w fun e w' => e = .returned (.tuple #[.int .u64 r1, .int .u64 r2]) ∧ Drawn0 w w' := by
 have H : (some (IntKind.u64.wrap ((IntKind.u64.wrap ((IntKind.u64.wrap ((a0 / 4294967296) * (a1 / 4294967296))) + ((IntKind.u64.wrap ((IntKind.u64.wrap ((a0 / 4294967296) * (Go.bits .and .u64 a1 4294967295))) + ((IntKind.u64.wrap ((Go.bits .and .u64 a0 4294967295) * (Go.bits .and .u64 a1 4294967295))) / 4294967296))) / 4294967296))) + ((IntKind.u64.wrap ((Go.bits .and .u64 (IntKind.u64.wrap ((IntKind.u64.wrap ((a0 / 4294967296) * (Go.bits .and .u64 a1 4294967295))) + ((IntKind.u64.wrap ((Go.bits .and .u64 a0 4294967295) * (Go.bits .and .u64 a1 4294967295))) / 4294967296))) 4294967295) + (IntKind.u64.wrap ((Go.bits .and .u64 a0 4294967295) * (a1 / 4294967296))))) / 4294967296)), IntKind.u64.wrap (a0 * a1))) = some (r1, r2) := h
 clear h
 simp only [Option.some.injEq, Prod.mk.injEq] at H
 obtain ⟨rfl, rfl⟩ := H
 go_enter Try.func67, Try.ntmps67
 go_wp2
 go_ret2
 exact zW

/-! ### exact_product: function 49 -/
def exact_product.f (a0 : Int) (a1 : Int) : Option (Int × Int) := (bits_Mul64.f (IntKind.u64.wrap (a0)) (IntKind.u64.wrap (a1))).bind fun bt112 => (if a0 < 0 then (if a1 < 0 then (some (IntKind.u64.wrap ((IntKind.u64.wrap (bt112.1 - (IntKind.u64.wrap (a1)))) - (IntKind.u64.wrap (a0))), bt112.2)) else (some (IntKind.u64.wrap (bt112.1 - (IntKind.u64.wrap (a1))), bt112.2))) else (if a1 < 0 then (some (IntKind.u64.wrap (bt112.1 - (IntKind.u64.wrap (a0))), bt112.2)) else (some (bt112.1, bt112.2))))
theorem exact_product.calls (a0 : Int) (a1 : Int) (r1 : Int) (r2 : Int) (w : World) (h : exact_product.f a0 a1 = some (r1, r2)) :
  Calls Try.prog 49 #[.int .i64 a0, .int .i64 a1] w fun e w' => e = .returned (.tuple #[.int .u64 r1, .int .u64 r2]) ∧ Drawn0 w w' := by
 have H : ((bits_Mul64.f (IntKind.u64.wrap (a0)) (IntKind.u64.wrap (a1))).bind fun bt112 => (if a0 < 0 then (if a1 < 0 then (some (IntKind.u64.wrap ((IntKind.u64.wrap (bt112.1 - (IntKind.u64.wrap (a1)))) - (IntKind.u64.wrap (a0))), bt112.2)) else (some (IntKind.u64.wrap (bt112.1 - (IntKind.u64.wrap (a1))), bt112.2))) else (if a1 < 0 then (some (IntKind.u64.wrap (bt112.1 - (IntKind.u64.wrap (a0))), bt112.2)) else (some (bt112.1, bt112.2))))) = some (r1, r2) := h
 clear h; replace H := zob H
 obtain ⟨⟨t112, t113⟩, A30, H⟩ := H
 replace H : (if a0 < 0 then (if a1 < 0 then (some (IntKind.u64.wrap ((IntKind.u64.wrap (t112 - (IntKind.u64.wrap (a1)))) - (IntKind.u64.wrap (a0))), t113)) else (some (IntKind.u64.wrap (t112 - (IntKind.u64.wrap (a1))), t113))) else (if a1 < 0 then (some (IntKind.u64.wrap (t112 - (IntKind.u64.wrap (a0))), t113)) else (some (t112, t113)))) = some (r1, r2) := H
 have A3 := zK A30; clear A30
 by_cases c4 : a0 < 0
 ·rw [if_pos c4] at H
  have c4b0 : decide (a0 < 0) = true := decide_eq_true c4; clear c4
  by_cases c5 : a1 < 0
  ·rw [if_pos c5] at H
   have c5b0 : decide (a1 < 0) = true := decide_eq_true c5; clear c5
   simp only [Option.some.injEq, Prod.mk.injEq] at H
   obtain ⟨rfl, rfl⟩ := H
   go_enter Try.func49, Try.ntmps49
   go_wp2_with (first | ((with_reducible refine zC (f := 67) rfl ?_); refine zGo (some 13) Try.func67 #[.int .u64 (IntKind.u64.wrap (a0)), .int .u64 (IntKind.u64.wrap (a1))] ?_; (with_reducible refine (bits_Mul64.calls (IntKind.u64.wrap (a0)) (IntKind.u64.wrap (a1)) t112 t113 _ A3.out).mono ?_); rintro e w' ⟨rfl, ⟨nd, rfl⟩⟩; refine ⟨_, rfl, ?_⟩))
   go_ret2
   exact zW
  ·rw [if_neg c5] at H
   have c5b0 : decide (a1 < 0) = false := decide_eq_false c5; clear c5
   simp only [Option.some.injEq, Prod.mk.injEq] at H
   obtain ⟨rfl, rfl⟩ := H
   go_enter Try.func49, Try.ntmps49
   go_wp2_with (first | ((with_reducible refine zC (f := 67) rfl ?_); refine zGo (some 13) Try.func67 #[.int .u64 (IntKind.u64.wrap (a0)), .int .u64 (IntKind.u64.wrap (a1))] ?_; (with_reducible refine (bits_Mul64.calls (IntKind.u64.wrap (a0)) (IntKind.u64.wrap (a1)) t112 t113 _ A3.out).mono ?_); rintro e w' ⟨rfl, ⟨nd, rfl⟩⟩; refine ⟨_, rfl, ?_⟩))
   go_ret2
   exact zW
 ·rw [if_neg c4] at H
  have c4b0 : decide (a0 < 0) = false := decide_eq_false c4; clear c4
  by_cases c6 : a1 < 0
  ·rw [if_pos c6] at H
   have c6b0 : decide (a1 < 0) = true := decide_eq_true c6; clear c6
   simp only [Option.some.injEq, Prod.mk.injEq] at H
   obtain ⟨rfl, rfl⟩ := H
   go_enter Try.func49, Try.ntmps49
   go_wp2_with (first | ((with_reducible refine zC (f := 67) rfl ?_); refine zGo (some 13) Try.func67 #[.int .u64 (IntKind.u64.wrap (a0)), .int .u64 (IntKind.u64.wrap (a1))] ?_; (with_reducible refine (bits_Mul64.calls (IntKind.u64.wrap (a0)) (IntKind.u64.wrap (a1)) t112 t113 _ A3.out).mono ?_); rintro e w' ⟨rfl, ⟨nd, rfl⟩⟩; refine ⟨_, rfl, ?_⟩))
   go_ret2
   exact zW
  ·rw [if_neg c6] at H
   have c6b0 : decide (a1 < 0) = false := decide_eq_false c6; clear c6
   simp only [Option.some.injEq, Prod.mk.injEq] at H
   obtain ⟨rfl, rfl⟩ := H
   go_enter Try.func49, Try.ntmps49
   go_wp2_with (first | ((with_reducible refine zC (f := 67) rfl ?_); refine zGo (some 13) Try.func67 #[.int .u64 (IntKind.u64.wrap (a0)), .int .u64 (IntKind.u64.wrap (a1))] ?_; (with_reducible refine (bits_Mul64.calls (IntKind.u64.wrap (a0)) (IntKind.u64.wrap (a1)) t112 t113 _ A3.out).mono ?_); rintro e w' ⟨rfl, ⟨nd, rfl⟩⟩; refine ⟨_, rfl, ?_⟩))
   go_ret2
   exact zW

-- NOT PRINTED: function 50 (bits_Add64)

/-! ### exact_sign: function 51 -/
def exact_sign.f (a0 : Int) : Option (Int) := some (IntKind.u64.wrap ((wrap64 (a0)) / 9223372036854775808))
theorem exact_sign.calls (a0 : Int) (r : Int) (w : World) (h : exact_sign.f a0 = some r) :
  Calls Try.prog 51 #[.int .u64 a0] w fun e w' => e = .returned (.int .u64 r) ∧ Drawn0 w w' := by
 have H : (some (IntKind.u64.wrap ((wrap64 (a0)) / 9223372036854775808))) = some r := h
 clear h
 obtain rfl := Option.some.inj H
 go_enter Try.func51, Try.ntmps51
 go_wp2
 go_ret
 exact zW

/-! ### math/bits.Add64, without a body -/
theorem run_Add64 (x y c : Int) (hx : 0 ≤ x) (hy : 0 ≤ y) (hc0 : 0 ≤ c) (hc : c ≤ 1) (w : World) :
  (callFunc 50 #[.int .u64 x, .int .u64 y, .int .u64 c]).run Try.prog w = .ok (.value (.tuple #[.int .u64 ((x + y + c) % 18446744073709551616), .int .u64 ((x + y + c) / 18446744073709551616)])) w := by
 rw [run_callFunc_extern (P := Try.prog) (f := 50) (fn := Try.f50) (e := add64Entry) Try.func50 (by kernel_rfl) (by kernel_rfl) (by kernel_rfl) (by kernel_rfl), run_add64 x y c hx hy hc0 hc w]
 rfl

/-- One block has changed, and no other; none is new. -/
structure SameBut (w w' : World) (g : Nat) : Prop where
 os : w'.os = w.os
 tape : w'.tape = w.tape
 output : w'.output = w.output
 size : w'.heap.size = w.heap.size
 block : ∀ i, i ≠ g → w'.heap[i]? = w.heap[i]?
theorem SameBut.refl (w : World) (g : Nat) : SameBut w w g := ⟨rfl, rfl, rfl, rfl, fun _ _ => rfl⟩
theorem SameBut.drewN {w w' : World} {g : Nat} (h : SameBut w w' g) (n : Nat) : SameBut w (w'.drewN n) g := ⟨h.os, h.tape, h.output, h.size, h.block⟩
theorem SameBut.drew {w w' : World} {g : Nat} (h : SameBut w w' g) : SameBut w w'.drew g := ⟨h.os, h.tape, h.output, h.size, h.block⟩
theorem SameBut.set {w w' : World} {g : Nat} (h : SameBut w w' g) (j : Nat) (u : Value) : SameBut w (w'.setCell ⟨g, j, none⟩ u) g :=
 ⟨h.os, h.tape, h.output, by rw [← h.size]; simp [World.setCell], fun i hi => (Below.heap_setCell w' ⟨g, j, none⟩ u i hi).trans (h.block i hi)⟩
theorem SameBut.below {w w' : World} {g B : Nat} (h : SameBut w w' g) (hg : B ≤ g) : Below B w w' :=
 ⟨h.os, h.tape, h.output, Nat.le_of_eq h.size.symm, fun k hk => h.block k (by omega)⟩

/-- The three words of a number of 192 bits. -/
def limb0 (s : Int) : Int := s % 18446744073709551616
def limb1 (s : Int) : Int := s / 18446744073709551616 % 18446744073709551616
def limb2 (s : Int) : Int := s / 18446744073709551616 / 18446744073709551616 % 18446744073709551616
/-- A number of 192 bits, if it fits into 64. -/
def fit64 (n : Int) : Int × Bool := if -9223372036854775808 ≤ n ∧ n ≤ 9223372036854775807 then (n, true) else (0, false)
def wrap192 (s : Int) : Int := (s + 3138550867693340381917894711603833208051177722232017256448) % 6277101735386680763835789423207666416102355444464034512896 - 3138550867693340381917894711603833208051177722232017256448
def fit192 (s : Int) : Int × Bool := fit64 (wrap192 s)

theorem ex_u64w (n : Int) : IntKind.u64.wrap n = n % 18446744073709551616 := by
 simp [IntKind.wrap, IntKind.bits, IntKind.signed]
theorem ex_and_low (x : Nat) (h : x < 18446744073709551616) : Go.bits .and .u64 (x:Int) 4294967295 = ((x % 4294967296 : Nat) : Int) := by
 refine Eq.trans (u64_and_nat x 4294967295 h (by decide)) ?_
 congr 1
 exact Nat.and_two_pow_sub_one_eq_mod x 32
theorem ex_mul64 (a b : Nat) (ha : a < 18446744073709551616) (hb : b < 18446744073709551616) :
  ((a / 4294967296) * (b / 4294967296) +
   ((a / 4294967296) * (b % 4294967296) + ((a % 4294967296) * (b % 4294967296)) / 4294967296) / 4294967296 +
   ((((a / 4294967296) * (b % 4294967296) + ((a % 4294967296) * (b % 4294967296)) / 4294967296) % 4294967296) + (a % 4294967296) * (b / 4294967296)) / 4294967296) = a * b / 18446744073709551616 := by
 have hab : a * b = (a / 4294967296) * (b / 4294967296) * 18446744073709551616 + ((a / 4294967296) * (b % 4294967296) + (a % 4294967296) * (b / 4294967296)) * 4294967296 + (a % 4294967296) * (b % 4294967296) := by
  have e1 : a = (a / 4294967296) * 4294967296 + a % 4294967296 := by omega
  have e2 : b = (b / 4294967296) * 4294967296 + b % 4294967296 := by omega
  generalize a / 4294967296 = x at *
  generalize a % 4294967296 = y at *
  generalize b / 4294967296 = u at *
  generalize b % 4294967296 = v at *
  subst e1 e2
  simp only [Nat.add_mul, Nat.mul_add]
  have : x * 4294967296 * (u * 4294967296) = x * u * 18446744073709551616 := by rw [Nat.mul_mul_mul_comm]
  have h2 : x * 4294967296 * v = x * v * 4294967296 := by rw [Nat.mul_right_comm]
  have h3 : y * (u * 4294967296) = y * u * 4294967296 := by rw [Nat.mul_assoc]
  omega
 rw [hab]
 generalize (a / 4294967296) * (b / 4294967296) = p
 generalize (a / 4294967296) * (b % 4294967296) = q
 generalize (a % 4294967296) * (b / 4294967296) = r
 generalize (a % 4294967296) * (b % 4294967296) = s
 omega
theorem ex_Mul64 (a b : Nat) (ha : a < 18446744073709551616) (hb : b < 18446744073709551616) :
  bits_Mul64.f a b = some (((a * b / 18446744073709551616 : Nat) : Int), ((a * b % 18446744073709551616 : Nat) : Int)) := by
 have h := ex_mul64 a b ha hb
 have hA : a / 4294967296 < 4294967296 := by omega
 have hB : b / 4294967296 < 4294967296 := by omega
 have hA' : a % 4294967296 < 4294967296 := by omega
 have hB' : b % 4294967296 < 4294967296 := by omega
 have m : ∀ x y : Nat, x < 4294967296 → y < 4294967296 → x * y ≤ 18446744065119617025 := fun x y h1 h2 => Nat.le_trans (Nat.mul_le_mul (Nat.le_of_lt_succ h1) (Nat.le_of_lt_succ h2)) (by decide)
 have h1 := m _ _ hA hB
 have h2 := m _ _ hA hB'
 have h3 := m _ _ hA' hB
 have h4 := m _ _ hA' hB'
 unfold bits_Mul64.f
 simp only [ex_and_low a ha, ex_and_low b hb, ex_u64w]
 rw [show (a:Int) / 4294967296 = ((a / 4294967296 : Nat) : Int) by omega, show (b:Int) / 4294967296 = ((b / 4294967296 : Nat) : Int) by omega]
 generalize a / 4294967296 = x at *
 generalize a % 4294967296 = y at *
 generalize b / 4294967296 = u at *
 generalize b % 4294967296 = v at *
 simp only [← Int.natCast_mul]
 generalize x * u = p at *
 generalize x * v = q at *
 generalize y * u = r at *
 generalize y * v = s at *
 have e1 : ((q:Int) % 18446744073709551616 + (s:Int) % 18446744073709551616 / 4294967296) % 18446744073709551616 = ((q + s / 4294967296 : Nat) : Int) := by omega
 rw [e1, ex_and_low _ (by omega)]
 congr 2
 omega

theorem ex_bound {a b : Int} (h1 : -9223372036854775808 ≤ a) (h2 : a ≤ 9223372036854775807) (h3 : -9223372036854775808 ≤ b) (h4 : b ≤ 9223372036854775807) : -85070591730234615865843651857942052864 ≤ a * b ∧ a * b ≤ 85070591730234615865843651857942052864 := by
 have h : a.natAbs * b.natAbs ≤ 85070591730234615865843651857942052864 :=
  Nat.le_trans (Nat.mul_le_mul (show a.natAbs ≤ 9223372036854775808 by omega) (show b.natAbs ≤ 9223372036854775808 by omega)) (by decide)
 rw [← Int.natAbs_mul] at h
 omega
theorem ex_product {a b : Int} (h1 : -9223372036854775808 ≤ a) (h2 : a ≤ 9223372036854775807) (h3 : -9223372036854775808 ≤ b) (h4 : b ≤ 9223372036854775807) :
  exact_product.f a b = some (limb1 (a * b), limb0 (a * b)) := by
 have hm := ex_bound h1 h2 h3 h4
 obtain ⟨A, hA⟩ := Int.eq_ofNat_of_zero_le (show 0 ≤ a % 18446744073709551616 by omega)
 obtain ⟨B, hB⟩ := Int.eq_ofNat_of_zero_le (show 0 ≤ b % 18446744073709551616 by omega)
 have hp : ((A * B : Nat) : Int) = a * b + 18446744073709551616 * ((if a < 0 then b else 0) + (if b < 0 then a else 0) + (if a < 0 ∧ b < 0 then 18446744073709551616 else 0)) := by
  have hA' : (A : Int) = a + (if a < 0 then 18446744073709551616 else 0) := by split <;> omega
  have hB' : (B : Int) = b + (if b < 0 then 18446744073709551616 else 0) := by split <;> omega
  rw [Int.natCast_mul, hA', hB']
  by_cases ha : a < 0 <;> by_cases hb : b < 0 <;> simp only [ha, hb, if_true, if_false, and_self, and_true, and_false, false_and, true_and] <;> simp only [Int.add_mul, Int.mul_add] <;> omega
 unfold exact_product.f
 simp only [ex_u64w]
 rw [hA, hB, ex_Mul64 A B (by omega) (by omega)]
 simp only [Option.bind_some]
 unfold limb0 limb1
 rw [Int.natCast_ediv, Int.natCast_emod, hp]
 generalize a * b = p at *
 repeat' split
 all_goals (congr 2 <;> omega)
theorem ex_sign {n : Int} (h1 : 0 ≤ n) (h2 : n < 18446744073709551616) : exact_sign.f n = some (if n < 9223372036854775808 then 0 else 18446744073709551615) := by
 unfold exact_sign.f
 simp only [ex_u64w]
 unfold wrap64
 congr 1
 split <;> omega
theorem ex_sum (s p : Int) (hp : -85070591730234615865843651857942052864 ≤ p ∧ p ≤ 85070591730234615865843651857942052864) :
  (limb0 s + limb0 p + 0) % 18446744073709551616 = limb0 (s + p) ∧
  (limb1 s + limb1 p + (limb0 s + limb0 p + 0) / 18446744073709551616) % 18446744073709551616 = limb1 (s + p) ∧
  (limb2 s + (if limb1 p < 9223372036854775808 then 0 else 18446744073709551615) + (limb1 s + limb1 p + (limb0 s + limb0 p + 0) / 18446744073709551616) / 18446744073709551616) % 18446744073709551616 = limb2 (s + p) := by
 unfold limb0 limb1 limb2
 refine ⟨?_, ?_, ?_⟩
 ·omega
 ·omega
 ·split <;> omega

theorem ex_fits (s : Int) : (if limb1 s = (if limb0 s < 9223372036854775808 then 0 else 18446744073709551615) ∧ limb2 s = (if limb0 s < 9223372036854775808 then 0 else 18446744073709551615) then (wrap64 (limb0 s), true) else (0, false)) = fit192 s := by
 unfold fit192 fit64 wrap192 limb0 limb1 limb2 wrap64
 repeat' split
 all_goals first | rfl | (exfalso; omega) | (congr 1; omega)
/-- A block's cells with a number of 192 bits put at a place. -/
def put3 (cs : Array Value) (off : Nat) (s : Int) : Array Value := ((cs.setIfInBounds off (.int .u64 (limb0 s))).setIfInBounds (off + 1) (.int .u64 (limb1 s))).setIfInBounds (off + 2) (.int .u64 (limb2 s))
/-- A number of 192 bits stands at a place. -/
def At3 (cs : Array Value) (off : Nat) (s : Int) : Prop := cs[off]? = some (.int .u64 (limb0 s)) ∧ cs[off + 1]? = some (.int .u64 (limb1 s)) ∧ cs[off + 2]? = some (.int .u64 (limb2 s))

theorem Add_walk (g off : Nat) (s0 s1 s2 a b hi lo sg r0 c0 r1 c1 r2 c2 : Int) (W : World) (t : TypeId) (cs : Array Value) (hp : exact_product.f a b = some (hi, lo)) (hsg : exact_sign.f hi = some sg)
  (hA0 : ∀ w, (callFunc 50 #[.int .u64 s0, .int .u64 lo, .int .u64 0]).run Try.prog w = .ok (.value (.tuple #[.int .u64 r0, .int .u64 c0])) w)
  (hA1 : ∀ w, (callFunc 50 #[.int .u64 s1, .int .u64 hi, .int .u64 c0]).run Try.prog w = .ok (.value (.tuple #[.int .u64 r1, .int .u64 c1])) w)
  (hA2 : ∀ w, (callFunc 50 #[.int .u64 s2, .int .u64 sg, .int .u64 c1]).run Try.prog w = .ok (.value (.tuple #[.int .u64 r2, .int .u64 c2])) w)
  (hblk : Aside0 (W.heap[g]? = some (.cells cs t (0, 0))))
  (h0 : W.cell? ⟨g, off, none⟩ = some (.int .u64 s0)) (h1 : W.cell? ⟨g, off + 1, none⟩ = some (.int .u64 s1)) (h2 : W.cell? ⟨g, off + 2, none⟩ = some (.int .u64 s2))
  (f0 : W.frozen? ⟨g, off, none⟩ = false) (f1 : W.frozen? ⟨g, off + 1, none⟩ = false) (f2 : W.frozen? ⟨g, off + 2, none⟩ = false) :
  Calls Try.prog 33 #[.pointer (some ⟨g, off, none⟩), .int .i64 a, .int .i64 b] W fun e W' => e = .returned (.tuple #[]) ∧
   W'.heap[g]? = some (.cells (((cs.setIfInBounds off (.int .u64 r0)).setIfInBounds (off + 1) (.int .u64 r1)).setIfInBounds (off + 2) (.int .u64 r2)) t (0, 0)) ∧ SameBut W W' g := by
 go_enter Try.func33, Try.ntmps33
 go_wp2_with (first | (go_at_call 49; (with_reducible refine (exact_product.calls a b hi lo _ hp).mono ?_); rintro e w' ⟨rfl, ⟨nd, rfl⟩⟩))
 go_region_with (go_at_call 51; (with_reducible refine (exact_sign.calls hi sg _ hsg).mono ?_); rintro e w' ⟨rfl, ⟨nd2, rfl⟩⟩)
 all_goals
  go_end0
  refine ⟨rfl, ?_, ?_⟩
  ·have hb := blk_set (blk_set (blk_set hblk.out off (.int .u64 r0)) (off + 1) (.int .u64 r1)) (off + 2) (.int .u64 r2)
   exact hb
  ·repeat (first | exact SameBut.refl _ _ | apply SameBut.drewN | apply SameBut.drew | apply SameBut.set)

theorem exact_Add (g off : Nat) (s a b : Int) (W : World) (t : TypeId) (cs : Array Value) (ha1 : -9223372036854775808 ≤ a) (ha2 : a ≤ 9223372036854775807) (hb1 : -9223372036854775808 ≤ b) (hb2 : b ≤ 9223372036854775807)
  (hblk : W.heap[g]? = some (.cells cs t (0, 0))) (h3 : At3 cs off s) :
  Calls Try.prog 33 #[.pointer (some ⟨g, off, none⟩), .int .i64 a, .int .i64 b] W fun e W' => e = .returned (.tuple #[]) ∧
   W'.heap[g]? = some (.cells (put3 cs off (s + a * b)) t (0, 0)) ∧ SameBut W W' g := by
 have hp := ex_product ha1 ha2 hb1 hb2
 have hbd := ex_bound ha1 ha2 hb1 hb2
 have l0 : ∀ x : Int, 0 ≤ limb0 x ∧ limb0 x < 18446744073709551616 := fun x => by unfold limb0; omega
 have l1 : ∀ x : Int, 0 ≤ limb1 x ∧ limb1 x < 18446744073709551616 := fun x => by unfold limb1; omega
 have l2 : ∀ x : Int, 0 ≤ limb2 x ∧ limb2 x < 18446744073709551616 := fun x => by unfold limb2; omega
 have hsg := ex_sign (l1 (a * b)).1 (l1 (a * b)).2
 obtain ⟨e0, e1, e2⟩ := ex_sum s (a * b) hbd
 have a0 := l0 s
 have a1 := l0 (a * b)
 have a2 := l1 s
 have a3 := l1 (a * b)
 have a4 := l2 s
 unfold put3
 rw [← e0, ← e1, ← e2]
 exact Add_walk g off (limb0 s) (limb1 s) (limb2 s) a b _ _ _ _ _ _ _ _ _ W t cs hp hsg
  (run_Add64 _ _ _ a0.1 a1.1 (by omega) (by omega))
  (run_Add64 _ _ _ a2.1 a3.1 (by omega) (by omega))
  (run_Add64 _ _ _ a4.1 (by split <;> omega) (by omega) (by omega))
  ⟨hblk⟩ ((blk_cell hblk off).trans h3.1) ((blk_cell hblk (off + 1)).trans h3.2.1) ((blk_cell hblk (off + 2)).trans h3.2.2)
  (blk_frozen hblk _) (blk_frozen hblk _) (blk_frozen hblk _)

theorem Fits_walk (g off : Nat) (s0 s1 s2 sg : Int) (W : World) (hsg : exact_sign.f s0 = some sg)
  (h0 : W.cell? ⟨g, off, none⟩ = some (.int .u64 s0)) (h1 : W.cell? ⟨g, off + 1, none⟩ = some (.int .u64 s1)) (h2 : W.cell? ⟨g, off + 2, none⟩ = some (.int .u64 s2)) :
  Calls Try.prog 34 #[.pointer (some ⟨g, off, none⟩)] W fun e W' => e = .returned (if s1 = sg ∧ s2 = sg then .tuple #[.int .i64 (wrap64 s0), .bool true] else .tuple #[.int .i64 0, .bool false]) ∧ Drawn0 W W' := by
 by_cases e1 : s1 = sg
 ·have e1a : (s1 == sg) = true := beq_iff_eq.2 e1
  have e1b : (s1 != sg) = false := bne_eq_false_iff_eq.2 e1
  by_cases e2 : s2 = sg
  ·have e2a : (s2 == sg) = true := beq_iff_eq.2 e2
   have e2b : (s2 != sg) = false := bne_eq_false_iff_eq.2 e2
   rw [if_pos ⟨e1, e2⟩]; clear e1 e2
   go_enter Try.func34, Try.ntmps34
   go_wp2_with (first | (go_at_call 51; (with_reducible refine (exact_sign.calls s0 sg _ hsg).mono ?_); rintro e w' ⟨rfl, ⟨nd, rfl⟩⟩))
   go_ret2
   exact ⟨rfl, by repeat (first | exact Drawn0.refl _ | apply Drawn0.step)⟩
  ·have e2a : (s2 == sg) = false := beq_eq_false_iff_ne.2 e2
   have e2b : (s2 != sg) = true := bne_iff_ne.2 e2
   rw [if_neg (fun h => e2 h.2)]; clear e1 e2
   go_enter Try.func34, Try.ntmps34
   go_wp2_with (first | (go_at_call 51; (with_reducible refine (exact_sign.calls s0 sg _ hsg).mono ?_); rintro e w' ⟨rfl, ⟨nd, rfl⟩⟩))
   go_ret2
   exact ⟨rfl, by repeat (first | exact Drawn0.refl _ | apply Drawn0.step)⟩
 ·have e1a : (s1 == sg) = false := beq_eq_false_iff_ne.2 e1
  have e1b : (s1 != sg) = true := bne_iff_ne.2 e1
  rw [if_neg (fun h => e1 h.1)]; clear e1
  go_enter Try.func34, Try.ntmps34
  go_wp2_with (first | (go_at_call 51; (with_reducible refine (exact_sign.calls s0 sg _ hsg).mono ?_); rintro e w' ⟨rfl, ⟨nd, rfl⟩⟩))
  go_ret2
  exact ⟨rfl, by repeat (first | exact Drawn0.refl _ | apply Drawn0.step)⟩

theorem exact_Fits (g off : Nat) (s : Int) (W : World) (t : TypeId) (cs : Array Value) (hblk : W.heap[g]? = some (.cells cs t (0, 0))) (h3 : At3 cs off s) :
  Calls Try.prog 34 #[.pointer (some ⟨g, off, none⟩)] W fun e W' => e = .returned (.tuple #[.int .i64 (fit192 s).1, .bool (fit192 s).2]) ∧ Drawn0 W W' := by
 have hsg := ex_sign (n := limb0 s) (by unfold limb0; omega) (by unfold limb0; omega)
 refine (Fits_walk g off (limb0 s) (limb1 s) (limb2 s) _ W hsg ((blk_cell hblk off).trans h3.1) ((blk_cell hblk (off + 1)).trans h3.2.1) ((blk_cell hblk (off + 2)).trans h3.2.2)).mono ?_
 rintro e W' ⟨he, hw⟩
 refine ⟨?_, hw⟩
 rw [he, ← ex_fits s]
 generalize (if limb0 s < 9223372036854775808 then (0 : Int) else 18446744073709551615) = z
 by_cases hz : limb1 s = z ∧ limb2 s = z
 ·rw [if_pos hz, if_pos hz]
 ·rw [if_neg hz, if_neg hz]

end Go.Proofs.Ytjinmlpekecmbaa.PEuclidNone
