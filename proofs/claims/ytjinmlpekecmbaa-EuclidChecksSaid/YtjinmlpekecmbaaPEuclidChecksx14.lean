/- What the call of each function that the law reaches comes to, and the law out of its plain form; no condition but what stands in each theorem. -/
import Derived.Test.YtjinmlpekecmbaaPEuclidChecksx0
import Derived.Test.YtjinmlpekecmbaaPEuclidChecksx1
import Derived.Test.YtjinmlpekecmbaaPEuclidChecksx3
import Derived.Test.YtjinmlpekecmbaaPEuclidChecksx9
import Derived.Test.YtjinmlpekecmbaaPEuclidChecksx13
namespace Go.Proofs.Ytjinmlpekecmbaa.PEuclidChecks
open Go.RowKit Go.Proofs.YtjinmlpekecmbaaW.PrintWords Go.Proofs.YtjinmlpekecmbaaW.PrintLast Go.Proofs.YtjinmlpekecmbaaW.PrintMore
open Go.Proofs.YtjinmlpekecmbaaW.PrintWords renaming blk_drewN → zN, blk_drew → zD, blk_alloc → zA, below_alloc → yA, pw_below_drewN → yN, below_drew1 → yD, below_set → yS, gate_callee → zC
open Go.Proofs.YtjinmlpekecmbaaW.PrintWords.Kd renaming C_alloc → cA, C_drewN → cN, C_drew → cD
open Go.Proofs.YtjinmlpekecmbaaW.PrintWords.Aside0 renaming mk → zK
attribute [local go_sem] max2_int min2_int max_two min_two max_three min_three max_four min_four
set_option linter.unusedVariables false
set_option maxHeartbeats 8000000
set_option maxRecDepth 100000
set_option linter.unusedSimpArgs false

/-! ### sequiturref29_Check: function 12 -/
mutual
def sequiturref29_Check.j0 : Nat → List (S41) → List Int → Int → Bool → Option (Int)
 | 0, _, _, _, _ => none
 | k + 1, x0, x1, x2, x19 => if x19 = true then (some 1) else (sequiturref29_Check.l0 k x0 x1 x2 0)
def sequiturref29_Check.l0 : Nat → List (S41) → List Int → Int → Int → Option (Int)
 | 0, _, _, _, _ => none
 | k + 1, x0, x1, x2, x7 => if x7 < (x0.length : Int) then (if 0 ≤ x7 then ((sequiturref28_Form.f k ((rd_T41 x0 x7).f0) ((rd_T41 x0 x7).f1)).bind fun t391 => (if t391 = true then (sequiturref29_Check.l0 k x0 x1 x2 (wrap64 (x7 + 1))) else (some 1))) else (none)) else ((sequiturref28_Lin.f k x0 x1).bind fun bt392 => (if bt392.2.2 = 0 then (sequiturref29_Check.l1 k x2 0 bt392.1 bt392.2.1) else (some bt392.2.2)))
def sequiturref29_Check.l1 : Nat → Int → Int → Int → List (S44) → Option (Int)
 | 0, _, _, _, _ => none
 | k + 1, x2, x10, x398000, x398001 => if x10 < (x398001.length : Int) then (if 0 ≤ x10 then (if x2 = 0 then (none) else (if (Int.tmod ((rd_T44 x398001 x10).f1) x2) = 0 then (sequiturref29_Check.l1 k x2 (wrap64 (x10 + 1)) x398000 x398001) else (some 30))) else (none)) else (if x2 = 0 then (none) else (if (Int.tmod x398000 x2) = 0 then (some 30) else (some 0)))
end
def sequiturref29_Check.f (k : Nat) (l0 : List (S41)) (l1 : List Int) (a2 : Int) : Option (Int) := if (l1.length : Int) = (l0.length : Int) then (sequiturref29_Check.j0 k l0 l1 a2 (decide (a2 < 2))) else (sequiturref29_Check.j0 k l0 l1 a2 true)
theorem sequiturref29_Check.mono_l : ∀ k, (∀ y0 y1 y2 y3, LeO (sequiturref29_Check.j0 k y0 y1 y2 y3) (sequiturref29_Check.j0 (k + 1) y0 y1 y2 y3)) ∧ (∀ y0 y1 y2 y3, LeO (sequiturref29_Check.l0 k y0 y1 y2 y3) (sequiturref29_Check.l0 (k + 1) y0 y1 y2 y3)) ∧ (∀ y0 y1 y2 y3, LeO (sequiturref29_Check.l1 k y0 y1 y2 y3) (sequiturref29_Check.l1 (k + 1) y0 y1 y2 y3))
 | 0 => ⟨fun _ _ _ _ r h => by simp [sequiturref29_Check.j0] at h, fun _ _ _ _ r h => by simp [sequiturref29_Check.l0] at h, fun _ _ _ _ r h => by simp [sequiturref29_Check.l1] at h⟩
 | k + 1 => by
  obtain ⟨ih0, ih1, ih2⟩ := sequiturref29_Check.mono_l k
  refine ⟨?_, ?_, ?_⟩ <;> intros <;> first | unfold sequiturref29_Check.j0 | unfold sequiturref29_Check.l0 | unfold sequiturref29_Check.l1
  all_goals repeat' first | (with_reducible first | exact ih0 .. | exact ih1 .. | exact ih2 .. | exact sequiturref28_Form.mono .. | exact sequiturref28_Lin.mono .. | exact LeO.refl _ | exact LeO.none _ | refine LeO.ite ?_ ?_ | refine LeO.bind ?_ (fun _ => ?_)) | exact ih0 .. | exact ih1 .. | exact ih2 .. | exact sequiturref28_Form.mono .. | exact sequiturref28_Lin.mono .. | exact LeO.none _ | refine LeO.ite ?_ ?_ | refine LeO.bind ?_ (fun _ => ?_)
theorem sequiturref29_Check.mono : ∀ a0 a1 a2 k, LeO (sequiturref29_Check.f k a0 a1 a2) (sequiturref29_Check.f (k + 1) a0 a1 a2) := by
 intro a0 a1 a2 k
 obtain ⟨ih0, ih1, ih2⟩ := sequiturref29_Check.mono_l k
 unfold sequiturref29_Check.f
 repeat' first | (with_reducible first | exact ih0 .. | exact ih1 .. | exact ih2 .. | exact sequiturref28_Form.mono .. | exact sequiturref28_Lin.mono .. | exact LeO.refl _ | exact LeO.none _ | refine LeO.ite ?_ ?_ | refine LeO.bind ?_ (fun _ => ?_)) | exact ih0 .. | exact ih1 .. | exact ih2 .. | exact sequiturref28_Form.mono .. | exact sequiturref28_Lin.mono .. | exact LeO.none _ | refine LeO.ite ?_ ?_ | refine LeO.bind ?_ (fun _ => ?_)
theorem sequiturref29_Check.calls (k : Nat) (A0 : Option Addr) (c0 : Nat) (l0 : List (S41)) (A1 : Option Addr) (c1 : Nat) (l1 : List Int) (a2 : Int) (r : Int) (w : World) (hr0 : Kd.C k41 w A0 l0.length l0) (hc0 : l0.length ≤ c0) (hr1 : Kd.C (Kd.int .i64) w A1 l1.length l1) (hc1 : l1.length ≤ c1) (h : sequiturref29_Check.f k l0 l1 a2 = some r) :
  Calls Try.prog 12 #[.slice A0 l0.length c0, .slice A1 l1.length c1, .int .i64 a2] w fun e w' => e = .returned (.int .i64 r) ∧ Below w.heap.size w w' := by
 have hu41 := Try.underlying41
 have HR0 := zK hr0
 have HC0 := zK hc0; clear hr0 hc0
 have HR1 := zK hr1
 have HC1 := zK hc1; clear hr1 hc1
 have HB := zK (Below.refl w.heap.size w)
 have H : (if (l1.length : Int) = (l0.length : Int) then (sequiturref29_Check.j0 k l0 l1 a2 (decide (a2 < 2))) else (sequiturref29_Check.j0 k l0 l1 a2 true)) = some r := h
 clear h
 have HC4 := zK H; clear H
 go_enter Try.func12, Try.ntmps12
 go_upto_region 1 with (fail)
 go_cut [19] (fun v19 wc => ∃ (kq : Nat) (x19_3 : Bool), v19 = .bool x19_3 ∧ Aside0 (sequiturref29_Check.j0 kq l0 l1 a2 x19_3 = some r) ∧ Aside0 (kq ≤ k) ∧ Aside0 (Below w.heap.size w wc))
 case first =>
  have H := HC4.out; clear HC4
  by_cases c5 : (l1.length : Int) = (l0.length : Int)
  ·rw [if_pos c5] at H
   have c5b0 : ((l1.length : Int) == (l0.length : Int)) = true := beq_iff_eq.mpr c5
   have c5b1 : ((l1.length : Int) != (l0.length : Int)) = false := bne_eq_false_iff_eq.mpr c5
   have c5b2 : (l1.length == l0.length) = true := by first | simpa using c5 | (simp at c5 ⊢; omega)
   clear c5
   (first | rw [c5b0] | (simp only [i64_w, i32_w]; rw [c5b0]) | skip)
   have H' := zK H; clear H
   go_wp2
   go_meet
   case rel => exact ⟨_, (decide (a2 < 2)), (by first | rfl | (simp; done) | (simp [*]; done)), H', ⟨by first | omega | exact Nat.le_refl _⟩, ⟨zo HB⟩⟩
  ·rw [if_neg c5] at H
   have c5b0 : ((l1.length : Int) == (l0.length : Int)) = false := beq_eq_false_iff_ne.mpr c5
   have c5b1 : ((l1.length : Int) != (l0.length : Int)) = true := bne_iff_ne.mpr c5
   have c5b2 : (l1.length == l0.length) = false := by first | simpa using c5 | (simp at c5 ⊢; omega)
   (first | rw [c5b0] | (simp only [i64_w, i32_w]; rw [c5b0]) | skip)
   have H' := zK H; clear H
   go_wp2
   go_meet
   case rel => exact ⟨_, (true), (by first | rfl | (simp; done) | (simp [*]; done)), H', ⟨by first | omega | exact Nat.le_refl _⟩, ⟨zo HB⟩⟩
 case rest =>
  clear HC4; try clear c1; try clear p2; try clear c5; try clear c5b0; try clear c5b1; try clear c5b2
  obtain ⟨kq, x19_3, rfl, HA, HJ3, HB⟩ := hcut
  cases kq with
  | zero => exact absurd HA.out (by simp [sequiturref29_Check.j0])
  | succ kj3 =>
   have H := HA.out; clear HA
   simp only [sequiturref29_Check.j0] at H
   by_cases c6 : x19_3 = true
   ·subst c6
    have H1 : (some 1) = some r := by rw [if_pos rfl] at H; exact H
    clear H
    have H := H1; clear H1
    obtain rfl := Option.some.inj H
    go_wp2
    go_ret
    exact zR (h := zo HB)
   ·replace c6 := Bool.eq_false_iff.mpr c6
    subst c6
    have H1 : (sequiturref29_Check.l0 kj3 l0 l1 a2 0) = some r := by rw [if_neg (show ¬ (false = true) by decide)] at H; exact H
    clear H; have H := H1; clear H1
    have H' := zK H; clear H
    go_wp2
    go_loopg [7] kj3 (fun kq v7 w' => ∃ (x7_2 : Int), v7 = .int .i64 x7_2 ∧ Aside0 (sequiturref29_Check.l0 kq l0 l1 a2 x7_2 = some r) ∧ Aside0 (kq ≤ kj3) ∧ Aside0 (Below w.heap.size w w'))
    case atStart => exact ⟨(0), (by first | rfl | (simp; done) | (simp [*]; done)), H', ⟨Nat.le_refl _⟩, ⟨zo HB⟩⟩
    case round =>
     clear H'; try clear c1; try clear p2; try clear c5
     try clear c5b0; try clear c5b1; try clear c5b2; try clear c6; try clear p2
     obtain ⟨x7_2, rfl, HA, HK2, HB⟩ := hrel
     cases gk with
     | zero => exact absurd HA.out (by simp [sequiturref29_Check.l0])
     | succ k2 =>
      have H := HA.out; clear HA
      simp only [sequiturref29_Check.l0] at H
      by_cases c7 : x7_2 < (l0.length : Int)
      ·rw [if_pos c7] at H
       have c7b0 : decide (x7_2 < (l0.length : Int)) = true := decide_eq_true c7
       clear c7
       by_cases c8 : 0 ≤ x7_2
       ·rw [if_pos c8] at H
        have c8b0 : decide (0 ≤ x7_2) = true := decide_eq_true c8; clear c8
        replace H := zob H
        obtain ⟨t391, A90, H⟩ := H
        replace H : (if t391 = true then (sequiturref29_Check.l0 k2 l0 l1 a2 (wrap64 (x7_2 + 1))) else (some 1)) = some r := H
        have A9 := zK A90; clear A90
        by_cases c10 : t391 = true
        ·subst c10
         have H1 : (sequiturref29_Check.l0 k2 l0 l1 a2 (wrap64 (x7_2 + 1))) = some r := by rw [if_pos rfl] at H; exact H
         clear H; have H := H1; clear H1
         have H' := zK H; clear H
         have p390 : 0 ≤ (x7_2 : Int) := zdt
         have q390 : x7_2 < (l0.length : Int) := zdt
         obtain ⟨ad390, A390_1, c390_1, e390, hx390_0, hx390_1, hl390_1, hi390_1⟩ := at_T41 HR0.out x7_2 p390 q390
         cases e390
         replace hx390_0 := zcl HB hx390_0
         replace hx390_1 := zcl HB hx390_1
         have HR390_1 := zK hi390_1
         have HC390_1 := zK hl390_1; clear hi390_1 hl390_1
         replace p390 := eq_true p390
         replace q390 := eq_true q390
         go_wp2_with (first | ((with_reducible refine zC (f := 26) rfl ?_); refine zGo (some 30) Try.func26 #[.agg #[.int .i64 ((rd_T41 l0 x7_2).f0), .slice A390_1 ((rd_T41 l0 x7_2).f1).length c390_1]] ?_; (with_reducible refine (sequiturref28_Form.calls k2 ((rd_T41 l0 x7_2).f0) _ _ ((rd_T41 l0 x7_2).f1) true _ ?side1 ?side2 A9.out).mono ?_); (case side1 => repeat (first | exact (Kd.C_below HR390_1.out HB.out) | (with_reducible refine cA ?_ _) | (with_reducible refine cN ?_ _) | (with_reducible refine cD ?_))); (case side2 => exact HC390_1.out); rintro e w11 ⟨rfl, hb⟩; refine ⟨_, rfl, ?_⟩; replace HB := zst HB hb; clear hb))
         go_roundg k2
         case measure => have := HJ3.out; have := HK2.out; omega
         case rel => exact ⟨(wrap64 (x7_2 + 1)), (by first | rfl | (simp; done) | (simp [*]; done)), H', ⟨by have := HJ3.out; have := HK2.out; omega⟩, ⟨zo HB⟩⟩
        ·replace c10 := Bool.eq_false_iff.mpr c10
         subst c10
         have H1 : (some 1) = some r := by rw [if_neg (show ¬ (false = true) by decide)] at H; exact H
         clear H; have H := H1; clear H1
         obtain rfl := Option.some.inj H
         have p390 : 0 ≤ (x7_2 : Int) := zdt
         have q390 : x7_2 < (l0.length : Int) := zdt
         obtain ⟨ad390, A390_1, c390_1, e390, hx390_0, hx390_1, hl390_1, hi390_1⟩ := at_T41 HR0.out x7_2 p390 q390
         cases e390
         replace hx390_0 := zcl HB hx390_0
         replace hx390_1 := zcl HB hx390_1
         have HR390_1 := zK hi390_1
         have HC390_1 := zK hl390_1; clear hi390_1 hl390_1
         replace p390 := eq_true p390
         replace q390 := eq_true q390
         go_wp2_with (first | ((with_reducible refine zC (f := 26) rfl ?_); refine zGo (some 30) Try.func26 #[.agg #[.int .i64 ((rd_T41 l0 x7_2).f0), .slice A390_1 ((rd_T41 l0 x7_2).f1).length c390_1]] ?_; (with_reducible refine (sequiturref28_Form.calls k2 ((rd_T41 l0 x7_2).f0) _ _ ((rd_T41 l0 x7_2).f1) false _ ?side1 ?side2 A9.out).mono ?_); (case side1 => repeat (first | exact (Kd.C_below HR390_1.out HB.out) | (with_reducible refine cA ?_ _) | (with_reducible refine cN ?_ _) | (with_reducible refine cD ?_))); (case side2 => exact HC390_1.out); rintro e w12 ⟨rfl, hb⟩; refine ⟨_, rfl, ?_⟩; replace HB := zst HB hb; clear hb))
         go_ret
         exact zR (h := zo HB)
       ·rw [if_neg c8] at H
        exact absurd H (by simp)
      ·rw [if_neg c7] at H
       have c7b0 : decide (x7_2 < (l0.length : Int)) = false := decide_eq_false c7
       clear c7; replace H := zob H
       obtain ⟨⟨t392, t393, t396⟩, A130, H⟩ := H
       replace H : (if t396 = 0 then (sequiturref29_Check.l1 k2 a2 0 t392 t393) else (some t396)) = some r := H
       have A13 := zK A130; clear A130
       by_cases c14 : t396 = 0
       ·rw [if_pos c14] at H
        have c14b0 : (t396 == 0) = true := beq_iff_eq.mpr c14
        have c14b1 : (t396 != 0) = false := bne_eq_false_iff_eq.mpr c14; clear c14
        have H' := zK H; clear H
        go_wp2_with (first | ((with_reducible refine zC (f := 27) rfl ?_); refine zGo (some 35) Try.func27 #[.slice A0 l0.length c0, .slice A1 l1.length c1] ?_; (with_reducible refine (sequiturref28_Lin.calls k2 _ _ l0 _ _ l1 t392 t393 t396 _ ?side1 ?side2 ?side3 ?side4 A13.out).mono ?_); (case side1 => repeat (first | exact (Kd.C_below HR0.out HB.out) | (with_reducible refine cA ?_ _) | (with_reducible refine cN ?_ _) | (with_reducible refine cD ?_))); (case side2 => exact HC0.out); (case side3 => repeat (first | exact (Kd.C_below HR1.out HB.out) | (with_reducible refine cA ?_ _) | (with_reducible refine cN ?_ _) | (with_reducible refine cD ?_))); (case side4 => exact HC1.out); rintro e w15 ⟨v394, rfl, ho0, hb⟩; refine ⟨_, rfl, ?_⟩; have HO395 := zK (Kd.R_lower ho0 (below_size (zo HB))); replace HB := zst HB hb; clear hb; (try clear ho0)) | ((with_reducible refine gate_dst (N := 8) rfl ?_); refine zBox (cs := #[.int .i64 0, .slice none 0 0]) (t := 41) ?_; intro gb397 hg w16 hbox hb; replace HO395 := zK (Kd.R_below (zr HO395) hb); have BK397 := zK (hbox); have GW397 := zK ((by rw [hg]; exact (below_size (zo HB)) : w.heap.size ≤ gb397)); replace HB := zst HB hb; clear hb hbox hg; have hcz17_0 := zc0 BK397; have hcz17_1 := zc1 BK397; have hfz17_0 := zfz BK397 0; have hfz17_1 := zfz BK397 1; obtain ⟨Ao18, co18, eo18⟩ := Kd.R_slice HO395.out; subst eo18))
        go_loopg [10] k2 (fun kq v10 w' => ∃ (x10_3 : Int), v10 = .int .i64 x10_3 ∧ Aside0 (sequiturref29_Check.l1 kq a2 x10_3 t392 t393 = some r) ∧ Aside0 (kq ≤ k2) ∧ Aside0 (Kd.R k44 44 w' w.heap.size (fun _ => True) (.slice Ao18 t393.length co18) t393) ∧ Aside0 (w'.heap[gb397]? = some (.cells #[.int .i64 t392, (.slice Ao18 t393.length co18)] 41 (0, 0))) ∧ Aside0 (Below w.heap.size w w'))
        case atStart => exact ⟨(0), (by first | rfl | (simp; done) | (simp [*]; done)), H', ⟨Nat.le_refl _⟩, ⟨by (with_reducible repeat (first | apply Kd.R_alloc | apply Kd.R_drewN | apply Kd.R_drew)); exact Kd.R_mono (Kd.R_far (p := ⟨gb397, 1, none⟩) (Kd.R_far (p := ⟨gb397, 0, none⟩) (Kd.R_types HO395.out BK397.out (by decide)) (fun _ hk => hk.2) (.int .i64 t392)) (fun _ hk => hk.2) (.slice Ao18 t393.length co18)) (fun _ hk => trivial)⟩, ⟨by refine zM ?_; refine blk_put (cs := #[.int .i64 t392, .slice none 0 0]) ?_ 1 _ rfl; refine zM ?_; refine blk_put (cs := #[.int .i64 0, .slice none 0 0]) ?_ 0 _ rfl; refine zM ?_; exact BK397.out⟩, ⟨zo HB⟩⟩
        case round =>
         clear H'; try clear c1; try clear c2; try clear p2
         try clear c3; try clear p3; try clear q3; try clear hx3
         try clear c5; try clear c5b0; try clear c5b1; try clear c5b2
         try clear c6; try clear p6; try clear c7; try clear c7b0
         try clear c8; try clear c8b0; try clear c10; try clear c12
         try clear c14; try clear c14b0; try clear c14b1; try clear hcz17_0
         try clear hcz17_1; try clear hfz17_0; try clear hfz17_1; try clear hx390_0
         try clear hx390_1; try clear p2; try clear p390; try clear q390
         obtain ⟨x10_3, rfl, HA, HK3, HO_398001, BK397, HB⟩ := hrel
         cases gk with
         | zero => exact absurd HA.out (by simp [sequiturref29_Check.l1])
         | succ k3 =>
          have H := HA.out; clear HA
          simp only [sequiturref29_Check.l1] at H
          by_cases c19 : x10_3 < (t393.length : Int)
          ·rw [if_pos c19] at H
           have c19b0 : decide (x10_3 < (t393.length : Int)) = true := decide_eq_true c19
           clear c19
           by_cases c20 : 0 ≤ x10_3
           ·rw [if_pos c20] at H
            have c20b0 : decide (0 ≤ x10_3) = true := decide_eq_true c20; clear c20
            by_cases c21 : a2 = 0
            ·rw [if_pos c21] at H
             exact absurd H (by simp)
            ·rw [if_neg c21] at H
             have c21b0 : (a2 == 0) = false := beq_eq_false_iff_ne.mpr c21
             have c21b1 : (a2 != 0) = true := bne_iff_ne.mpr c21
             by_cases c22 : (Int.tmod ((rd_T44 t393 x10_3).f1) a2) = 0
             ·rw [if_pos c22] at H
              have c22b0 : ((Int.tmod ((rd_T44 t393 x10_3).f1) a2) == 0) = true := beq_iff_eq.mpr c22
              have c22b1 : ((Int.tmod ((rd_T44 t393 x10_3).f1) a2) != 0) = false := bne_eq_false_iff_eq.mpr c22
              clear c22
              have H' := zK H; clear H
              have hcz23_0 := zc0 BK397
              have hcz23_1 := zc1 BK397
              have hfz23_0 := zfz BK397 0
              have hfz23_1 := zfz BK397 1
              have p398 : 0 ≤ (x10_3 : Int) := zdt
              have q398 : x10_3 < (t393.length : Int) := zdt
              obtain ⟨ad398, e398, hx398_0, hx398_1⟩ := at_T44 (Kd.R_reads' HO_398001.out).2.2 x10_3 p398 q398
              cases e398
              replace p398 := eq_true p398
              replace q398 := eq_true q398
              go_wp2
              go_roundg k3
              case measure => have := HJ3.out; have := HK2.out; have := HK3.out; omega
              case rel => exact ⟨(wrap64 (x10_3 + 1)), (by first | rfl | (simp; done) | (simp [*]; done)), H', ⟨by have := HJ3.out; have := HK2.out; have := HK3.out; omega⟩, ⟨zr HO_398001⟩, ⟨zb BK397⟩, ⟨zo HB⟩⟩
             ·rw [if_neg c22] at H
              have c22b0 : ((Int.tmod ((rd_T44 t393 x10_3).f1) a2) == 0) = false := beq_eq_false_iff_ne.mpr c22
              have c22b1 : ((Int.tmod ((rd_T44 t393 x10_3).f1) a2) != 0) = true := bne_iff_ne.mpr c22
              obtain rfl := Option.some.inj H
              have hcz24_0 := zc0 BK397
              have hcz24_1 := zc1 BK397
              have hfz24_0 := zfz BK397 0
              have hfz24_1 := zfz BK397 1
              have p398 : 0 ≤ (x10_3 : Int) := zdt
              have q398 : x10_3 < (t393.length : Int) := zdt
              obtain ⟨ad398, e398, hx398_0, hx398_1⟩ := at_T44 (Kd.R_reads' HO_398001.out).2.2 x10_3 p398 q398
              cases e398
              replace p398 := eq_true p398
              replace q398 := eq_true q398
              go_wp2
              go_ret
              exact zR (h := zo HB)
           ·rw [if_neg c20] at H
            exact absurd H (by simp)
          ·rw [if_neg c19] at H
           have c19b0 : decide (x10_3 < (t393.length : Int)) = false := decide_eq_false c19
           clear c19
           by_cases c25 : a2 = 0
           ·rw [if_pos c25] at H
            exact absurd H (by simp)
           ·rw [if_neg c25] at H
            have c25b0 : (a2 == 0) = false := beq_eq_false_iff_ne.mpr c25
            have c25b1 : (a2 != 0) = true := bne_iff_ne.mpr c25
            by_cases c26 : (Int.tmod t392 a2) = 0
            ·rw [if_pos c26] at H
             have c26b0 : ((Int.tmod t392 a2) == 0) = true := beq_iff_eq.mpr c26
             have c26b1 : ((Int.tmod t392 a2) != 0) = false := bne_eq_false_iff_eq.mpr c26
             clear c26
             obtain rfl := Option.some.inj H
             have hcz27_0 := zc0 BK397
             have hcz27_1 := zc1 BK397
             have hfz27_0 := zfz BK397 0
             have hfz27_1 := zfz BK397 1
             go_wp2
             go_ret
             exact zR (h := zo HB)
            ·rw [if_neg c26] at H
             have c26b0 : ((Int.tmod t392 a2) == 0) = false := beq_eq_false_iff_ne.mpr c26
             have c26b1 : ((Int.tmod t392 a2) != 0) = true := bne_iff_ne.mpr c26
             obtain rfl := Option.some.inj H
             have hcz28_0 := zc0 BK397
             have hcz28_1 := zc1 BK397
             have hfz28_0 := zfz BK397 0
             have hfz28_1 := zfz BK397 1
             go_wp2
             go_ret
             exact zR (h := zo HB)
       ·rw [if_neg c14] at H
        have c14b0 : (t396 == 0) = false := beq_eq_false_iff_ne.mpr c14
        have c14b1 : (t396 != 0) = true := bne_iff_ne.mpr c14
        obtain rfl := Option.some.inj H
        go_wp2_with (first | ((with_reducible refine zC (f := 27) rfl ?_); refine zGo (some 35) Try.func27 #[.slice A0 l0.length c0, .slice A1 l1.length c1] ?_; (with_reducible refine (sequiturref28_Lin.calls k2 _ _ l0 _ _ l1 t392 t393 t396 _ ?side1 ?side2 ?side3 ?side4 A13.out).mono ?_); (case side1 => repeat (first | exact (Kd.C_below HR0.out HB.out) | (with_reducible refine cA ?_ _) | (with_reducible refine cN ?_ _) | (with_reducible refine cD ?_))); (case side2 => exact HC0.out); (case side3 => repeat (first | exact (Kd.C_below HR1.out HB.out) | (with_reducible refine cA ?_ _) | (with_reducible refine cN ?_ _) | (with_reducible refine cD ?_))); (case side4 => exact HC1.out); rintro e w29 ⟨v394, rfl, ho0, hb⟩; refine ⟨_, rfl, ?_⟩; have HO395 := zK (Kd.R_lower ho0 (below_size (zo HB))); replace HB := zst HB hb; clear hb; (try clear ho0)) | ((with_reducible refine gate_dst (N := 8) rfl ?_); refine zBox (cs := #[.int .i64 0, .slice none 0 0]) (t := 41) ?_; intro gb397 hg w30 hbox hb; replace HO395 := zK (Kd.R_below (zr HO395) hb); have BK397 := zK (hbox); have GW397 := zK ((by rw [hg]; exact (below_size (zo HB)) : w.heap.size ≤ gb397)); replace HB := zst HB hb; clear hb hbox hg; have hcz31_0 := zc0 BK397; have hcz31_1 := zc1 BK397; have hfz31_0 := zfz BK397 0; have hfz31_1 := zfz BK397 1; obtain ⟨Ao32, co32, eo32⟩ := Kd.R_slice HO395.out; subst eo32))
        go_ret
        exact zR (h := zo HB)

/-! ### sequiturlaw29_EuclidChecks: function 3 -/
def sequiturlaw29_EuclidChecks.j0 : Nat → List (S41) → List Int → Int → Bool → Option (Bool)
 | 0, _, _, _, _ => none
 | k + 1, x0, x1, x2, x14 => if x14 = true then ((sequiturlaw29_alive.f k).bind fun t400 => (some t400)) else ((euclid_Check.f k x0 x1 x2).bind fun t401 => ((sequiturref29_Check.f k x0 x1 x2).bind fun t402 => (if t401 = t402 then ((sequiturlaw29_alive.f k).bind fun t403 => (some t403)) else (none))))
def sequiturlaw29_EuclidChecks.f (k : Nat) (l0 : List (S41)) (l1 : List Int) (a2 : Int) : Option (Bool) := (sequiturlaw29_few.f k l0).bind fun t399 => (if t399 = true then (sequiturlaw29_EuclidChecks.j0 k l0 l1 a2 (decide ((l1.length : Int) > 100))) else (sequiturlaw29_EuclidChecks.j0 k l0 l1 a2 true))
theorem sequiturlaw29_EuclidChecks.mono_l : ∀ k, (∀ y0 y1 y2 y3, LeO (sequiturlaw29_EuclidChecks.j0 k y0 y1 y2 y3) (sequiturlaw29_EuclidChecks.j0 (k + 1) y0 y1 y2 y3))
 | 0 => fun _ _ _ _ r h => by simp [sequiturlaw29_EuclidChecks.j0] at h
 | k + 1 => by
  have ih0 := sequiturlaw29_EuclidChecks.mono_l k
  ·intro y0 y1 y2 y3
   unfold sequiturlaw29_EuclidChecks.j0
   repeat' first | (with_reducible first | exact ih0 .. | exact euclid_Check.mono .. | exact sequiturlaw29_alive.mono .. | exact sequiturlaw29_few.mono .. | exact sequiturref29_Check.mono .. | exact LeO.refl _ | exact LeO.none _ | refine LeO.ite ?_ ?_ | refine LeO.bind ?_ (fun _ => ?_)) | exact ih0 .. | exact euclid_Check.mono .. | exact sequiturlaw29_alive.mono .. | exact sequiturlaw29_few.mono .. | exact sequiturref29_Check.mono .. | exact LeO.none _ | refine LeO.ite ?_ ?_ | refine LeO.bind ?_ (fun _ => ?_)
theorem sequiturlaw29_EuclidChecks.mono : ∀ a0 a1 a2 k, LeO (sequiturlaw29_EuclidChecks.f k a0 a1 a2) (sequiturlaw29_EuclidChecks.f (k + 1) a0 a1 a2) := by
 intro a0 a1 a2 k
 have ih0 := sequiturlaw29_EuclidChecks.mono_l k
 unfold sequiturlaw29_EuclidChecks.f
 repeat' first | (with_reducible first | exact ih0 .. | exact euclid_Check.mono .. | exact sequiturlaw29_alive.mono .. | exact sequiturlaw29_few.mono .. | exact sequiturref29_Check.mono .. | exact LeO.refl _ | exact LeO.none _ | refine LeO.ite ?_ ?_ | refine LeO.bind ?_ (fun _ => ?_)) | exact ih0 .. | exact euclid_Check.mono .. | exact sequiturlaw29_alive.mono .. | exact sequiturlaw29_few.mono .. | exact sequiturref29_Check.mono .. | exact LeO.none _ | refine LeO.ite ?_ ?_ | refine LeO.bind ?_ (fun _ => ?_)
theorem sequiturlaw29_EuclidChecks.calls (k : Nat) (A0 : Option Addr) (c0 : Nat) (l0 : List (S41)) (A1 : Option Addr) (c1 : Nat) (l1 : List Int) (a2 : Int) (r : Bool) (w : World) (hr0 : Kd.C k41 w A0 l0.length l0) (hc0 : l0.length ≤ c0) (hr1 : Kd.C (Kd.int .i64) w A1 l1.length l1) (hc1 : l1.length ≤ c1) (h : sequiturlaw29_EuclidChecks.f k l0 l1 a2 = some r) :
  Calls Try.prog 3 #[.slice A0 l0.length c0, .slice A1 l1.length c1, .int .i64 a2] w fun e w' => e = .returned (.bool r) ∧ Below w.heap.size w w' := by
 have HR0 := zK hr0
 have HC0 := zK hc0; clear hr0 hc0
 have HR1 := zK hr1
 have HC1 := zK hc1; clear hr1 hc1
 have HB := zK (Below.refl w.heap.size w)
 have H : ((sequiturlaw29_few.f k l0).bind fun t399 => (if t399 = true then (sequiturlaw29_EuclidChecks.j0 k l0 l1 a2 (decide ((l1.length : Int) > 100))) else (sequiturlaw29_EuclidChecks.j0 k l0 l1 a2 true))) = some r := h
 clear h
 have HC4 := zK H; clear H
 go_enter Try.func3, Try.ntmps3
 go_upto_region 1 with (fail)
 go_cut [14] (fun v14 wc => ∃ (kq : Nat) (x14_3 : Bool), v14 = .bool x14_3 ∧ Aside0 (sequiturlaw29_EuclidChecks.j0 kq l0 l1 a2 x14_3 = some r) ∧ Aside0 (kq ≤ k) ∧ Aside0 (Below w.heap.size w wc))
 case first =>
  have H := HC4.out; clear HC4; replace H := zob H
  obtain ⟨t399, A50, H⟩ := H
  replace H : (if t399 = true then (sequiturlaw29_EuclidChecks.j0 k l0 l1 a2 (decide ((l1.length : Int) > 100))) else (sequiturlaw29_EuclidChecks.j0 k l0 l1 a2 true)) = some r := H
  have A5 := zK A50; clear A50
  by_cases c6 : t399 = true
  ·subst c6
   have H1 : (sequiturlaw29_EuclidChecks.j0 k l0 l1 a2 (decide ((l1.length : Int) > 100))) = some r := by rw [if_pos rfl] at H; exact H
   clear H; have H := H1; clear H1
   have H' := zK H; clear H
   go_wp2_with (first | ((with_reducible refine zC (f := 9) rfl ?_); refine zGo (some 8) Try.func9 #[.slice A0 l0.length c0] ?_; (with_reducible refine (sequiturlaw29_few.calls k _ _ l0 true _ ?side1 ?side2 A5.out).mono ?_); (case side1 => repeat (first | exact (Kd.C_below HR0.out HB.out) | (with_reducible refine cA ?_ _) | (with_reducible refine cN ?_ _) | (with_reducible refine cD ?_))); (case side2 => exact HC0.out); rintro e w7 ⟨rfl, hb⟩; refine ⟨_, rfl, ?_⟩; replace HB := zst HB hb; clear hb))
   go_meet
   case rel => exact ⟨_, (decide ((l1.length : Int) > 100)), (by first | rfl | (simp; done) | (simp [*]; done)), H', ⟨by first | omega | exact Nat.le_refl _⟩, ⟨zo HB⟩⟩
  ·replace c6 := Bool.eq_false_iff.mpr c6
   subst c6
   have H1 : (sequiturlaw29_EuclidChecks.j0 k l0 l1 a2 true) = some r := by rw [if_neg (show ¬ (false = true) by decide)] at H; exact H
   clear H; have H := H1; clear H1
   have H' := zK H; clear H
   go_wp2_with (first | ((with_reducible refine zC (f := 9) rfl ?_); refine zGo (some 8) Try.func9 #[.slice A0 l0.length c0] ?_; (with_reducible refine (sequiturlaw29_few.calls k _ _ l0 false _ ?side1 ?side2 A5.out).mono ?_); (case side1 => repeat (first | exact (Kd.C_below HR0.out HB.out) | (with_reducible refine cA ?_ _) | (with_reducible refine cN ?_ _) | (with_reducible refine cD ?_))); (case side2 => exact HC0.out); rintro e w8 ⟨rfl, hb⟩; refine ⟨_, rfl, ?_⟩; replace HB := zst HB hb; clear hb))
   go_meet
   case rel => exact ⟨_, (true), (by first | rfl | (simp; done) | (simp [*]; done)), H', ⟨by first | omega | exact Nat.le_refl _⟩, ⟨zo HB⟩⟩
 case rest =>
  clear HC4; try clear c1; try clear p2; try clear c3; try clear c6
  obtain ⟨kq, x14_3, rfl, HA, HJ3, HB⟩ := hcut
  cases kq with
  | zero => exact absurd HA.out (by simp [sequiturlaw29_EuclidChecks.j0])
  | succ kj3 =>
   have H := HA.out; clear HA
   simp only [sequiturlaw29_EuclidChecks.j0] at H
   by_cases c9 : x14_3 = true
   ·subst c9
    have H1 : ((sequiturlaw29_alive.f kj3).bind fun t400 => (some t400)) = some r := by rw [if_pos rfl] at H; exact H
    clear H; have H := H1
    clear H1; replace H := zob H
    obtain ⟨t400, A100, H⟩ := H; replace H : (some t400) = some r := H
    have A10 := zK A100; clear A100
    obtain rfl := Option.some.inj H
    go_wp2_with (first | ((with_reducible refine zC (f := 10) rfl ?_); refine zGo (some 15) Try.func10 #[] ?_; (with_reducible refine (sequiturlaw29_alive.calls kj3  t400 _ A10.out).mono ?_); rintro e w11 ⟨rfl, hb⟩; refine ⟨_, rfl, ?_⟩; replace HB := zst HB hb; clear hb))
    go_ret
    exact zR (h := zo HB)
   ·replace c9 := Bool.eq_false_iff.mpr c9
    subst c9
    have H1 : ((euclid_Check.f kj3 l0 l1 a2).bind fun t401 => ((sequiturref29_Check.f kj3 l0 l1 a2).bind fun t402 => (if t401 = t402 then ((sequiturlaw29_alive.f kj3).bind fun t403 => (some t403)) else (none)))) = some r := by rw [if_neg (show ¬ (false = true) by decide)] at H; exact H
    clear H; have H := H1
    clear H1; replace H := zob H
    obtain ⟨t401, A120, H⟩ := H
    replace H : ((sequiturref29_Check.f kj3 l0 l1 a2).bind fun t402 => (if t401 = t402 then ((sequiturlaw29_alive.f kj3).bind fun t403 => (some t403)) else (none))) = some r := H
    have A12 := zK A120; clear A120; replace H := zob H
    obtain ⟨t402, A130, H⟩ := H
    replace H : (if t401 = t402 then ((sequiturlaw29_alive.f kj3).bind fun t403 => (some t403)) else (none)) = some r := H
    have A13 := zK A130; clear A130
    by_cases c14 : t401 = t402
    ·rw [if_pos c14] at H
     have c14b0 : (t401 == t402) = true := beq_iff_eq.mpr c14
     have c14b1 : (t401 != t402) = false := bne_eq_false_iff_eq.mpr c14
     clear c14; replace H := zob H
     obtain ⟨t403, A150, H⟩ := H; replace H : (some t403) = some r := H
     have A15 := zK A150; clear A150
     obtain rfl := Option.some.inj H
     go_wp2_with (first | ((with_reducible refine zC (f := 11) rfl ?_); refine zGo (some 19) Try.func11 #[.slice A0 l0.length c0, .slice A1 l1.length c1, .int .i64 a2] ?_; (with_reducible refine (euclid_Check.calls kj3 _ _ l0 _ _ l1 a2 t401 _ ?side1 ?side2 ?side3 ?side4 A12.out).mono ?_); (case side1 => repeat (first | exact (Kd.C_below HR0.out HB.out) | (with_reducible refine cA ?_ _) | (with_reducible refine cN ?_ _) | (with_reducible refine cD ?_))); (case side2 => exact HC0.out); (case side3 => repeat (first | exact (Kd.C_below HR1.out HB.out) | (with_reducible refine cA ?_ _) | (with_reducible refine cN ?_ _) | (with_reducible refine cD ?_))); (case side4 => exact HC1.out); rintro e w16 ⟨rfl, hb⟩; refine ⟨_, rfl, ?_⟩; replace HB := zst HB hb; clear hb) | ((with_reducible refine zC (f := 12) rfl ?_); refine zGo (some 23) Try.func12 #[.slice A0 l0.length c0, .slice A1 l1.length c1, .int .i64 a2] ?_; (with_reducible refine (sequiturref29_Check.calls kj3 _ _ l0 _ _ l1 a2 t402 _ ?side1 ?side2 ?side3 ?side4 A13.out).mono ?_); (case side1 => repeat (first | exact (Kd.C_below HR0.out HB.out) | (with_reducible refine cA ?_ _) | (with_reducible refine cN ?_ _) | (with_reducible refine cD ?_))); (case side2 => exact HC0.out); (case side3 => repeat (first | exact (Kd.C_below HR1.out HB.out) | (with_reducible refine cA ?_ _) | (with_reducible refine cN ?_ _) | (with_reducible refine cD ?_))); (case side4 => exact HC1.out); rintro e w17 ⟨rfl, hb⟩; refine ⟨_, rfl, ?_⟩; replace HB := zst HB hb; clear hb) | (go_at_call 10; (with_reducible refine (sequiturlaw29_alive.calls kj3  t403 _ A15.out).mono ?_); rintro e w18 ⟨rfl, hb⟩; replace HB := zst HB hb; (try clear hb); (try clear hb2); (try clear hk); (try clear hi)))
     go_ret
     exact zR (h := zo HB)
    ·rw [if_neg c14] at H
     exact absurd H (by simp)

end Go.Proofs.Ytjinmlpekecmbaa.PEuclidChecks
