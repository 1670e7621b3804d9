/- What the call of each function that the law reaches comes to: it answers as the plain function of the same name does, wherever that one answers; and the law itself out of its plain form. Written by a program of this session (an extended copy of the printer); no condition but what stands in each theorem. -/
import Derived.Test.YtkfbfgkdabljiaaPShadowHoldsx0
import Derived.Test.YtkfbfgkdabljiaaPShadowHoldsx8
import Derived.Test.YtkfbfgkdabljiaaPShadowHoldsx10
import Derived.Test.YtkfbfgkdabljiaaPShadowHoldsx11
namespace Go.Proofs.Ytkfbfgkdabljiaa.PShadowHolds
open Go.RowKit Go.Proofs.YtkfbfgkdabljiaaW.PrintWords Go.Proofs.YtkfbfgkdabljiaaW.PrintLast Go.Proofs.YtkfbfgkdabljiaaW.PrintMore
open Go.Proofs.YtkfbfgkdabljiaaW.PrintWords renaming blk_drewN → zN, blk_drew → zD, blk_alloc → zA, below_alloc → yA, pw_below_drewN → yN, below_drew1 → yD, below_set → yS, gate_callee → zC
open Go.Proofs.YtkfbfgkdabljiaaW.PrintWords.Kd renaming V_alloc → vA, V_drewN → vN, V_drew → vD, N_alloc → nA, N_drewN → nN, N_drew → nD, C_alloc → cA, C_drewN → cN, C_drew → cD, V_mono → vM, V_far → vF
open Go.Proofs.YtkfbfgkdabljiaaW.PrintWords.Aside0 renaming mk → zK
open Bool renaming true → T_, false → F_
open List renaming setIfInBounds_toArray → zt, set_cons_zero → zz, set_cons_succ → zs
attribute [local go_sem] max2_int min2_int max_two min_two max_three min_three max_four min_four   -- for this text's walks alone
set_option linter.unusedVariables false
set_option linter.unusedSimpArgs false

/-! ### sequiturref27_Eval: function 37 -/
def sequiturref27_Eval.l0 : Nat → List Int → Int → Int → List (S68) → Int → Int → Int → Int → Option (Int × Int)
 | 0, _, _, _, _, _, _, _, _ => none
 | k + 1, x1, x7, x338000, x338001, x344000, x344001, x344002, x344003 => if x7 < (x338001.length : Int) then (if 0 ≤ x7 then (if ((rd_T68 x338001 x7).f0) < (x1.length : Int) then (if 0 ≤ ((rd_T68 x338001 x7).f0) then ((sequiturref27_More.f k x344000 x344001 x344002 x344003 ((rd_T68 x338001 x7).f1) (rd x1 ((rd_T68 x338001 x7).f0))).bind fun bt348 => (sequiturref27_Eval.l0 k x1 (wrap64 (x7 + 1)) x338000 x338001 bt348.1 bt348.2.1 bt348.2.2.1 bt348.2.2.2)) else (none)) else (sequiturref27_Eval.l0 k x1 (wrap64 (x7 + 1)) x338000 x338001 x344000 x344001 x344002 x344003)) else (none)) else ((sequiturref27_Fits.f x344000 x344001 x344002 x344003).bind fun bt352 => (if bt352.2 = true then (some (bt352.1, 0)) else (some (0, 5))))
def sequiturref27_Eval.f (k : Nat) (a0_0 : Int) (l0_1 : List (S68)) (l1 : List Int) : Option (Int × Int) := (sequiturref27_Right.f k a0_0 l0_1).bind fun t338 => (if t338 = 0 then ((sequiturref27_More.f k 0 0 0 0 a0_0 1).bind fun bt339 => (sequiturref27_Eval.l0 k l1 0 a0_0 l0_1 bt339.1 bt339.2.1 bt339.2.2.1 bt339.2.2.2)) else (some (0, 1)))
theorem sequiturref27_Eval.mono_l : ∀ k, (∀ y0 y1 y2 y3 y4 y5 y6 y7, LeO (sequiturref27_Eval.l0 k y0 y1 y2 y3 y4 y5 y6 y7) (sequiturref27_Eval.l0 (k + 1) y0 y1 y2 y3 y4 y5 y6 y7))
 | 0 => fun _ _ _ _ _ _ _ _ r h => by simp [sequiturref27_Eval.l0] at h
 | k + 1 => by
  have ih0 := sequiturref27_Eval.mono_l k
  ·intro y0 y1 y2 y3 y4 y5 y6 y7
   unfold sequiturref27_Eval.l0
   repeat' first
   | (with_reducible exact ih0 _ _ _ _ _ _ _ _)
   | (with_reducible exact sequiturref27_More.mono _ _ _ _ _ _ _)
   | (with_reducible exact sequiturref27_Right.mono _ _ _)
   | (with_reducible exact LeO.refl _)
   | (with_reducible exact LeO.none _)
   | (with_reducible refine LeO.ite ?_ ?_)
   | (with_reducible refine LeO.bind ?_ (fun _ => ?_))
   | exact ih0 _ _ _ _ _ _ _ _
   | exact sequiturref27_More.mono _ _ _ _ _ _ _
   | exact sequiturref27_Right.mono _ _ _
   | exact LeO.none _
   | refine LeO.ite ?_ ?_
   | refine LeO.bind ?_ (fun _ => ?_)
theorem sequiturref27_Eval.mono : ∀ a0 a1 a2 k, LeO (sequiturref27_Eval.f k a0 a1 a2) (sequiturref27_Eval.f (k + 1) a0 a1 a2) := by
 intro a0 a1 a2 k
 have ih0 := sequiturref27_Eval.mono_l k
 unfold sequiturref27_Eval.f
 repeat' first
   | (with_reducible exact ih0 _ _ _ _ _ _ _ _)
   | (with_reducible exact sequiturref27_More.mono _ _ _ _ _ _ _)
   | (with_reducible exact sequiturref27_Right.mono _ _ _)
   | (with_reducible exact LeO.refl _)
   | (with_reducible exact LeO.none _)
   | (with_reducible refine LeO.ite ?_ ?_)
   | (with_reducible refine LeO.bind ?_ (fun _ => ?_))
   | exact ih0 _ _ _ _ _ _ _ _
   | exact sequiturref27_More.mono _ _ _ _ _ _ _
   | exact sequiturref27_Right.mono _ _ _
   | exact LeO.none _
   | refine LeO.ite ?_ ?_
   | refine LeO.bind ?_ (fun _ => ?_)
def sequiturref27_Eval.T8 : Bool × List (List Nat × List Nat) := (true, [([], []), ([], []), ([1], [1]), ([], []), ([2, 3], [2, 3]), ([4], [4]), ([5], [5]), ([], []), ([], []), ([8], [8]), ([], []), ([9, 10], [9, 10]), ([11], [11]), ([12], [12]), ([7, 13], [7, 13]), ([14], [14]), ([0, 6, 15], [0, 6, 15]), ([16, 16, 0, 1, 2, 3, 4, 5, 6, 7, 8, 9, 10, 11, 12, 13, 14, 15, 16], [16])])
def sequiturref27_Eval.B8 : List Nat := [0, 0, 2, 0, 14, 30, 62, 0, 0, 256, 0, 1792, 3840, 7936, 16256, 32640, 65535, 131071]
theorem sequiturref27_Eval.tab8 : rtab .any (opsOf Try.f37 8) = sequiturref27_Eval.T8 := by kernel_rfl
theorem sequiturref27_Eval.bits8 : waitsOk sequiturref27_Eval.T8.2 sequiturref27_Eval.B8 = true := by kernel_rfl
set_option maxHeartbeats 8000000 in
set_option maxRecDepth 100000 in
theorem sequiturref27_Eval.calls (k : Nat) (a0_0 : Int) (A0_1 : Option Addr) (c0_1 : Nat) (l0_1 : List (S68)) (A1 : Option Addr) (c1 : Nat) (l1 : List Int) (r1 : Int) (r2 : Int) (w : World) (hr0_1 : Kd.C k68 w A0_1 l0_1.length l0_1) (hc0_1 : l0_1.length ≤ c0_1) (hr1 : Kd.C (Kd.int .i64) w A1 l1.length l1) (hc1 : l1.length ≤ c1) (h : sequiturref27_Eval.f k a0_0 l0_1 l1 = some (r1, r2)) :
  Calls Try.prog 37 #[.agg #[.int .i64 a0_0, .slice A0_1 l0_1.length c0_1], .slice A1 l1.length c1] w fun e w' => e = .returned (.tuple #[.int .i64 r1, .int .i64 r2]) ∧ Below w.heap.size w w' := by
 have hu62 := Try.underlying62
 have hu109 := Try.underlying109
 have HR0_1 := zK hr0_1
 have HC0_1 := zK hc0_1; clear hr0_1 hc0_1
 have HR1 := zK hr1
 have HC1 := zK hc1; clear hr1 hc1
 have HB := zK (Below.refl w.heap.size w)
 have H : ((sequiturref27_Right.f k a0_0 l0_1).bind fun t338 => (if t338 = 0 then ((sequiturref27_More.f k 0 0 0 0 a0_0 1).bind fun bt339 => (sequiturref27_Eval.l0 k l1 0 a0_0 l0_1 bt339.1 bt339.2.1 bt339.2.2.1 bt339.2.2.2)) else (some (0, 1)))) = some (r1, r2) := h
 clear h; replace H := Option.bind_eq_some_iff.mp H
 obtain ⟨t338, A30, H⟩ := H
 replace H : (if t338 = 0 then ((sequiturref27_More.f k 0 0 0 0 a0_0 1).bind fun bt339 => (sequiturref27_Eval.l0 k l1 0 a0_0 l0_1 bt339.1 bt339.2.1 bt339.2.2.1 bt339.2.2.2)) else (some (0, 1))) = some (r1, r2) := H
 have A3 := zK A30; clear A30
 by_cases c4 : t338 = 0
 ·rw [if_pos c4] at H
  have c4b0 : (t338 == 0) = true := beq_iff_eq.mpr c4
  have c4b1 : (t338 != 0) = false := bne_eq_false_iff_eq.mpr c4; clear c4
  replace H := Option.bind_eq_some_iff.mp H
  obtain ⟨⟨t339, t340, t341, t342⟩, A50, H⟩ := H
  replace H : (sequiturref27_Eval.l0 k l1 0 a0_0 l0_1 t339 t340 t341 t342) = some (r1, r2) := H
  have A5 := zK A50; clear A50
  have H' := zK H; clear H
  go_enter Try.func37, Try.ntmps37
  go_wp2_with (first | ((with_reducible refine gate_dst (N := 2) rfl ?_); refine box_event ?hg (N := 2) ?hd (cs := #[.int .i64 a0_0, .slice A0_1 l0_1.length c0_1]) (t := 62) ?hr ?_; (case hd => rfl); (case hg => rfl); (case hr => first | (go_simp; done) | (go_simp; rfl)); intro gb337 hg w6 hbox hb; have BK337 := zK (hbox); have GW337 := zK ((by rw [hg]; exact (below_size (zo HB)) : w.heap.size ≤ gb337)); have GE337 := zK ((by rw [hg]; exact (below_size (zo HB)) : w.heap.size ≤ gb337)); replace HB := zK (below_step (zo HB) hb); clear hb hbox hg; have hcz7_0 : w6.cell? ⟨gb337, 0, none⟩ = some (.int .i64 a0_0) := (blk_cell BK337.out 0).trans rfl; have hcz7_1 : w6.cell? ⟨gb337, 1, none⟩ = some (.slice A0_1 l0_1.length c0_1) := (blk_cell BK337.out 1).trans rfl; have hfz7_0 := blk_frozen BK337.out 0; have hfz7_1 := blk_frozen BK337.out 1) | ((with_reducible refine zC (f := 70) rfl ?_); refine goesL_ (some 11) rfl rfl Try.func70 (by kernel_rfl) rfl #[.agg #[.int .i64 a0_0, .slice A0_1 l0_1.length c0_1]] rfl (by (try simp only [List.map_toArray, List.map_cons, List.map_nil]); first | done | rfl | (simp only [List.length_drop, List.length_take]; rfl)) ?_; (with_reducible refine (sequiturref27_Right.calls k a0_0 _ _ l0_1 t338 _ ?side1 ?side2 A3.out).mono ?_); (case side1 => repeat (first | exact (Kd.C_below HR0_1.out HB.out) | (with_reducible refine cA ?_ _) | (with_reducible refine cN ?_ _) | (with_reducible refine cD ?_))); (case side2 => exact HC0_1.out); rintro e w8 ⟨rfl, hb⟩; refine ⟨_, rfl, ?_⟩; replace BK337 := zK (blk_below (g := gb337) (o := .cells #[.int .i64 a0_0, .slice A0_1 l0_1.length c0_1] 62 (0, 0)) (zb BK337) hb); replace HB := zK (below_step (zo HB) hb); (try clear hb); (try clear hb2); (try clear hk); (try clear hi); have hcz9_0 : w8.cell? ⟨gb337, 0, none⟩ = some (.int .i64 a0_0) := (blk_cell BK337.out 0).trans rfl; have hcz9_1 : w8.cell? ⟨gb337, 1, none⟩ = some (.slice A0_1 l0_1.length c0_1) := (blk_cell BK337.out 1).trans rfl; have hfz9_0 := blk_frozen BK337.out 0; have hfz9_1 := blk_frozen BK337.out 1) | ((with_reducible refine zC (f := 71) rfl ?_); refine goesL_ (some 16) rfl rfl Try.func71 (by kernel_rfl) rfl #[.agg #[.int .i64 0, .int .u64 0, .int .i64 0, .int .u64 0], .int .i64 a0_0, .int .i64 1] rfl (by (try simp only [List.map_toArray, List.map_cons, List.map_nil]); first | done | rfl | (simp only [List.length_drop, List.length_take]; rfl)) ?_; (with_reducible refine (sequiturref27_More.calls k 0 0 0 0 a0_0 1 t339 t340 t341 t342 _ A5.out).mono ?_); rintro e w10 ⟨rfl, hb⟩; refine ⟨_, rfl, ?_⟩; replace BK337 := zK (blk_below (g := gb337) (o := .cells #[.int .i64 a0_0, .slice A0_1 l0_1.length c0_1] 62 (0, 0)) (zb BK337) hb); replace HB := zK (below_step (zo HB) hb); (try clear hb); (try clear hb2); (try clear hk); (try clear hi)) | ((with_reducible refine gate_dst (N := 6) rfl ?_); refine box_event ?hg (N := 6) ?hd (cs := #[.int .i64 0, .int .u64 0, .int .i64 0, .int .u64 0]) (t := 109) ?hr ?_; (case hd => rfl); (case hg => rfl); (case hr => first | (go_simp; done) | (go_simp; rfl)); intro gb343 hg w11 hbox hb; have BK343 := zK (hbox); have GW343 := zK ((by rw [hg]; exact (below_size (zo HB)) : w.heap.size ≤ gb343)); have GE343 := zK ((by rw [hg]; exact (below_size (zo HB)) : w.heap.size ≤ gb343)); replace HB := zK (below_step (zo HB) hb); have NB337_343 := zK ((by rw [hg]; exact Nat.ne_of_lt (blk_lt (g := gb337) (o := .cells #[.int .i64 a0_0, .slice A0_1 l0_1.length c0_1] 62 (0, 0)) (zb BK337)) : gb337 ≠ gb343)); have NB343_337 := zK ((by rw [hg]; exact Nat.ne_of_gt (blk_lt (g := gb337) (o := .cells #[.int .i64 a0_0, .slice A0_1 l0_1.length c0_1] 62 (0, 0)) (zb BK337)) : gb343 ≠ gb337)); replace BK337 := zK (blk_below (g := gb337) (o := .cells #[.int .i64 a0_0, .slice A0_1 l0_1.length c0_1] 62 (0, 0)) (zb BK337) hb); clear hb hbox hg; have hnb12 := NB343_337.out; have hnc12 := NB337_343.out; have hcz13_0 : w11.cell? ⟨gb343, 0, none⟩ = some (.int .i64 0) := (blk_cell BK343.out 0).trans rfl; have hcz13_1 : w11.cell? ⟨gb343, 1, none⟩ = some (.int .u64 0) := (blk_cell BK343.out 1).trans rfl; have hcz13_2 : w11.cell? ⟨gb343, 2, none⟩ = some (.int .i64 0) := (blk_cell BK343.out 2).trans rfl; have hcz13_3 : w11.cell? ⟨gb343, 3, none⟩ = some (.int .u64 0) := (blk_cell BK343.out 3).trans rfl; have hfz13_0 := blk_frozen BK343.out 0; have hfz13_1 := blk_frozen BK343.out 1; have hfz13_2 := blk_frozen BK343.out 2; have hfz13_3 := blk_frozen BK343.out 3))
  go_loopg [7] k (fun kq v7 w' => ∃ (x7_1 : Int) (x344000_1 : Int) (x344001_1 : Int) (x344002_1 : Int) (x344003_1 : Int), v7 = .int .i64 x7_1 ∧ Aside0 (sequiturref27_Eval.l0 kq l1 x7_1 a0_0 l0_1 x344000_1 x344001_1 x344002_1 x344003_1 = some (r1, r2)) ∧ Aside0 (kq ≤ k) ∧ Aside0 (w'.heap[gb337]? = some (.cells #[.int .i64 a0_0, (.slice A0_1 l0_1.length c0_1)] 62 (0, 0))) ∧ Aside0 (w'.heap[gb343]? = some (.cells #[.int .i64 x344000_1, .int .u64 x344001_1, .int .i64 x344002_1, .int .u64 x344003_1] 109 (0, 0))) ∧ Aside0 (Below w.heap.size w w'))
  case atStart => exact ⟨(0), (t339), (t340), (t341), (t342), (by first | rfl | (simp; done) | (simp [*]; done)), H', ⟨Nat.le_refl _⟩, ⟨zb BK337⟩, ⟨by refine zM ?_; refine blk_put (cs := #[.int .i64 t339, .int .u64 t340, .int .i64 t341, .int .u64 0]) ?_ 3 _ rfl; refine zM ?_; refine blk_put (cs := #[.int .i64 t339, .int .u64 t340, .int .i64 0, .int .u64 0]) ?_ 2 _ rfl; refine zM ?_; refine blk_put (cs := #[.int .i64 t339, .int .u64 0, .int .i64 0, .int .u64 0]) ?_ 1 _ rfl; refine zM ?_; refine blk_put (cs := #[.int .i64 0, .int .u64 0, .int .i64 0, .int .u64 0]) ?_ 0 _ rfl; refine zM ?_; exact BK343.out⟩, ⟨zo HB⟩⟩
  case round =>
   clear H'; try clear c1; try clear p2; try clear c3
   try clear c4; try clear c4b0; try clear c4b1; try clear c7
   try clear c12; try clear hcz13_0; try clear hcz13_1; try clear hcz13_2
   try clear hcz13_3; try clear hcz7_0; try clear hcz7_1; try clear hcz9_0
   try clear hcz9_1; try clear hfz13_0; try clear hfz13_1; try clear hfz13_2
   try clear hfz13_3; try clear hfz7_0; try clear hfz7_1; try clear hfz9_0
   try clear hfz9_1
   obtain ⟨x7_1, x344000_1, x344001_1, x344002_1, x344003_1, rfl, HA, HK1, BK337, BK343, HB⟩ := hrel
   cases gk with
   | zero => exact absurd HA.out (by simp [sequiturref27_Eval.l0])
   | succ k1 =>
    have H := HA.out; clear HA
    simp only [sequiturref27_Eval.l0] at H
    by_cases c14 : x7_1 < (l0_1.length : Int)
    ·rw [if_pos c14] at H
     have c14b0 : decide (x7_1 < (l0_1.length : Int)) = true := decide_eq_true c14
     clear c14
     by_cases c15 : 0 ≤ x7_1
     ·rw [if_pos c15] at H
      have c15b0 : decide (0 ≤ x7_1) = true := decide_eq_true c15; clear c15
      by_cases c16 : ((rd_T68 l0_1 x7_1).f0) < (l1.length : Int)
      ·rw [if_pos c16] at H
       have c16b0 : decide (((rd_T68 l0_1 x7_1).f0) < (l1.length : Int)) = true := decide_eq_true c16
       clear c16
       by_cases c17 : 0 ≤ ((rd_T68 l0_1 x7_1).f0)
       ·rw [if_pos c17] at H
        have c17b0 : decide (0 ≤ ((rd_T68 l0_1 x7_1).f0)) = true := decide_eq_true c17
        clear c17; replace H := Option.bind_eq_some_iff.mp H
        obtain ⟨⟨t348, t349, t350, t351⟩, A180, H⟩ := H
        replace H : (sequiturref27_Eval.l0 k1 l1 (wrap64 (x7_1 + 1)) a0_0 l0_1 t348 t349 t350 t351) = some (r1, r2) := H
        have A18 := zK A180; clear A180
        have H' := zK H; clear H
        have hnb19 := NB337_343.out
        have hnc19 := NB343_337.out
        have hcz20_0 : wr.cell? ⟨gb337, 0, none⟩ = some (.int .i64 a0_0) := (blk_cell BK337.out 0).trans rfl
        have hcz20_1 : wr.cell? ⟨gb337, 1, none⟩ = some (.slice A0_1 l0_1.length c0_1) := (blk_cell BK337.out 1).trans rfl
        have hfz20_0 := blk_frozen BK337.out 0
        have hfz20_1 := blk_frozen BK337.out 1
        have p344 : 0 ≤ (x7_1 : Int) := of_decide_eq_true (by first | (with_reducible assumption) | assumption)
        have q344 : x7_1 < (l0_1.length : Int) := of_decide_eq_true (by first | (with_reducible assumption) | assumption)
        obtain ⟨ad344, e344, hx344_0, hx344_1⟩ := at_T68 HR0_1.out x7_1 p344 q344
        cases e344
        replace hx344_0 := (HB.out.cell (World.block_lt_of_cell? w _ hx344_0)).trans hx344_0
        replace hx344_1 := (HB.out.cell (World.block_lt_of_cell? w _ hx344_1)).trans hx344_1
        replace p344 := eq_true p344
        replace q344 := eq_true q344
        try go_wp2
        replace BK337 := zK (zD BK337.out)
        replace BK343 := zK (zD BK343.out)
        replace HB := zK (yD HB.out)
        have p345 : 0 ≤ (x7_1 : Int) := of_decide_eq_true (by first | (with_reducible assumption) | assumption)
        have q345 : x7_1 < (l0_1.length : Int) := of_decide_eq_true (by first | (with_reducible assumption) | assumption)
        obtain ⟨ad345, e345, hx345_0, hx345_1⟩ := at_T68 HR0_1.out x7_1 p345 q345
        have hw345_1 := hx345_1
        have hw345_0 := hx345_0
        obtain rfl : ad344 = ad345 := (by injection e345)
        replace hx345_0 := (HB.out.cell (World.block_lt_of_cell? w _ hx345_0)).trans hx345_0
        replace hx345_1 := (HB.out.cell (World.block_lt_of_cell? w _ hx345_1)).trans hx345_1
        replace p345 := eq_true p345
        replace q345 := eq_true q345
        have p346 : 0 ≤ (x7_1 : Int) := of_decide_eq_true (by first | (with_reducible assumption) | assumption)
        have q346 : x7_1 < (l0_1.length : Int) := of_decide_eq_true (by first | (with_reducible assumption) | assumption)
        obtain ⟨ad346, e346, hx346_0, hx346_1⟩ := at_T68 HR0_1.out x7_1 p346 q346
        have hw346_1 := hx346_1
        have hw346_0 := hx346_0
        obtain rfl : ad344 = ad346 := (by injection e346)
        replace hx346_0 := (HB.out.cell (World.block_lt_of_cell? w _ hx346_0)).trans hx346_0
        replace hx346_1 := (HB.out.cell (World.block_lt_of_cell? w _ hx346_1)).trans hx346_1
        replace p346 := eq_true p346
        replace q346 := eq_true q346
        have p347 : 0 ≤ (((rd_T68 l0_1 x7_1).f0) : Int) := of_decide_eq_true (by first | (with_reducible assumption) | assumption)
        have q347 : ((rd_T68 l0_1 x7_1).f0) < (l1.length : Int) := of_decide_eq_true (by first | (with_reducible assumption) | assumption)
        obtain ⟨ad347, e347, hx347_0⟩ := Kd.at_int HR1.out ((rd_T68 l0_1 x7_1).f0) p347 q347
        have hw347_0 := hx347_0
        cases e347
        replace hx347_0 := (HB.out.cell (World.block_lt_of_cell? w _ hx347_0)).trans hx347_0
        replace p347 := eq_true p347
        replace q347 := eq_true q347
        refine start_ (n := 18) (S := fun w' => w'.cell? ⟨gb343, 0, none⟩ = some (.int .i64 x344000_1) ∧ w'.cell? ⟨gb343, 1, none⟩ = some (.int .u64 x344001_1) ∧ w'.cell? ⟨gb343, 2, none⟩ = some (.int .i64 x344002_1) ∧ w'.cell? ⟨gb343, 3, none⟩ = some (.int .u64 x344003_1) ∧ w'.cell? ⟨gb337, 0, none⟩ = some (.int .i64 a0_0) ∧ w'.cell? ⟨gb337, 1, none⟩ = some (.slice (some ad344) l0_1.length c0_1) ∧ w'.cell? (ad344.add ((x7_1).toNat * 2)) = some (.int .i64 ((rd_T68 l0_1 x7_1).f0)) ∧ w'.cell? ⟨(ad344.add ((x7_1).toNat * 2)).block, (ad344.add ((x7_1).toNat * 2)).off + 1, none⟩ = some (.int .i64 ((rd_T68 l0_1 x7_1).f1)) ∧ w'.cell? (ad344.add ((x7_1).toNat * 2)) = some (.int .i64 ((rd_T68 l0_1 x7_1).f0)) ∧ w'.cell? ⟨(ad344.add ((x7_1).toNat * 2)).block, (ad344.add ((x7_1).toNat * 2)).off + 1, none⟩ = some (.int .i64 ((rd_T68 l0_1 x7_1).f1)) ∧ w'.cell? (ad347.add (((rd_T68 l0_1 x7_1).f0)).toNat) = some (.int .i64 (rd l1 ((rd_T68 l0_1 x7_1).f0)))) (ds := [17]) #[F_,F_,F_,F_,F_,F_,F_,F_,F_,F_,F_,F_,F_,F_,F_,F_,F_,F_] (by kernel_rfl) rfl rfl ⟨(blk_cell BK343.out 0).trans rfl, (blk_cell BK343.out 1).trans rfl, (blk_cell BK343.out 2).trans rfl, (blk_cell BK343.out 3).trans rfl, (blk_cell BK337.out 0).trans rfl, (blk_cell BK337.out 1).trans rfl, ((HB.out.cell (World.block_lt_of_cell? w _ hw345_0)).trans hw345_0), ((HB.out.cell (World.block_lt_of_cell? w _ hw345_1)).trans hw345_1), ((HB.out.cell (World.block_lt_of_cell? w _ hw346_0)).trans hw346_0), ((HB.out.cell (World.block_lt_of_cell? w _ hw346_1)).trans hw346_1), ((HB.out.cell (World.block_lt_of_cell? w _ hw347_0)).trans hw347_0)⟩ (fun hHeld => ?_); refine with_tabW sequiturref27_Eval.tab8 sequiturref27_Eval.bits8 (fun HT_ HW_ => ?_)
        generalize wr.drew = w21 at BK337 BK343 HB hx345_0 hx345_1 hx346_0 hx346_1 hx347_0 hHeld ⊢
        refine pure_ (i := 1) (N := some 34) (v := ?_) (a' := ?_) #[F_,T_,F_,F_,F_,F_,F_,F_,F_,F_,F_,F_,F_,F_,F_,F_,F_,F_] rfl rfl (any_of HT_.out (by kernel_rfl)) (fun _ _ _ h => h) (Or.inl ⟨by rfl, ?_⟩) ?_ ?_; rotate_left; (intro w'; go_simp; with_reducible rfl); rotate_left; (simp only [Act.put, zt, zz, zs, i64_w, i32_w]; rfl)
        refine pure_ (i := 3) (N := some 36) (v := ?_) (a' := ?_) #[F_,T_,F_,T_,F_,F_,F_,F_,F_,F_,F_,F_,F_,F_,F_,F_,F_,F_] rfl rfl (any_of HT_.out (by kernel_rfl)) (fun _ _ _ h => h) (Or.inl ⟨by rfl, ?_⟩) ?_ ?_; rotate_left; (intro w'; go_simp; with_reducible rfl); rotate_left; (simp only [Act.put, zt, zz, zs, i64_w, i32_w]; rfl)
        refine pure_ (i := 7) (N := some 40) (v := ?_) (a' := ?_) #[F_,T_,F_,T_,F_,F_,F_,T_,F_,F_,F_,F_,F_,F_,F_,F_,F_,F_] rfl rfl (any_of HT_.out (by kernel_rfl)) (fun _ _ _ h => h) (Or.inl ⟨by rfl, ?_⟩) ?_ ?_; rotate_left; (intro w'; go_simp; with_reducible rfl); rotate_left; (simp only [Act.put, zt, zz, zs, i64_w, i32_w]; rfl)
        refine pure_ (i := 8) (N := some 41) (v := ?_) (a' := ?_) #[F_,T_,F_,T_,F_,F_,F_,T_,T_,F_,F_,F_,F_,F_,F_,F_,F_,F_] rfl rfl (any_of HT_.out (by kernel_rfl)) (fun _ _ _ h => h) (Or.inl ⟨by rfl, ?_⟩) ?_ ?_; rotate_left; (intro w'; go_simp; with_reducible rfl); rotate_left; (simp only [Act.put, zt, zz, zs, i64_w, i32_w]; rfl)
        refine pure_ (i := 10) (N := some 43) (v := ?_) (a' := ?_) #[F_,T_,F_,T_,F_,F_,F_,T_,T_,F_,T_,F_,F_,F_,F_,F_,F_,F_] rfl rfl (any_of HT_.out (by kernel_rfl)) (fun _ _ _ h => h) (Or.inl ⟨by rfl, ?_⟩) ?_ ?_; rotate_left; (intro w'; go_simp; with_reducible rfl); rotate_left; (simp only [Act.put, zt, zz, zs, i64_w, i32_w]; rfl)
        refine take_ (i := 0) (N := some 33) (v := ?_) (a' := ?_) #[T_,T_,F_,T_,F_,F_,F_,T_,T_,F_,T_,F_,F_,F_,F_,F_,F_,F_] rfl rfl (take_ofW HT_.out HW_.out (by kernel_rfl)) (fun _ _ _ h => h) (Or.inl ⟨by rfl, ?_⟩) hHeld ?_ ?_; rotate_left; (rintro w' ⟨s0, s1, s2, s3, s4, s5, s6, s7, s8, s9, s10⟩; go_simp; with_reducible rfl); rotate_left; (simp only [Act.put, zt, zz, zs, i64_w, i32_w]; rfl)
        refine take_ (i := 2) (N := some 35) (v := ?_) (a' := ?_) #[T_,T_,T_,T_,F_,F_,F_,T_,T_,F_,T_,F_,F_,F_,F_,F_,F_,F_] rfl rfl (take_ofW HT_.out HW_.out (by kernel_rfl)) (fun _ _ _ h => h) (Or.inl ⟨by rfl, ?_⟩) hHeld ?_ ?_; rotate_left; (rintro w' ⟨s0, s1, s2, s3, s4, s5, s6, s7, s8, s9, s10⟩; go_simp; with_reducible rfl); rotate_left; (simp only [Act.put, zt, zz, zs, i64_w, i32_w]; rfl)
        refine pure_ (i := 4) (N := some 37) (v := ?_) (a' := ?_) #[T_,T_,T_,T_,T_,F_,F_,T_,T_,F_,T_,F_,F_,F_,F_,F_,F_,F_] rfl rfl (any_of HT_.out (by kernel_rfl)) (fun _ _ _ h => h) (Or.inl ⟨by rfl, ?_⟩) ?_ ?_; rotate_left; (intro w'; go_simp; with_reducible rfl); rotate_left; (simp only [Act.put, zt, zz, zs, i64_w, i32_w]; rfl)
        refine pure_ (i := 5) (N := some 38) (v := ?_) (a' := ?_) #[T_,T_,T_,T_,T_,T_,F_,T_,T_,F_,T_,F_,F_,F_,F_,F_,F_,F_] rfl rfl (any_of HT_.out (by kernel_rfl)) (fun _ _ _ h => h) (Or.inl ⟨by rfl, ?_⟩) ?_ ?_; rotate_left; (intro w'; go_simp; with_reducible rfl); rotate_left; (simp only [Act.put, zt, zz, zs, i64_w, i32_w]; rfl)
        refine take_ (i := 6) (N := some 39) (v := ?_) (a' := ?_) #[T_,T_,T_,T_,T_,T_,T_,T_,T_,F_,T_,F_,F_,F_,F_,F_,F_,F_] rfl rfl (take_ofW HT_.out HW_.out (by kernel_rfl)) (fun _ _ _ h => h) (Or.inl ⟨by rfl, ?_⟩) hHeld ?_ ?_; rotate_left; (rintro w' ⟨s0, s1, s2, s3, s4, s5, s6, s7, s8, s9, s10⟩; go_simp; with_reducible rfl); rotate_left; (simp only [Act.put, zt, zz, zs, i64_w, i32_w]; rfl)
        refine take_ (i := 9) (N := some 42) (v := ?_) (a' := ?_) #[T_,T_,T_,T_,T_,T_,T_,T_,T_,T_,T_,F_,F_,F_,F_,F_,F_,F_] rfl rfl (take_ofW HT_.out HW_.out (by kernel_rfl)) (fun _ _ _ h => h) (Or.inl ⟨by rfl, ?_⟩) hHeld ?_ ?_; rotate_left; (rintro w' ⟨s0, s1, s2, s3, s4, s5, s6, s7, s8, s9, s10⟩; go_simp; with_reducible rfl); rotate_left; (simp only [Act.put, zt, zz, zs, i64_w, i32_w]; rfl)
        refine pure_ (i := 11) (N := some 44) (v := ?_) (a' := ?_) #[T_,T_,T_,T_,T_,T_,T_,T_,T_,T_,T_,T_,F_,F_,F_,F_,F_,F_] rfl rfl (any_of HT_.out (by kernel_rfl)) (fun _ _ _ h => h) (Or.inl ⟨by rfl, ?_⟩) ?_ ?_; rotate_left; (intro w'; go_simp; with_reducible rfl); rotate_left; (simp only [Act.put, zt, zz, zs, i64_w, i32_w]; rfl)
        refine pure_ (i := 12) (N := some 45) (v := ?_) (a' := ?_) #[T_,T_,T_,T_,T_,T_,T_,T_,T_,T_,T_,T_,T_,F_,F_,F_,F_,F_] rfl rfl (any_of HT_.out (by kernel_rfl)) (fun _ _ _ h => h) (Or.inl ⟨by rfl, ?_⟩) ?_ ?_; rotate_left; (intro w'; go_simp; with_reducible rfl); rotate_left; (simp only [Act.put, zt, zz, zs, i64_w, i32_w]; rfl)
        refine take_ (i := 13) (N := some 46) (v := ?_) (a' := ?_) #[T_,T_,T_,T_,T_,T_,T_,T_,T_,T_,T_,T_,T_,T_,F_,F_,F_,F_] rfl rfl (take_ofW HT_.out HW_.out (by kernel_rfl)) (fun _ _ _ h => h) (Or.inl ⟨by rfl, ?_⟩) hHeld ?_ ?_; rotate_left; (rintro w' ⟨s0, s1, s2, s3, s4, s5, s6, s7, s8, s9, s10⟩; go_simp; with_reducible rfl); rotate_left; (simp only [Act.put, zt, zz, zs, i64_w, i32_w]; rfl)
        refine pure_ (i := 14) (N := some 47) (v := ?_) (a' := ?_) #[T_,T_,T_,T_,T_,T_,T_,T_,T_,T_,T_,T_,T_,T_,T_,F_,F_,F_] rfl rfl (any_of HT_.out (by kernel_rfl)) (fun _ _ _ h => h) (Or.inl ⟨by rfl, ?_⟩) ?_ ?_; rotate_left; (intro w'; go_simp; with_reducible rfl); rotate_left; (simp only [Act.put, zt, zz, zs, i64_w, i32_w]; rfl)
        refine take_ (i := 15) (N := some 48) (v := ?_) (a' := ?_) #[T_,T_,T_,T_,T_,T_,T_,T_,T_,T_,T_,T_,T_,T_,T_,T_,F_,F_] rfl rfl (take_ofW HT_.out HW_.out (by kernel_rfl)) (fun _ _ _ h => h) (Or.inl ⟨by rfl, ?_⟩) hHeld ?_ ?_; rotate_left; (rintro w' ⟨s0, s1, s2, s3, s4, s5, s6, s7, s8, s9, s10⟩; go_simp; with_reducible rfl); rotate_left; (simp only [Act.put, zt, zz, zs, i64_w, i32_w]; rfl)
        refine one_ (i := 16) (N := some 49) #[T_,T_,T_,T_,T_,T_,T_,T_,T_,T_,T_,T_,T_,T_,T_,T_,T_,F_] rfl rfl (one_of HT_.out (by kernel_rfl)) (by decide) (fun K hK => ?_)
        refine goes_ Try.func71 (by kernel_rfl) rfl #[.agg #[.int .i64 x344000_1, .int .u64 x344001_1, .int .i64 x344002_1, .int .u64 x344003_1], .int .i64 ((rd_T68 l0_1 x7_1).f1), .int .i64 (rd l1 ((rd_T68 l0_1 x7_1).f0))] (by rfl) rfl rfl (by (try simp only [List.map_toArray, List.map_cons, List.map_nil]); first | done | rfl | (simp only [List.length_drop, List.length_take]; rfl)) ?_
        with_reducible refine (sequiturref27_More.calls k1 x344000_1 x344001_1 x344002_1 x344003_1 ((rd_T68 l0_1 x7_1).f1) (rd l1 ((rd_T68 l0_1 x7_1).f0)) t348 t349 t350 t351 _ A18.out).mono ?_
        rintro e w22 ⟨rfl, hb⟩
        refine ⟨_, rfl, ?_⟩
        replace BK337 := zK (blk_below (g := gb337) (o := .cells #[.int .i64 a0_0, .slice (some ad344) l0_1.length c0_1] 62 (0, 0)) (zb BK337) hb)
        replace BK343 := zK (blk_below (g := gb343) (o := .cells #[.int .i64 x344000_1, .int .u64 x344001_1, .int .i64 x344002_1, .int .u64 x344003_1] 109 (0, 0)) (zb BK343) hb)
        replace HB := zK (below_step (zo HB) hb)
        (try clear hb); (try clear hb2); (try clear hk); (try clear hi)
        refine hK.out _ _ ⟨(blk_cell BK343.out 0).trans rfl, (blk_cell BK343.out 1).trans rfl, (blk_cell BK343.out 2).trans rfl, (blk_cell BK343.out 3).trans rfl, (blk_cell BK337.out 0).trans rfl, (blk_cell BK337.out 1).trans rfl, ((HB.out.cell (World.block_lt_of_cell? w _ hw345_0)).trans hw345_0), ((HB.out.cell (World.block_lt_of_cell? w _ hw345_1)).trans hw345_1), ((HB.out.cell (World.block_lt_of_cell? w _ hw346_0)).trans hw346_0), ((HB.out.cell (World.block_lt_of_cell? w _ hw346_1)).trans hw346_1), ((HB.out.cell (World.block_lt_of_cell? w _ hw347_0)).trans hw347_0)⟩ (fun hHeld => ?_)
        clear hK K
        refine norm_ (a' := ?_) ?_ ?_; rotate_left; (show Act.put _ (some 49) _ = _; simp only [Act.put, zt, zz, zs, i64_w, i32_w]; rfl)
        refine last_ (i := 17) (N := none) #[T_,T_,T_,T_,T_,T_,T_,T_,T_,T_,T_,T_,T_,T_,T_,T_,T_,T_] rfl rfl (one_of HT_.out (by kernel_rfl)) (by decide) (fun K hK => ?_)
        have hs23 : w22.cell? ⟨gb343, 0, none⟩ = some (.int .i64 x344000_1) := (blk_cell BK343.out 0).trans rfl
        have hfs23 := blk_frozen BK343.out 0
        have hns23_0 := NB337_343.out
        have hms23_0 := NB343_337.out
        have hs24 : w22.cell? ⟨gb343, 1, none⟩ = some (.int .u64 x344001_1) := (blk_cell BK343.out 1).trans rfl
        have hfs24 := blk_frozen BK343.out 1
        have hns24_0 := NB337_343.out
        have hms24_0 := NB343_337.out
        have hs25 : w22.cell? ⟨gb343, 2, none⟩ = some (.int .i64 x344002_1) := (blk_cell BK343.out 2).trans rfl
        have hfs25 := blk_frozen BK343.out 2
        have hns25_0 := NB337_343.out
        have hms25_0 := NB343_337.out
        have hs26 : w22.cell? ⟨gb343, 3, none⟩ = some (.int .u64 x344003_1) := (blk_cell BK343.out 3).trans rfl
        have hfs26 := blk_frozen BK343.out 3
        have hns26_0 := NB337_343.out
        have hms26_0 := NB343_337.out
        refine skip_ (w1 := ?_) (by rfl) rfl ?_ ?_
        rotate_left
        ·go_simp
         rfl
        refine hK.out _ _ ?_
        clear hK K
        refine done_ (done_of HT_.out (by kernel_rfl)) ?_
        try go_wp2
        go_roundg k1
        case measure => have := HK1.out; omega
        case rel => exact ⟨(wrap64 (x7_1 + 1)), (t348), (t349), (t350), (t351), (by first | rfl | (simp; done) | (simp [*]; done)), H', ⟨by have := HK1.out; omega⟩, ⟨zb BK337⟩, ⟨by refine zM ?_; refine blk_put (cs := #[.int .i64 t348, .int .u64 t349, .int .i64 t350, .int .u64 x344003_1]) ?_ 3 _ rfl; refine zM ?_; refine blk_put (cs := #[.int .i64 t348, .int .u64 t349, .int .i64 x344002_1, .int .u64 x344003_1]) ?_ 2 _ rfl; refine zM ?_; refine blk_put (cs := #[.int .i64 t348, .int .u64 x344001_1, .int .i64 x344002_1, .int .u64 x344003_1]) ?_ 1 _ rfl; refine zM ?_; refine blk_put (cs := #[.int .i64 x344000_1, .int .u64 x344001_1, .int .i64 x344002_1, .int .u64 x344003_1]) ?_ 0 _ rfl; refine zM ?_; exact BK343.out⟩, ⟨zo HB⟩⟩
       ·rw [if_neg c17] at H
        exact absurd H (by simp)
      ·rw [if_neg c16] at H
       have c16b0 : decide (((rd_T68 l0_1 x7_1).f0) < (l1.length : Int)) = false := decide_eq_false c16
       clear c16
       have H' := zK H; clear H
       have hnb27 := NB337_343.out
       have hnc27 := NB343_337.out
       have hcz28_0 : wr.cell? ⟨gb337, 0, none⟩ = some (.int .i64 a0_0) := (blk_cell BK337.out 0).trans rfl
       have hcz28_1 : wr.cell? ⟨gb337, 1, none⟩ = some (.slice A0_1 l0_1.length c0_1) := (blk_cell BK337.out 1).trans rfl
       have hfz28_0 := blk_frozen BK337.out 0
       have hfz28_1 := blk_frozen BK337.out 1
       have p344 : 0 ≤ (x7_1 : Int) := of_decide_eq_true (by first | (with_reducible assumption) | assumption)
       have q344 : x7_1 < (l0_1.length : Int) := of_decide_eq_true (by first | (with_reducible assumption) | assumption)
       obtain ⟨ad344, e344, hx344_0, hx344_1⟩ := at_T68 HR0_1.out x7_1 p344 q344
       cases e344
       replace hx344_0 := (HB.out.cell (World.block_lt_of_cell? w _ hx344_0)).trans hx344_0
       replace hx344_1 := (HB.out.cell (World.block_lt_of_cell? w _ hx344_1)).trans hx344_1
       replace p344 := eq_true p344
       replace q344 := eq_true q344
       go_wp2
       go_roundg k1
       case measure => have := HK1.out; omega
       case rel => exact ⟨(wrap64 (x7_1 + 1)), (x344000_1), (x344001_1), (x344002_1), (x344003_1), (by first | rfl | (simp; done) | (simp [*]; done)), H', ⟨by have := HK1.out; omega⟩, ⟨zb BK337⟩, ⟨zb BK343⟩, ⟨zo HB⟩⟩
     ·rw [if_neg c15] at H
      exact absurd H (by simp)
    ·rw [if_neg c14] at H
     have c14b0 : decide (x7_1 < (l0_1.length : Int)) = false := decide_eq_false c14
     clear c14; replace H := Option.bind_eq_some_iff.mp H
     obtain ⟨⟨t352, t353⟩, A290, H⟩ := H
     replace H : (if t353 = true then (some (t352, 0)) else (some (0, 5))) = some (r1, r2) := H
     have A29 := zK A290; clear A290
     by_cases c30 : t353 = true
     ·subst c30
      have H1 : (some (t352, 0)) = some (r1, r2) := by rw [if_pos rfl] at H; exact H
      clear H; have H := H1; clear H1
      simp only [Option.some.injEq, Prod.mk.injEq] at H
      obtain ⟨rfl, rfl⟩ := H
      have hnb31 := NB337_343.out
      have hnc31 := NB343_337.out
      have hcz32_0 : wr.cell? ⟨gb337, 0, none⟩ = some (.int .i64 a0_0) := (blk_cell BK337.out 0).trans rfl
      have hcz32_1 : wr.cell? ⟨gb337, 1, none⟩ = some (.slice A0_1 l0_1.length c0_1) := (blk_cell BK337.out 1).trans rfl
      have hfz32_0 := blk_frozen BK337.out 0
      have hfz32_1 := blk_frozen BK337.out 1
      have hcz33_0 : wr.cell? ⟨gb343, 0, none⟩ = some (.int .i64 x344000_1) := (blk_cell BK343.out 0).trans rfl
      have hcz33_1 : wr.cell? ⟨gb343, 1, none⟩ = some (.int .u64 x344001_1) := (blk_cell BK343.out 1).trans rfl
      have hcz33_2 : wr.cell? ⟨gb343, 2, none⟩ = some (.int .i64 x344002_1) := (blk_cell BK343.out 2).trans rfl
      have hcz33_3 : wr.cell? ⟨gb343, 3, none⟩ = some (.int .u64 x344003_1) := (blk_cell BK343.out 3).trans rfl
      have hfz33_0 := blk_frozen BK343.out 0
      have hfz33_1 := blk_frozen BK343.out 1
      have hfz33_2 := blk_frozen BK343.out 2
      have hfz33_3 := blk_frozen BK343.out 3
      go_wp2_with (first | ((with_reducible refine zC (f := 72) rfl ?_); refine goesL_ (some 52) rfl rfl Try.func72 (by kernel_rfl) rfl #[.agg #[.int .i64 x344000_1, .int .u64 x344001_1, .int .i64 x344002_1, .int .u64 x344003_1]] rfl (by (try simp only [List.map_toArray, List.map_cons, List.map_nil]); first | done | rfl | (simp only [List.length_drop, List.length_take]; rfl)) ?_; (with_reducible refine (sequiturref27_Fits.calls x344000_1 x344001_1 x344002_1 x344003_1 t352 true _ A29.out).mono ?_); rintro e w34 ⟨rfl, hb⟩; refine ⟨_, rfl, ?_⟩; replace BK337 := zK (blk_below (g := gb337) (o := .cells #[.int .i64 a0_0, .slice A0_1 l0_1.length c0_1] 62 (0, 0)) (zb BK337) hb); replace BK343 := zK (blk_below (g := gb343) (o := .cells #[.int .i64 x344000_1, .int .u64 x344001_1, .int .i64 x344002_1, .int .u64 x344003_1] 109 (0, 0)) (zb BK343) hb); replace HB := zK (below_step (zo HB) hb); (try clear hb); (try clear hb2); (try clear hk); (try clear hi)))
      go_ret2
      exact ⟨by first | rfl | (simp [errW_none, errW_some] <;> rfl) | (simp [*, errW_none, errW_some] <;> rfl), zo HB⟩
     ·replace c30 := Bool.eq_false_iff.mpr c30
      subst c30
      have H1 : (some (0, 5)) = some (r1, r2) := by rw [if_neg (show ¬ (false = true) by decide)] at H; exact H
      clear H; have H := H1; clear H1
      simp only [Option.some.injEq, Prod.mk.injEq] at H
      obtain ⟨rfl, rfl⟩ := H
      have hnb35 := NB337_343.out
      have hnc35 := NB343_337.out
      have hcz36_0 : wr.cell? ⟨gb337, 0, none⟩ = some (.int .i64 a0_0) := (blk_cell BK337.out 0).trans rfl
      have hcz36_1 : wr.cell? ⟨gb337, 1, none⟩ = some (.slice A0_1 l0_1.length c0_1) := (blk_cell BK337.out 1).trans rfl
      have hfz36_0 := blk_frozen BK337.out 0
      have hfz36_1 := blk_frozen BK337.out 1
      have hcz37_0 : wr.cell? ⟨gb343, 0, none⟩ = some (.int .i64 x344000_1) := (blk_cell BK343.out 0).trans rfl
      have hcz37_1 : wr.cell? ⟨gb343, 1, none⟩ = some (.int .u64 x344001_1) := (blk_cell BK343.out 1).trans rfl
      have hcz37_2 : wr.cell? ⟨gb343, 2, none⟩ = some (.int .i64 x344002_1) := (blk_cell BK343.out 2).trans rfl
      have hcz37_3 : wr.cell? ⟨gb343, 3, none⟩ = some (.int .u64 x344003_1) := (blk_cell BK343.out 3).trans rfl
      have hfz37_0 := blk_frozen BK343.out 0
      have hfz37_1 := blk_frozen BK343.out 1
      have hfz37_2 := blk_frozen BK343.out 2
      have hfz37_3 := blk_frozen BK343.out 3
      go_wp2_with (first | ((with_reducible refine zC (f := 72) rfl ?_); refine goesL_ (some 52) rfl rfl Try.func72 (by kernel_rfl) rfl #[.agg #[.int .i64 x344000_1, .int .u64 x344001_1, .int .i64 x344002_1, .int .u64 x344003_1]] rfl (by (try simp only [List.map_toArray, List.map_cons, List.map_nil]); first | done | rfl | (simp only [List.length_drop, List.length_take]; rfl)) ?_; (with_reducible refine (sequiturref27_Fits.calls x344000_1 x344001_1 x344002_1 x344003_1 t352 false _ A29.out).mono ?_); rintro e w38 ⟨rfl, hb⟩; refine ⟨_, rfl, ?_⟩; replace BK337 := zK (blk_below (g := gb337) (o := .cells #[.int .i64 a0_0, .slice A0_1 l0_1.length c0_1] 62 (0, 0)) (zb BK337) hb); replace BK343 := zK (blk_below (g := gb343) (o := .cells #[.int .i64 x344000_1, .int .u64 x344001_1, .int .i64 x344002_1, .int .u64 x344003_1] 109 (0, 0)) (zb BK343) hb); replace HB := zK (below_step (zo HB) hb); (try clear hb); (try clear hb2); (try clear hk); (try clear hi)))
      go_ret2
      exact ⟨by first | rfl | (simp [errW_none, errW_some] <;> rfl) | (simp [*, errW_none, errW_some] <;> rfl), zo HB⟩
 ·rw [if_neg c4] at H
  have c4b0 : (t338 == 0) = false := beq_eq_false_iff_ne.mpr c4
  have c4b1 : (t338 != 0) = true := bne_iff_ne.mpr c4
  simp only [Option.some.injEq, Prod.mk.injEq] at H
  obtain ⟨rfl, rfl⟩ := H
  go_enter Try.func37, Try.ntmps37
  go_wp2_with (first | ((with_reducible refine gate_dst (N := 2) rfl ?_); refine box_event ?hg (N := 2) ?hd (cs := #[.int .i64 a0_0, .slice A0_1 l0_1.length c0_1]) (t := 62) ?hr ?_; (case hd => rfl); (case hg => rfl); (case hr => first | (go_simp; done) | (go_simp; rfl)); intro gb337 hg w39 hbox hb; have BK337 := zK (hbox); have GW337 := zK ((by rw [hg]; exact (below_size (zo HB)) : w.heap.size ≤ gb337)); have GE337 := zK ((by rw [hg]; exact (below_size (zo HB)) : w.heap.size ≤ gb337)); replace HB := zK (below_step (zo HB) hb); clear hb hbox hg; have hcz40_0 : w39.cell? ⟨gb337, 0, none⟩ = some (.int .i64 a0_0) := (blk_cell BK337.out 0).trans rfl; have hcz40_1 : w39.cell? ⟨gb337, 1, none⟩ = some (.slice A0_1 l0_1.length c0_1) := (blk_cell BK337.out 1).trans rfl; have hfz40_0 := blk_frozen BK337.out 0; have hfz40_1 := blk_frozen BK337.out 1) | ((with_reducible refine zC (f := 70) rfl ?_); refine goesL_ (some 11) rfl rfl Try.func70 (by kernel_rfl) rfl #[.agg #[.int .i64 a0_0, .slice A0_1 l0_1.length c0_1]] rfl (by (try simp only [List.map_toArray, List.map_cons, List.map_nil]); first | done | rfl | (simp only [List.length_drop, List.length_take]; rfl)) ?_; (with_reducible refine (sequiturref27_Right.calls k a0_0 _ _ l0_1 t338 _ ?side1 ?side2 A3.out).mono ?_); (case side1 => repeat (first | exact (Kd.C_below HR0_1.out HB.out) | (with_reducible refine cA ?_ _) | (with_reducible refine cN ?_ _) | (with_reducible refine cD ?_))); (case side2 => exact HC0_1.out); rintro e w41 ⟨rfl, hb⟩; refine ⟨_, rfl, ?_⟩; replace BK337 := zK (blk_below (g := gb337) (o := .cells #[.int .i64 a0_0, .slice A0_1 l0_1.length c0_1] 62 (0, 0)) (zb BK337) hb); replace HB := zK (below_step (zo HB) hb); (try clear hb); (try clear hb2); (try clear hk); (try clear hi)))
  go_ret2
  exact ⟨by first | rfl | (simp [errW_none, errW_some] <;> rfl) | (simp [*, errW_none, errW_some] <;> rfl), zo HB⟩

/-! ### sequiturref30_Holds: function 35 -/
def sequiturref30_Holds.l0 : Nat → List (S70) → List Int → Int → Option (Bool)
 | 0, _, _, _ => none
 | k + 1, x0, x1, x5 => if x5 < (x0.length : Int) then (if 0 ≤ x5 then ((sequiturref27_Eval.f k ((rd_T70 x0 x5).f0.f0) ((rd_T70 x0 x5).f0.f1) x1).bind fun bt355 => (if bt355.2 = 0 then (if bt355.1 > 0 then (some false) else (if (rd_T70 x0 x5).f1 = true then (if bt355.1 = 0 then (sequiturref30_Holds.l0 k x0 x1 (wrap64 (x5 + 1))) else (some false)) else (sequiturref30_Holds.l0 k x0 x1 (wrap64 (x5 + 1))))) else (some false))) else (none)) else (some true)
def sequiturref30_Holds.f (k : Nat) (l0 : List (S70)) (l1 : List Int) : Option (Bool) := sequiturref30_Holds.l0 k l0 l1 0
theorem sequiturref30_Holds.mono_l : ∀ k, (∀ y0 y1 y2, LeO (sequiturref30_Holds.l0 k y0 y1 y2) (sequiturref30_Holds.l0 (k + 1) y0 y1 y2))
 | 0 => fun _ _ _ r h => by simp [sequiturref30_Holds.l0] at h
 | k + 1 => by
  have ih0 := sequiturref30_Holds.mono_l k
  ·intro y0 y1 y2
   unfold sequiturref30_Holds.l0
   repeat' first
   | (with_reducible exact ih0 _ _ _)
   | (with_reducible exact sequiturref27_Eval.mono _ _ _ _)
   | (with_reducible exact LeO.refl _)
   | (with_reducible exact LeO.none _)
   | (with_reducible refine LeO.ite ?_ ?_)
   | (with_reducible refine LeO.bind ?_ (fun _ => ?_))
   | exact ih0 _ _ _
   | exact sequiturref27_Eval.mono _ _ _ _
   | exact LeO.none _
   | refine LeO.ite ?_ ?_
   | refine LeO.bind ?_ (fun _ => ?_)
theorem sequiturref30_Holds.mono : ∀ a0 a1 k, LeO (sequiturref30_Holds.f k a0 a1) (sequiturref30_Holds.f (k + 1) a0 a1) := by
 intro a0 a1 k
 have ih0 := sequiturref30_Holds.mono_l k
 unfold sequiturref30_Holds.f
 repeat' first
   | (with_reducible exact ih0 _ _ _)
   | (with_reducible exact sequiturref27_Eval.mono _ _ _ _)
   | (with_reducible exact LeO.refl _)
   | (with_reducible exact LeO.none _)
   | (with_reducible refine LeO.ite ?_ ?_)
   | (with_reducible refine LeO.bind ?_ (fun _ => ?_))
   | exact ih0 _ _ _
   | exact sequiturref27_Eval.mono _ _ _ _
   | exact LeO.none _
   | refine LeO.ite ?_ ?_
   | refine LeO.bind ?_ (fun _ => ?_)
set_option maxHeartbeats 8000000 in
set_option maxRecDepth 100000 in
theorem sequiturref30_Holds.calls (k : Nat) (A0 : Option Addr) (c0 : Nat) (l0 : List (S70)) (A1 : Option Addr) (c1 : Nat) (l1 : List Int) (r : Bool) (w : World) (hr0 : Kd.C k70 w A0 l0.length l0) (hc0 : l0.length ≤ c0) (hr1 : Kd.C (Kd.int .i64) w A1 l1.length l1) (hc1 : l1.length ≤ c1) (h : sequiturref30_Holds.f k l0 l1 = some r) :
  Calls Try.prog 35 #[.slice A0 l0.length c0, .slice A1 l1.length c1] w fun e w' => e = .returned (.bool r) ∧ Below w.heap.size w w' := by
 have hu62 := Try.underlying62
 have HR0 := zK hr0
 have HC0 := zK hc0; clear hr0 hc0
 have HR1 := zK hr1
 have HC1 := zK hc1; clear hr1 hc1
 have HB := zK (Below.refl w.heap.size w)
 have H : (sequiturref30_Holds.l0 k l0 l1 0) = some r := h; clear h
 have H' := zK H; clear H
 go_enter Try.func35, Try.ntmps35
 go_wp2
 go_loopg [5] k (fun kq v5 w' => ∃ (x5_1 : Int), v5 = .int .i64 x5_1 ∧ Aside0 (sequiturref30_Holds.l0 kq l0 l1 x5_1 = some r) ∧ Aside0 (kq ≤ k) ∧ Aside0 (Below w.heap.size w w'))
 case atStart => exact ⟨(0), (by first | rfl | (simp; done) | (simp [*]; done)), H', ⟨Nat.le_refl _⟩, ⟨zo HB⟩⟩
 case round =>
  clear H'; try clear c1; try clear p2
  obtain ⟨x5_1, rfl, HA, HK1, HB⟩ := hrel
  cases gk with
  | zero => exact absurd HA.out (by simp [sequiturref30_Holds.l0])
  | succ k1 =>
   have H := HA.out; clear HA
   simp only [sequiturref30_Holds.l0] at H
   by_cases c3 : x5_1 < (l0.length : Int)
   ·rw [if_pos c3] at H
    have c3b0 : decide (x5_1 < (l0.length : Int)) = true := decide_eq_true c3
    clear c3
    by_cases c4 : 0 ≤ x5_1
    ·rw [if_pos c4] at H
     have c4b0 : decide (0 ≤ x5_1) = true := decide_eq_true c4; clear c4
     replace H := Option.bind_eq_some_iff.mp H
     obtain ⟨⟨t355, t356⟩, A50, H⟩ := H
     replace H : (if t356 = 0 then (if t355 > 0 then (some false) else (if (rd_T70 l0 x5_1).f1 = true then (if t355 = 0 then (sequiturref30_Holds.l0 k1 l0 l1 (wrap64 (x5_1 + 1))) else (some false)) else (sequiturref30_Holds.l0 k1 l0 l1 (wrap64 (x5_1 + 1))))) else (some false)) = some r := H
     have A5 := zK A50; clear A50
     by_cases c6 : t356 = 0
     ·rw [if_pos c6] at H
      have c6b0 : (t356 == 0) = true := beq_iff_eq.mpr c6
      have c6b1 : (t356 != 0) = false := bne_eq_false_iff_eq.mpr c6; clear c6
      by_cases c7 : t355 > 0
      ·rw [if_pos c7] at H
       have c7b0 : decide (0 < t355) = true := decide_eq_true c7; clear c7
       obtain rfl := Option.some.inj H
       have p354 : 0 ≤ (x5_1 : Int) := of_decide_eq_true (by first | (with_reducible assumption) | assumption)
       have q354 : x5_1 < (l0.length : Int) := of_decide_eq_true (by first | (with_reducible assumption) | assumption)
       obtain ⟨ad354, A354_1, c354_1, e354, hx354_0, hx354_1, hx354_2, hl354_1, hi354_1⟩ := at_T70 HR0.out x5_1 p354 q354
       cases e354
       replace hx354_0 := (HB.out.cell (World.block_lt_of_cell? w _ hx354_0)).trans hx354_0
       replace hx354_1 := (HB.out.cell (World.block_lt_of_cell? w _ hx354_1)).trans hx354_1
       replace hx354_2 := (HB.out.cell (World.block_lt_of_cell? w _ hx354_2)).trans hx354_2
       have HR354_1 := zK hi354_1
       have HC354_1 := zK hl354_1; clear hi354_1 hl354_1
       replace p354 := eq_true p354
       replace q354 := eq_true q354
       go_wp2_with (first | ((with_reducible refine zC (f := 37) rfl ?_); refine goesL_ (some 21) rfl rfl Try.func37 (by kernel_rfl) rfl #[.agg #[.int .i64 ((rd_T70 l0 x5_1).f0.f0), .slice A354_1 ((rd_T70 l0 x5_1).f0.f1).length c354_1], .slice A1 l1.length c1] rfl (by (try simp only [List.map_toArray, List.map_cons, List.map_nil]); first | done | rfl | (simp only [List.length_drop, List.length_take]; rfl)) ?_; (with_reducible refine (sequiturref27_Eval.calls k1 ((rd_T70 l0 x5_1).f0.f0) _ _ ((rd_T70 l0 x5_1).f0.f1) _ _ l1 t355 t356 _ ?side1 ?side2 ?side3 ?side4 A5.out).mono ?_); (case side1 => repeat (first | exact (Kd.C_below HR354_1.out HB.out) | (with_reducible refine cA ?_ _) | (with_reducible refine cN ?_ _) | (with_reducible refine cD ?_))); (case side2 => exact HC354_1.out); (case side3 => repeat (first | exact (Kd.C_below HR1.out HB.out) | (with_reducible refine cA ?_ _) | (with_reducible refine cN ?_ _) | (with_reducible refine cD ?_))); (case side4 => exact HC1.out); rintro e w8 ⟨rfl, hb⟩; refine ⟨_, rfl, ?_⟩; replace HB := zK (below_step (zo HB) hb); (try clear hb); (try clear hb2); (try clear hk); (try clear hi)))
       go_ret
       exact ⟨by first | rfl | (simp [errW_none, errW_some] <;> rfl) | (simp [*, errW_none, errW_some] <;> rfl), zo HB⟩
      ·rw [if_neg c7] at H
       have c7b0 : decide (0 < t355) = false := decide_eq_false c7; clear c7
       obtain ⟨bq9, hbq9⟩ : ∃ b_ : Bool, b_ = ((rd_T70 l0 x5_1).f1) := ⟨_, rfl⟩
       replace H : (if bq9 = true then (if t355 = 0 then (sequiturref30_Holds.l0 k1 l0 l1 (wrap64 (x5_1 + 1))) else (some false)) else (sequiturref30_Holds.l0 k1 l0 l1 (wrap64 (x5_1 + 1)))) = some r := by rw [← hbq9] at H; exact H
       have Nbq9 := zK hbq9; clear hbq9
       by_cases c10 : bq9 = true
       ·subst c10
        have H1 : (if t355 = 0 then (sequiturref30_Holds.l0 k1 l0 l1 (wrap64 (x5_1 + 1))) else (some false)) = some r := by rw [if_pos rfl] at H; exact H
        clear H; have H := H1; clear H1
        by_cases c11 : t355 = 0
        ·rw [if_pos c11] at H
         have c11b0 : (t355 == 0) = true := beq_iff_eq.mpr c11
         have c11b1 : (t355 != 0) = false := bne_eq_false_iff_eq.mpr c11; clear c11
         have H' := zK H; clear H
         have p354 : 0 ≤ (x5_1 : Int) := of_decide_eq_true (by first | (with_reducible assumption) | assumption)
         have q354 : x5_1 < (l0.length : Int) := of_decide_eq_true (by first | (with_reducible assumption) | assumption)
         obtain ⟨ad354, A354_1, c354_1, e354, hx354_0, hx354_1, hx354_2, hl354_1, hi354_1⟩ := at_T70 HR0.out x5_1 p354 q354
         (try rw [← Nbq9.out] at hx354_2)
         (try rw [← Nbq9.out] at A5)
         cases e354
         replace hx354_0 := (HB.out.cell (World.block_lt_of_cell? w _ hx354_0)).trans hx354_0
         replace hx354_1 := (HB.out.cell (World.block_lt_of_cell? w _ hx354_1)).trans hx354_1
         replace hx354_2 := (HB.out.cell (World.block_lt_of_cell? w _ hx354_2)).trans hx354_2
         have HR354_1 := zK hi354_1
         have HC354_1 := zK hl354_1; clear hi354_1 hl354_1
         replace p354 := eq_true p354
         replace q354 := eq_true q354
         go_wp2_with (first | ((with_reducible refine zC (f := 37) rfl ?_); refine goesL_ (some 21) rfl rfl Try.func37 (by kernel_rfl) rfl #[.agg #[.int .i64 ((rd_T70 l0 x5_1).f0.f0), .slice A354_1 ((rd_T70 l0 x5_1).f0.f1).length c354_1], .slice A1 l1.length c1] rfl (by (try simp only [List.map_toArray, List.map_cons, List.map_nil]); first | done | rfl | (simp only [List.length_drop, List.length_take]; rfl)) ?_; (with_reducible refine (sequiturref27_Eval.calls k1 ((rd_T70 l0 x5_1).f0.f0) _ _ ((rd_T70 l0 x5_1).f0.f1) _ _ l1 t355 t356 _ ?side1 ?side2 ?side3 ?side4 A5.out).mono ?_); (case side1 => repeat (first | exact (Kd.C_below HR354_1.out HB.out) | (with_reducible refine cA ?_ _) | (with_reducible refine cN ?_ _) | (with_reducible refine cD ?_))); (case side2 => exact HC354_1.out); (case side3 => repeat (first | exact (Kd.C_below HR1.out HB.out) | (with_reducible refine cA ?_ _) | (with_reducible refine cN ?_ _) | (with_reducible refine cD ?_))); (case side4 => exact HC1.out); rintro e w12 ⟨rfl, hb⟩; refine ⟨_, rfl, ?_⟩; replace HB := zK (below_step (zo HB) hb); (try clear hb); (try clear hb2); (try clear hk); (try clear hi); have p357 : 0 ≤ (x5_1 : Int) := of_decide_eq_true (by first | (with_reducible assumption) | assumption); have q357 : x5_1 < (l0.length : Int) := of_decide_eq_true (by first | (with_reducible assumption) | assumption); obtain ⟨ad357, A357_1, c357_1, e357, hx357_0, hx357_1, hx357_2, hl357_1, hi357_1⟩ := at_T70 HR0.out x5_1 p357 q357; (try rw [← Nbq9.out] at hx357_2); obtain rfl : ad354 = ad357 := (by injection e357); replace hx357_0 := (HB.out.cell (World.block_lt_of_cell? w _ hx357_0)).trans hx357_0; replace hx357_1 := (HB.out.cell (World.block_lt_of_cell? w _ hx357_1)).trans hx357_1; replace hx357_2 := (HB.out.cell (World.block_lt_of_cell? w _ hx357_2)).trans hx357_2; have HR357_1 := zK hi357_1; have HC357_1 := zK hl357_1; clear hi357_1 hl357_1; replace p357 := eq_true p357; replace q357 := eq_true q357))
         go_roundg k1
         case measure => have := HK1.out; omega
         case rel => exact ⟨(wrap64 (x5_1 + 1)), (by first | rfl | (simp; done) | (simp [*]; done)), H', ⟨by have := HK1.out; omega⟩, ⟨zo HB⟩⟩
        ·rw [if_neg c11] at H
         have c11b0 : (t355 == 0) = false := beq_eq_false_iff_ne.mpr c11
         have c11b1 : (t355 != 0) = true := bne_iff_ne.mpr c11
         obtain rfl := Option.some.inj H
         have p354 : 0 ≤ (x5_1 : Int) := of_decide_eq_true (by first | (with_reducible assumption) | assumption)
         have q354 : x5_1 < (l0.length : Int) := of_decide_eq_true (by first | (with_reducible assumption) | assumption)
         obtain ⟨ad354, A354_1, c354_1, e354, hx354_0, hx354_1, hx354_2, hl354_1, hi354_1⟩ := at_T70 HR0.out x5_1 p354 q354
         (try rw [← Nbq9.out] at hx354_2)
         (try rw [← Nbq9.out] at A5)
         cases e354
         replace hx354_0 := (HB.out.cell (World.block_lt_of_cell? w _ hx354_0)).trans hx354_0
         replace hx354_1 := (HB.out.cell (World.block_lt_of_cell? w _ hx354_1)).trans hx354_1
         replace hx354_2 := (HB.out.cell (World.block_lt_of_cell? w _ hx354_2)).trans hx354_2
         have HR354_1 := zK hi354_1
         have HC354_1 := zK hl354_1; clear hi354_1 hl354_1
         replace p354 := eq_true p354
         replace q354 := eq_true q354
         go_wp2_with (first | ((with_reducible refine zC (f := 37) rfl ?_); refine goesL_ (some 21) rfl rfl Try.func37 (by kernel_rfl) rfl #[.agg #[.int .i64 ((rd_T70 l0 x5_1).f0.f0), .slice A354_1 ((rd_T70 l0 x5_1).f0.f1).length c354_1], .slice A1 l1.length c1] rfl (by (try simp only [List.map_toArray, List.map_cons, List.map_nil]); first | done | rfl | (simp only [List.length_drop, List.length_take]; rfl)) ?_; (with_reducible refine (sequiturref27_Eval.calls k1 ((rd_T70 l0 x5_1).f0.f0) _ _ ((rd_T70 l0 x5_1).f0.f1) _ _ l1 t355 t356 _ ?side1 ?side2 ?side3 ?side4 A5.out).mono ?_); (case side1 => repeat (first | exact (Kd.C_below HR354_1.out HB.out) | (with_reducible refine cA ?_ _) | (with_reducible refine cN ?_ _) | (with_reducible refine cD ?_))); (case side2 => exact HC354_1.out); (case side3 => repeat (first | exact (Kd.C_below HR1.out HB.out) | (with_reducible refine cA ?_ _) | (with_reducible refine cN ?_ _) | (with_reducible refine cD ?_))); (case side4 => exact HC1.out); rintro e w13 ⟨rfl, hb⟩; refine ⟨_, rfl, ?_⟩; replace HB := zK (below_step (zo HB) hb); (try clear hb); (try clear hb2); (try clear hk); (try clear hi); have p357 : 0 ≤ (x5_1 : Int) := of_decide_eq_true (by first | (with_reducible assumption) | assumption); have q357 : x5_1 < (l0.length : Int) := of_decide_eq_true (by first | (with_reducible assumption) | assumption); obtain ⟨ad357, A357_1, c357_1, e357, hx357_0, hx357_1, hx357_2, hl357_1, hi357_1⟩ := at_T70 HR0.out x5_1 p357 q357; (try rw [← Nbq9.out] at hx357_2); obtain rfl : ad354 = ad357 := (by injection e357); replace hx357_0 := (HB.out.cell (World.block_lt_of_cell? w _ hx357_0)).trans hx357_0; replace hx357_1 := (HB.out.cell (World.block_lt_of_cell? w _ hx357_1)).trans hx357_1; replace hx357_2 := (HB.out.cell (World.block_lt_of_cell? w _ hx357_2)).trans hx357_2; have HR357_1 := zK hi357_1; have HC357_1 := zK hl357_1; clear hi357_1 hl357_1; replace p357 := eq_true p357; replace q357 := eq_true q357))
         go_ret
         exact ⟨by first | rfl | (simp [errW_none, errW_some] <;> rfl) | (simp [*, errW_none, errW_some] <;> rfl), zo HB⟩
       ·replace c10 := Bool.eq_false_iff.mpr c10
        subst c10
        have H1 : (sequiturref30_Holds.l0 k1 l0 l1 (wrap64 (x5_1 + 1))) = some r := by rw [if_neg (show ¬ (false = true) by decide)] at H; exact H
        clear H; have H := H1; clear H1
        have H' := zK H; clear H
        have p354 : 0 ≤ (x5_1 : Int) := of_decide_eq_true (by first | (with_reducible assumption) | assumption)
        have q354 : x5_1 < (l0.length : Int) := of_decide_eq_true (by first | (with_reducible assumption) | assumption)
        obtain ⟨ad354, A354_1, c354_1, e354, hx354_0, hx354_1, hx354_2, hl354_1, hi354_1⟩ := at_T70 HR0.out x5_1 p354 q354
        (try rw [← Nbq9.out] at hx354_2)
        (try rw [← Nbq9.out] at A5)
        cases e354
        replace hx354_0 := (HB.out.cell (World.block_lt_of_cell? w _ hx354_0)).trans hx354_0
        replace hx354_1 := (HB.out.cell (World.block_lt_of_cell? w _ hx354_1)).trans hx354_1
        replace hx354_2 := (HB.out.cell (World.block_lt_of_cell? w _ hx354_2)).trans hx354_2
        have HR354_1 := zK hi354_1
        have HC354_1 := zK hl354_1; clear hi354_1 hl354_1
        replace p354 := eq_true p354
        replace q354 := eq_true q354
        go_wp2_with (first | ((with_reducible refine zC (f := 37) rfl ?_); refine goesL_ (some 21) rfl rfl Try.func37 (by kernel_rfl) rfl #[.agg #[.int .i64 ((rd_T70 l0 x5_1).f0.f0), .slice A354_1 ((rd_T70 l0 x5_1).f0.f1).length c354_1], .slice A1 l1.length c1] rfl (by (try simp only [List.map_toArray, List.map_cons, List.map_nil]); first | done | rfl | (simp only [List.length_drop, List.length_take]; rfl)) ?_; (with_reducible refine (sequiturref27_Eval.calls k1 ((rd_T70 l0 x5_1).f0.f0) _ _ ((rd_T70 l0 x5_1).f0.f1) _ _ l1 t355 t356 _ ?side1 ?side2 ?side3 ?side4 A5.out).mono ?_); (case side1 => repeat (first | exact (Kd.C_below HR354_1.out HB.out) | (with_reducible refine cA ?_ _) | (with_reducible refine cN ?_ _) | (with_reducible refine cD ?_))); (case side2 => exact HC354_1.out); (case side3 => repeat (first | exact (Kd.C_below HR1.out HB.out) | (with_reducible refine cA ?_ _) | (with_reducible refine cN ?_ _) | (with_reducible refine cD ?_))); (case side4 => exact HC1.out); rintro e w14 ⟨rfl, hb⟩; refine ⟨_, rfl, ?_⟩; replace HB := zK (below_step (zo HB) hb); (try clear hb); (try clear hb2); (try clear hk); (try clear hi); have p357 : 0 ≤ (x5_1 : Int) := of_decide_eq_true (by first | (with_reducible assumption) | assumption); have q357 : x5_1 < (l0.length : Int) := of_decide_eq_true (by first | (with_reducible assumption) | assumption); obtain ⟨ad357, A357_1, c357_1, e357, hx357_0, hx357_1, hx357_2, hl357_1, hi357_1⟩ := at_T70 HR0.out x5_1 p357 q357; (try rw [← Nbq9.out] at hx357_2); obtain rfl : ad354 = ad357 := (by injection e357); replace hx357_0 := (HB.out.cell (World.block_lt_of_cell? w _ hx357_0)).trans hx357_0; replace hx357_1 := (HB.out.cell (World.block_lt_of_cell? w _ hx357_1)).trans hx357_1; replace hx357_2 := (HB.out.cell (World.block_lt_of_cell? w _ hx357_2)).trans hx357_2; have HR357_1 := zK hi357_1; have HC357_1 := zK hl357_1; clear hi357_1 hl357_1; replace p357 := eq_true p357; replace q357 := eq_true q357))
        go_roundg k1
        case measure => have := HK1.out; omega
        case rel => exact ⟨(wrap64 (x5_1 + 1)), (by first | rfl | (simp; done) | (simp [*]; done)), H', ⟨by have := HK1.out; omega⟩, ⟨zo HB⟩⟩
     ·rw [if_neg c6] at H
      have c6b0 : (t356 == 0) = false := beq_eq_false_iff_ne.mpr c6
      have c6b1 : (t356 != 0) = true := bne_iff_ne.mpr c6
      obtain rfl := Option.some.inj H
      have p354 : 0 ≤ (x5_1 : Int) := of_decide_eq_true (by first | (with_reducible assumption) | assumption)
      have q354 : x5_1 < (l0.length : Int) := of_decide_eq_true (by first | (with_reducible assumption) | assumption)
      obtain ⟨ad354, A354_1, c354_1, e354, hx354_0, hx354_1, hx354_2, hl354_1, hi354_1⟩ := at_T70 HR0.out x5_1 p354 q354
      cases e354
      replace hx354_0 := (HB.out.cell (World.block_lt_of_cell? w _ hx354_0)).trans hx354_0
      replace hx354_1 := (HB.out.cell (World.block_lt_of_cell? w _ hx354_1)).trans hx354_1
      replace hx354_2 := (HB.out.cell (World.block_lt_of_cell? w _ hx354_2)).trans hx354_2
      have HR354_1 := zK hi354_1
      have HC354_1 := zK hl354_1; clear hi354_1 hl354_1
      replace p354 := eq_true p354
      replace q354 := eq_true q354
      go_wp2_with (first | ((with_reducible refine zC (f := 37) rfl ?_); refine goesL_ (some 21) rfl rfl Try.func37 (by kernel_rfl) rfl #[.agg #[.int .i64 ((rd_T70 l0 x5_1).f0.f0), .slice A354_1 ((rd_T70 l0 x5_1).f0.f1).length c354_1], .slice A1 l1.length c1] rfl (by (try simp only [List.map_toArray, List.map_cons, List.map_nil]); first | done | rfl | (simp only [List.length_drop, List.length_take]; rfl)) ?_; (with_reducible refine (sequiturref27_Eval.calls k1 ((rd_T70 l0 x5_1).f0.f0) _ _ ((rd_T70 l0 x5_1).f0.f1) _ _ l1 t355 t356 _ ?side1 ?side2 ?side3 ?side4 A5.out).mono ?_); (case side1 => repeat (first | exact (Kd.C_below HR354_1.out HB.out) | (with_reducible refine cA ?_ _) | (with_reducible refine cN ?_ _) | (with_reducible refine cD ?_))); (case side2 => exact HC354_1.out); (case side3 => repeat (first | exact (Kd.C_below HR1.out HB.out) | (with_reducible refine cA ?_ _) | (with_reducible refine cN ?_ _) | (with_reducible refine cD ?_))); (case side4 => exact HC1.out); rintro e w15 ⟨rfl, hb⟩; refine ⟨_, rfl, ?_⟩; replace HB := zK (below_step (zo HB) hb); (try clear hb); (try clear hb2); (try clear hk); (try clear hi)))
      go_ret
      exact ⟨by first | rfl | (simp [errW_none, errW_some] <;> rfl) | (simp [*, errW_none, errW_some] <;> rfl), zo HB⟩
    ·rw [if_neg c4] at H
     exact absurd H (by simp)
   ·rw [if_neg c3] at H
    have c3b0 : decide (x5_1 < (l0.length : Int)) = false := decide_eq_false c3
    clear c3
    obtain rfl := Option.some.inj H
    go_wp2
    go_ret
    exact ⟨by first | rfl | (simp [errW_none, errW_some] <;> rfl) | (simp [*, errW_none, errW_some] <;> rfl), zo HB⟩

/-! ### sequiturlaw30_plain: function 36 -/
def sequiturlaw30_plain.l0 : Nat → List (S70) → List (S72) → Int → Int → Option ((List (S70)))
 | 0, _, _, _, _ => none
 | k + 1, x3, x6, x7, x8 => if x8 < x7 then (if 0 ≤ x8 then (if x8 < (x6.length : Int) then (if x3.length < 3518437208883 then (sequiturlaw30_plain.l0 k (x3 ++ [(⟨(⟨(rd_T72 x6 x8).f0.f0.f0, (rd_T72 x6 x8).f0.f0.f1⟩ : S62), (rd_T72 x6 x8).f0.f1⟩ : S70)]) x6 x7 (wrap64 (x8 + 1))) else (none)) else (none)) else (none)) else (some x3)
def sequiturlaw30_plain.f (k : Nat) (l0 : List (S72)) : Option ((List (S70))) := sequiturlaw30_plain.l0 k ([] : List (S70)) l0 (l0.length : Int) 0
theorem sequiturlaw30_plain.mono_l : ∀ k, (∀ y0 y1 y2 y3, LeO (sequiturlaw30_plain.l0 k y0 y1 y2 y3) (sequiturlaw30_plain.l0 (k + 1) y0 y1 y2 y3))
 | 0 => fun _ _ _ _ r h => by simp [sequiturlaw30_plain.l0] at h
 | k + 1 => by
  have ih0 := sequiturlaw30_plain.mono_l k
  ·intro y0 y1 y2 y3
   unfold sequiturlaw30_plain.l0
   repeat' first
   | (with_reducible exact ih0 _ _ _ _)
   | (with_reducible exact LeO.refl _)
   | (with_reducible exact LeO.none _)
   | (with_reducible refine LeO.ite ?_ ?_)
   | (with_reducible refine LeO.bind ?_ (fun _ => ?_))
   | exact ih0 _ _ _ _
   | exact LeO.none _
   | refine LeO.ite ?_ ?_
   | refine LeO.bind ?_ (fun _ => ?_)
theorem sequiturlaw30_plain.mono : ∀ a0 k, LeO (sequiturlaw30_plain.f k a0) (sequiturlaw30_plain.f (k + 1) a0) := by
 intro a0 k
 have ih0 := sequiturlaw30_plain.mono_l k
 unfold sequiturlaw30_plain.f
 repeat' first
   | (with_reducible exact ih0 _ _ _ _)
   | (with_reducible exact LeO.refl _)
   | (with_reducible exact LeO.none _)
   | (with_reducible refine LeO.ite ?_ ?_)
   | (with_reducible refine LeO.bind ?_ (fun _ => ?_))
   | exact ih0 _ _ _ _
   | exact LeO.none _
   | refine LeO.ite ?_ ?_
   | refine LeO.bind ?_ (fun _ => ?_)
set_option maxHeartbeats 8000000 in
set_option maxRecDepth 100000 in
theorem sequiturlaw30_plain.calls (k : Nat) (P0_ : Nat → Prop) (A0 : Option Addr) (c0 : Nat) (l0 : List (S72)) (r : List (S70)) (w : World) (hs0 : Kd.V k72 72 w w.heap.size (fun k_ => P0_ k_) (.slice A0 l0.length c0) l0) (h : sequiturlaw30_plain.f k l0 = some r) :
  Calls Try.prog 36 #[.slice A0 l0.length c0] w fun e w' => ∃ v0_ : Value, e = .returned (v0_) ∧ Kd.N k70 70 w' w.heap.size (fun k_ => (P0_ k_ ∨ w.heap.size ≤ k_)) v0_ r ∧ Below w.heap.size w w' := by
 have hu72 := Try.underlying72
 have hu70 := Try.underlying70
 have HO0 := zK (show Kd.V k72 72 w w.heap.size (fun k_ => (P0_ k_ ∨ w.heap.size ≤ k_)) (.slice A0 l0.length c0) l0 from vM hs0 (fun k_ hk => .inl hk))
 have HB := zK (Below.refl w.heap.size w)
 have H : (sequiturlaw30_plain.l0 k ([] : List (S70)) l0 (l0.length : Int) 0) = some r := h
 clear h
 have H' := zK H; clear H
 go_enter Try.func36, Try.ntmps36
 go_wp2
 go_loopg [3, 8] k (fun kq v3 v8 w' => ∃ (x3_1 : List (S70)) (x8_1 : Int), v8 = .int .i64 x8_1 ∧ Aside0 (sequiturlaw30_plain.l0 kq x3_1 l0 (l0.length : Int) x8_1 = some r) ∧ Aside0 (kq ≤ k) ∧ Aside0 (Kd.N k70 70 w' w.heap.size (fun k_ => (P0_ k_ ∨ w.heap.size ≤ k_)) v3 x3_1) ∧ Aside0 (Kd.V k72 72 w' w.heap.size (fun k_ => (P0_ k_ ∨ w.heap.size ≤ k_) ∧ some k_ ≠ (v3 : Value).ownBlock) (.slice A0 l0.length c0) l0) ∧ Aside0 (Below w.heap.size w w'))
 case atStart => exact ⟨(([] : List (S70))), (0), (by first | rfl | (simp; done) | (simp [*]; done)), H', ⟨Nat.le_refl _⟩, ⟨by first | exact Kd.S_nil _ _ _ _ _ | exact Kd.N_nil _ _ _ _ _ | exact Kd.V_nil _ _ _ _ _ | exact Kd.Q_nil _ _ _ _ _ | exact Kd.R_nil _ _ _ _ _⟩, ⟨by (with_reducible repeat (first | apply vA | apply vN | apply vD)); exact vM HO0.out (fun _ hk => ⟨hk, (by simp [Value.ownBlock])⟩)⟩, ⟨zo HB⟩⟩
 case round =>
  clear H'
  obtain ⟨x3_1, x8_1, rfl, HA, HK1, HO_3, HO_6, HB⟩ := hrel
  cases gk with
  | zero => exact absurd HA.out (by simp [sequiturlaw30_plain.l0])
  | succ k1 =>
   have H := HA.out; clear HA
   simp only [sequiturlaw30_plain.l0] at H
   by_cases c2 : x8_1 < (l0.length : Int)
   ·rw [if_pos c2] at H
    have c2b0 : decide (x8_1 < (l0.length : Int)) = true := decide_eq_true c2
    clear c2
    by_cases c3 : 0 ≤ x8_1
    ·rw [if_pos c3] at H
     have c3b0 : decide (0 ≤ x8_1) = true := decide_eq_true c3; clear c3
     by_cases c4 : x8_1 < (l0.length : Int)
     ·rw [if_pos c4] at H
      have c4b0 : decide (x8_1 < (l0.length : Int)) = true := decide_eq_true c4
      clear c4
      by_cases c5 : x3_1.length < 3518437208883
      ·rw [if_pos c5] at H
       have LMc5 := zK c5; clear c5
       obtain ⟨y360, hy360⟩ : ∃ y_ : List (S70), y_ = (x3_1 ++ [(⟨(⟨(rd_T72 l0 x8_1).f0.f0.f0, (rd_T72 l0 x8_1).f0.f0.f1⟩ : S62), (rd_T72 l0 x8_1).f0.f1⟩ : S70)]) := ⟨_, rfl⟩
       replace H : (sequiturlaw30_plain.l0 k1 y360 l0 (l0.length : Int) (wrap64 (x8_1 + 1))) = some r := by first | (rw [hy360]; with_reducible exact H) | (have H2_ := (Option.bind_some _ _).symm.trans H; rw [hy360]; with_reducible exact H2_) | (have H2_ := (Option.bind_some _ _).symm.trans H; with_reducible exact H2_) | with_reducible exact H | (rw [hy360]; exact H) | exact H
       have Ny360 := zK hy360; clear hy360
       have H' := zK H; clear H
       have p358 : 0 ≤ (x8_1 : Int) := of_decide_eq_true (by first | (with_reducible assumption) | assumption)
       have q358 : x8_1 < (l0.length : Int) := of_decide_eq_true (by first | (with_reducible assumption) | assumption)
       obtain ⟨ad358, A358_1, c358_1, e358, hx358_0, hx358_1, hx358_2, hx358_3, hx358_4, hl358_1, hi358_1⟩ := at_T72 (Kd.V_reads' HO_6.out).2.2 x8_1 p358 q358
       cases e358
       obtain ⟨ce358, hce358, hMe358, hcc358⟩ := Kd.V_get HO_6.out z72 x8_1 p358 (by first | exact q358 | exact of_decide_eq_true (by first | (with_reducible assumption) | assumption) | (have e_ := (Kd.V_reads' HO_6.out).1; omega))
       obtain ⟨ua358_1, uc358_1, rfl, ul358_1, ge358_1⟩ := k72_openF hMe358
       have hv358_1 := hcc358 1 _ rfl
       rw [add_field _ _ 1 (by omega)] at hv358_1
       replace hv358_1 := Option.some.inj (hv358_1.symm.trans hx358_1)
       injection hv358_1 with hva_ hvn_ hvc_
       rw [hva_] at ge358_1
       rw [hvc_] at ul358_1
       have HL358_1 := zK (show Kd.V k68 68 _ w.heap.size _ _ ((rd_T72 l0 x8_1).f0.f0.f1) from Kd.V_mk ul358_1 ge358_1)
       clear hva_ hvn_ hvc_ ge358_1 ul358_1 hcc358 hce358
       have HR358_1 := zK hi358_1
       have HC358_1 := zK hl358_1; clear hi358_1 hl358_1
       replace p358 := eq_true p358
       replace q358 := eq_true q358
       go_wp2_with (first | ((with_reducible refine gate_dst (N := 5) rfl ?_); refine box_event ?hg (N := 5) ?hd (cs := #[.int .i64 0, .slice none 0 0, .bool false, .int .i64 0, .int .i64 0]) (t := 72) ?hr ?_; (case hd => rfl); (case hg => rfl); (case hr => first | (go_simp; done) | (go_simp; rfl)); intro gb359 hg w6 hbox hb; replace HO_3 := zK (Kd.N_below (Kd.N_elderB (zn HO_3) gb359 (Nat.le_of_eq hg.symm)) hb); replace HO_6 := zK (Kd.V_below (Kd.V_elderB (zv HO_6) gb359 (Nat.le_of_eq hg.symm)) hb); replace HL358_1 := zK (Kd.V_below (Kd.V_elderB (zv HL358_1) gb359 (Nat.le_of_eq hg.symm)) hb); replace HR358_1 := zK (Kd.C_below (by repeat (first | (with_reducible exact HR358_1.out) | (with_reducible refine cA ?_ _) | (with_reducible refine cN ?_ _) | (with_reducible refine cD ?_) | exact HR358_1.out)) hb); have BK359 := zK (hbox); have GW359 := zK ((by rw [hg]; exact (below_size (zo HB)) : w.heap.size ≤ gb359)); have GE359 := zK ((by rw [hg]; exact (below_size (zo HB)) : w.heap.size ≤ gb359)); replace HB := zK (below_step (zo HB) hb); clear hb hbox hg; have hcz7_0 : w6.cell? ⟨gb359, 0, none⟩ = some (.int .i64 0) := (blk_cell BK359.out 0).trans rfl; have hcz7_1 : w6.cell? ⟨gb359, 1, none⟩ = some (.slice none 0 0) := (blk_cell BK359.out 1).trans rfl; have hcz7_2 : w6.cell? ⟨gb359, 2, none⟩ = some (.bool false) := (blk_cell BK359.out 2).trans rfl; have hcz7_3 : w6.cell? ⟨gb359, 3, none⟩ = some (.int .i64 0) := (blk_cell BK359.out 3).trans rfl; have hcz7_4 : w6.cell? ⟨gb359, 4, none⟩ = some (.int .i64 0) := (blk_cell BK359.out 4).trans rfl; have hfz7_0 := blk_frozen BK359.out 0; have hfz7_1 := blk_frozen BK359.out 1; have hfz7_2 := blk_frozen BK359.out 2; have hfz7_3 := blk_frozen BK359.out 3; have hfz7_4 := blk_frozen BK359.out 4) | ((with_reducible refine gate_store (t := 72) (p := 5) rfl ?_); refine store_event (t := 72) (p := 5) (v := ?vo_w8) (w1 := (((((w6.setCell ⟨gb359, 0, none⟩ (.int .i64 ((rd_T72 l0 x8_1).f0.f0.f0))).setCell ⟨gb359, 1, none⟩ (.slice A358_1 ((rd_T72 l0 x8_1).f0.f0.f1).length c358_1)).setCell ⟨gb359, 2, none⟩ (.bool ((rd_T72 l0 x8_1).f0.f1))).setCell ⟨gb359, 3, none⟩ (.int .i64 ((rd_T72 l0 x8_1).f1))).setCell ⟨gb359, 4, none⟩ (.int .i64 ((rd_T72 l0 x8_1).f2)))) ?hg ?ho ?hn ?hr ?_; (case ho => rfl); (case hg => rfl); (case hn => rfl); (case hr => first | (go_simp; done) | (go_simp; rfl)); intro w8 hw; have n0_ : Aside0 (Kd.N k70 70 w8 w.heap.size (fun k_ => (P0_ k_ ∨ w.heap.size ≤ k_) ∧ k_ ≠ gb359) u3 x3_1) := ⟨(by rw [hw]; exact (by (with_reducible repeat (first | apply nA | apply nN | apply nD)); exact Kd.N_mono (Kd.N_far (p := ⟨gb359, 4, none⟩) (Kd.N_far (p := ⟨gb359, 3, none⟩) (Kd.N_far (p := ⟨gb359, 2, none⟩) (Kd.N_far (p := ⟨gb359, 1, none⟩) (Kd.N_far (p := ⟨gb359, 0, none⟩) (Kd.N_mono HO_3.out (fun k_ hk => (⟨hk, hk.2⟩ : _ ∧ k_ ≠ gb359))) (fun _ hk => hk.2) (.int .i64 ((rd_T72 l0 x8_1).f0.f0.f0))) (fun _ hk => hk.2) (.slice A358_1 ((rd_T72 l0 x8_1).f0.f0.f1).length c358_1)) (fun _ hk => hk.2) (.bool ((rd_T72 l0 x8_1).f0.f1))) (fun _ hk => hk.2) (.int .i64 ((rd_T72 l0 x8_1).f1))) (fun _ hk => hk.2) (.int .i64 ((rd_T72 l0 x8_1).f2))) (fun _ hk => ⟨hk.1.1, hk.1.2⟩)))⟩; have n1_ : Aside0 (Kd.V k72 72 w8 w.heap.size (fun k_ => (P0_ k_ ∨ w.heap.size ≤ k_) ∧ some k_ ≠ (u3 : Value).ownBlock ∧ k_ ≠ gb359) (.slice (some ad358) l0.length c0) l0) := ⟨(by rw [hw]; exact (by (with_reducible repeat (first | apply vA | apply vN | apply vD)); exact vM (vF (p := ⟨gb359, 4, none⟩) (vF (p := ⟨gb359, 3, none⟩) (vF (p := ⟨gb359, 2, none⟩) (vF (p := ⟨gb359, 1, none⟩) (vF (p := ⟨gb359, 0, none⟩) (vM HO_6.out (fun k_ hk => (⟨hk, hk.2⟩ : _ ∧ k_ ≠ gb359))) (fun _ hk => hk.2) (.int .i64 ((rd_T72 l0 x8_1).f0.f0.f0))) (fun _ hk => hk.2) (.slice A358_1 ((rd_T72 l0 x8_1).f0.f0.f1).length c358_1)) (fun _ hk => hk.2) (.bool ((rd_T72 l0 x8_1).f0.f1))) (fun _ hk => hk.2) (.int .i64 ((rd_T72 l0 x8_1).f1))) (fun _ hk => hk.2) (.int .i64 ((rd_T72 l0 x8_1).f2))) (fun _ hk => ⟨hk.1.1.1, ⟨hk.1.1.2, hk.1.2⟩⟩)))⟩; have n2_ : Aside0 (Kd.V k68 68 w8 w.heap.size (fun k_ => (P0_ k_ ∨ w.heap.size ≤ k_) ∧ some k_ ≠ (u3 : Value).ownBlock ∧ k_ ≠ gb359) (.slice A358_1 ((rd_T72 l0 x8_1).f0.f0.f1).length c358_1) ((rd_T72 l0 x8_1).f0.f0.f1)) := ⟨(by rw [hw]; exact (by (with_reducible repeat (first | apply vA | apply vN | apply vD)); exact vM (vF (p := ⟨gb359, 4, none⟩) (vF (p := ⟨gb359, 3, none⟩) (vF (p := ⟨gb359, 2, none⟩) (vF (p := ⟨gb359, 1, none⟩) (vF (p := ⟨gb359, 0, none⟩) (vM HL358_1.out (fun k_ hk => (⟨hk, hk.2⟩ : _ ∧ k_ ≠ gb359))) (fun _ hk => hk.2) (.int .i64 ((rd_T72 l0 x8_1).f0.f0.f0))) (fun _ hk => hk.2) (.slice A358_1 ((rd_T72 l0 x8_1).f0.f0.f1).length c358_1)) (fun _ hk => hk.2) (.bool ((rd_T72 l0 x8_1).f0.f1))) (fun _ hk => hk.2) (.int .i64 ((rd_T72 l0 x8_1).f1))) (fun _ hk => hk.2) (.int .i64 ((rd_T72 l0 x8_1).f2))) (fun _ hk => ⟨hk.1.1.1, ⟨hk.1.1.2, hk.1.2⟩⟩)))⟩; have n3_ : Aside0 (w8.heap[gb359]? = some (.cells #[.int .i64 ((rd_T72 l0 x8_1).f0.f0.f0), .slice A358_1 ((rd_T72 l0 x8_1).f0.f0.f1).length c358_1, .bool ((rd_T72 l0 x8_1).f0.f1), .int .i64 ((rd_T72 l0 x8_1).f1), .int .i64 ((rd_T72 l0 x8_1).f2)] 72 (0, 0))) := ⟨(by rw [hw]; exact (by refine zM ?_; refine blk_put (cs := #[.int .i64 ((rd_T72 l0 x8_1).f0.f0.f0), .slice A358_1 ((rd_T72 l0 x8_1).f0.f0.f1).length c358_1, .bool ((rd_T72 l0 x8_1).f0.f1), .int .i64 ((rd_T72 l0 x8_1).f1), .int .i64 0]) ?_ 4 _ rfl; refine zM ?_; refine blk_put (cs := #[.int .i64 ((rd_T72 l0 x8_1).f0.f0.f0), .slice A358_1 ((rd_T72 l0 x8_1).f0.f0.f1).length c358_1, .bool ((rd_T72 l0 x8_1).f0.f1), .int .i64 0, .int .i64 0]) ?_ 3 _ rfl; refine zM ?_; refine blk_put (cs := #[.int .i64 ((rd_T72 l0 x8_1).f0.f0.f0), .slice A358_1 ((rd_T72 l0 x8_1).f0.f0.f1).length c358_1, .bool false, .int .i64 0, .int .i64 0]) ?_ 2 _ rfl; refine zM ?_; refine blk_put (cs := #[.int .i64 ((rd_T72 l0 x8_1).f0.f0.f0), .slice none 0 0, .bool false, .int .i64 0, .int .i64 0]) ?_ 1 _ rfl; refine zM ?_; refine blk_put (cs := #[.int .i64 0, .slice none 0 0, .bool false, .int .i64 0, .int .i64 0]) ?_ 0 _ rfl; refine zM ?_; exact BK359.out))⟩; have n4_ : Aside0 (Below w.heap.size w w8) := ⟨(by rw [hw]; exact (zo HB))⟩; clear hw HO_3 HO_6 HL358_1 BK359 HB; have HO_3 := n0_; have HO_6 := n1_; have HL358_1 := n2_; have BK359 := n3_; have HB := n4_; clear n0_ n1_ n2_ n3_ n4_; have hcz9_0 : w8.cell? ⟨gb359, 0, none⟩ = some (.int .i64 ((rd_T72 l0 x8_1).f0.f0.f0)) := (blk_cell BK359.out 0).trans rfl; have hcz9_1 : w8.cell? ⟨gb359, 1, none⟩ = some (.slice A358_1 ((rd_T72 l0 x8_1).f0.f0.f1).length c358_1) := (blk_cell BK359.out 1).trans rfl; have hcz9_2 : w8.cell? ⟨gb359, 2, none⟩ = some (.bool ((rd_T72 l0 x8_1).f0.f1)) := (blk_cell BK359.out 2).trans rfl; have hcz9_3 : w8.cell? ⟨gb359, 3, none⟩ = some (.int .i64 ((rd_T72 l0 x8_1).f1)) := (blk_cell BK359.out 3).trans rfl; have hcz9_4 : w8.cell? ⟨gb359, 4, none⟩ = some (.int .i64 ((rd_T72 l0 x8_1).f2)) := (blk_cell BK359.out 4).trans rfl; have hfz9_0 := blk_frozen BK359.out 0; have hfz9_1 := blk_frozen BK359.out 1; have hfz9_2 := blk_frozen BK359.out 2; have hfz9_3 := blk_frozen BK359.out 3; have hfz9_4 := blk_frozen BK359.out 4) | ((with_reducible refine gate_builtin (b := .append) (xs := #[.tmp 12, .tmp 15]) rfl ?_); at_builtin; refine Kd.N_append k70 (w0 := w) w.heap.size rfl (.tmp 12) (.tmp 15) 22 70 (.agg #[(.int .i64 0), (.slice none 0 0), (.bool false)]) 40 rfl Try.underlying22 info70 rfl (by decide) (by omega) u3 x3_1 (⟨(⟨(rd_T72 l0 x8_1).f0.f0.f0, (rd_T72 l0 x8_1).f0.f0.f1⟩ : S62), (rd_T72 l0 x8_1).f0.f1⟩ : S70) [.int .i64 ((rd_T72 l0 x8_1).f0.f0.f0), .slice A358_1 ((rd_T72 l0 x8_1).f0.f0.f1).length c358_1, .bool ((rd_T72 l0 x8_1).f0.f1)] (fun k_ => (P0_ k_ ∨ w.heap.size ≤ k_) ∧ k_ ≠ gb359) (fun k_ => ((fun k_ => (P0_ k_ ∨ w.heap.size ≤ k_) ∧ k_ ≠ gb359)) k_ ∧ some k_ ≠ (u3 : Value).ownBlock) rfl rfl ?aP (fun _ hk => hk) ?aF ?aO ?aB ?aS ?aL ?_; (case aP => exact (k70_mkF _ _ (⟨(⟨(rd_T72 l0 x8_1).f0.f0.f0, (rd_T72 l0 x8_1).f0.f0.f1⟩ : S62), (rd_T72 l0 x8_1).f0.f1⟩ : S70) (Kd.V_reads' (vM (ok' := (fun k_ => ((fun k_ => (P0_ k_ ∨ w.heap.size ≤ k_) ∧ k_ ≠ gb359)) k_ ∧ some k_ ≠ (u3 : Value).ownBlock)) (HL358_1.out) (fun k_ hk => ⟨⟨hk.1, hk.2.2⟩, hk.2.1⟩))).2.1 (Kd.V_F (vM (ok' := (fun k_ => ((fun k_ => (P0_ k_ ∨ w.heap.size ≤ k_) ∧ k_ ≠ gb359)) k_ ∧ some k_ ≠ (u3 : Value).ownBlock)) (HL358_1.out) (fun k_ hk => ⟨⟨hk.1, hk.2.2⟩, hk.2.1⟩))))); (case aB => exact (zo HB)); (case aF => exact (fun k_ hk => ⟨(.inr (Nat.le_trans (below_size (zo HB)) hk)), Kd.freshB (g := gb359) (o := .cells #[.int .i64 ((rd_T72 l0 x8_1).f0.f0.f0), .slice A358_1 ((rd_T72 l0 x8_1).f0.f0.f1).length c358_1, .bool ((rd_T72 l0 x8_1).f0.f1), .int .i64 ((rd_T72 l0 x8_1).f1), .int .i64 ((rd_T72 l0 x8_1).f2)] 72 (0, 0)) (zb BK359) k_ hk⟩)); (case aO => exact (zn HO_3)); (case aS => exact (below_size (zo HB))); (case aL => have := LMc5.out; omega); intro v361 w10 ho hb hg hat; rw [← Ny360.out] at ho; replace HO_6 := zK (Kd.V_afterv (ok := (fun k_ => (P0_ k_ ∨ w.heap.size ≤ k_) ∧ k_ ≠ gb359)) (by (with_reducible repeat (first | apply vA | apply vN | apply vD)); exact vM HO_6.out (fun _ hk => ⟨⟨hk.1, hk.2.2⟩, hk.2.1⟩)) hg hat); replace HL358_1 := zK (Kd.V_afterv (ok := (fun k_ => (P0_ k_ ∨ w.heap.size ≤ k_) ∧ k_ ≠ gb359)) (by (with_reducible repeat (first | apply vA | apply vN | apply vD)); exact vM HL358_1.out (fun _ hk => ⟨⟨hk.1, hk.2.2⟩, hk.2.1⟩)) hg hat); replace BK359 := zK (blk_grown (g := gb359) (o := .cells #[.int .i64 ((rd_T72 l0 x8_1).f0.f0.f0), .slice A358_1 ((rd_T72 l0 x8_1).f0.f0.f1).length c358_1, .bool ((rd_T72 l0 x8_1).f0.f1), .int .i64 ((rd_T72 l0 x8_1).f1), .int .i64 ((rd_T72 l0 x8_1).f2)] 72 (0, 0)) (zb BK359) hg (Kd.N_ne HO_3.out BK359.out (by decide))); replace HB := zK (hb); have HO362 := zK (ho); clear HO_3 ho hb hg hat))
       go_roundg k1
       case measure => have := HK1.out; omega
       case rel => exact ⟨(y360), (wrap64 (x8_1 + 1)), (by first | rfl | (simp; done) | (simp [*]; done)), H', ⟨by have := HK1.out; omega⟩, ⟨by (with_reducible repeat (first | apply nA | apply nN | apply nD)); exact Kd.N_mono HO362.out (fun _ hk => hk.1)⟩, ⟨by (with_reducible repeat (first | apply vA | apply vN | apply vD)); exact vM HO_6.out (fun _ hk => ⟨hk.1.1, hk.2⟩)⟩, ⟨zo HB⟩⟩
      ·rw [if_neg c5] at H
       exact absurd H (by simp)
     ·rw [if_neg c4] at H
      exact absurd H (by simp)
    ·rw [if_neg c3] at H
     exact absurd H (by simp)
   ·rw [if_neg c2] at H
    have c2b0 : decide (x8_1 < (l0.length : Int)) = false := decide_eq_false c2
    clear c2
    obtain rfl := Option.some.inj H
    go_wp2
    go_ret
    exact ⟨_, by first | rfl | (simp [errW_none, errW_some] <;> rfl) | (simp [*, errW_none, errW_some] <;> rfl), by (with_reducible repeat (first | apply nA | apply nN | apply nD)); exact HO_3.out, zo HB⟩

end Go.Proofs.Ytkfbfgkdabljiaa.PShadowHolds
