/- What the call of each function that the law reaches comes to: it answers as the plain function of the same name does, wherever that one answers; and the law itself out of its plain form. Written by a program of this session (an extended copy of the printer); no condition but what stands in each theorem. -/
import Derived.Test.YtkfbfgkdabljiaaPShadowBetweenx0
import Derived.Test.YtkfbfgkdabljiaaPShadowBetweenx7
import Derived.Test.YtkfbfgkdabljiaaPShadowBetweenx8
namespace Go.Proofs.Ytkfbfgkdabljiaa.PShadowBetween
open Go.RowKit Go.Proofs.YtkfbfgkdabljiaaW.PrintWords Go.Proofs.YtkfbfgkdabljiaaW.PrintLast Go.Proofs.YtkfbfgkdabljiaaW.PrintMore
open Go.Proofs.YtkfbfgkdabljiaaW.PrintWords renaming blk_drewN → zN, blk_drew → zD, blk_alloc → zA, below_alloc → yA, pw_below_drewN → yN, below_drew1 → yD, below_set → yS, gate_callee → zC
open Go.Proofs.YtkfbfgkdabljiaaW.PrintWords.Kd renaming C_alloc → cA, C_drewN → cN, C_drew → cD
open Go.Proofs.YtkfbfgkdabljiaaW.PrintWords.Aside0 renaming mk → zK
open Bool renaming true → T_, false → F_
open List renaming setIfInBounds_toArray → zt, set_cons_zero → zz, set_cons_succ → zs
attribute [local go_sem] max2_int min2_int max_two min_two max_three min_three max_four min_four   -- for this text's walks alone
set_option linter.unusedVariables false
set_option linter.unusedSimpArgs false

/-! ### sequiturref27_Eval: function 37 -/
def sequiturref27_Eval.l0 : Nat → List Int → Int → Int → List (S68) → Int → Int → Int → Int → Option (Int × Int)
 | 0, _, _, _, _, _, _, _, _ => none
 | k + 1, x1, x7, x292000, x292001, x298000, x298001, x298002, x298003 => if x7 < (x292001.length : Int) then (if 0 ≤ x7 then (if ((rd_T68 x292001 x7).f0) < (x1.length : Int) then (if 0 ≤ ((rd_T68 x292001 x7).f0) then ((sequiturref27_More.f k x298000 x298001 x298002 x298003 ((rd_T68 x292001 x7).f1) (rd x1 ((rd_T68 x292001 x7).f0))).bind fun bt302 => (sequiturref27_Eval.l0 k x1 (wrap64 (x7 + 1)) x292000 x292001 bt302.1 bt302.2.1 bt302.2.2.1 bt302.2.2.2)) else (none)) else (sequiturref27_Eval.l0 k x1 (wrap64 (x7 + 1)) x292000 x292001 x298000 x298001 x298002 x298003)) else (none)) else ((sequiturref27_Fits.f x298000 x298001 x298002 x298003).bind fun bt306 => (if bt306.2 = true then (some (bt306.1, 0)) else (some (0, 5))))
def sequiturref27_Eval.f (k : Nat) (a0_0 : Int) (l0_1 : List (S68)) (l1 : List Int) : Option (Int × Int) := (sequiturref27_Right.f k a0_0 l0_1).bind fun t292 => (if t292 = 0 then ((sequiturref27_More.f k 0 0 0 0 a0_0 1).bind fun bt293 => (sequiturref27_Eval.l0 k l1 0 a0_0 l0_1 bt293.1 bt293.2.1 bt293.2.2.1 bt293.2.2.2)) else (some (0, 1)))
theorem sequiturref27_Eval.mono_l : ∀ k, (∀ y0 y1 y2 y3 y4 y5 y6 y7, LeO (sequiturref27_Eval.l0 k y0 y1 y2 y3 y4 y5 y6 y7) (sequiturref27_Eval.l0 (k + 1) y0 y1 y2 y3 y4 y5 y6 y7))
 | 0 => fun _ _ _ _ _ _ _ _ r h => by simp [sequiturref27_Eval.l0] at h
 | k + 1 => by
  have ih0 := sequiturref27_Eval.mono_l k
  ·intro y0 y1 y2 y3 y4 y5 y6 y7
   unfold sequiturref27_Eval.l0
   repeat' first
   | (with_reducible exact ih0 _ _ _ _ _ _ _ _)
   | (with_reducible exact sequiturref27_More.mono _ _ _ _ _ _ _)
   | (with_reducible exact sequiturref27_Right.mono _ _ _)
   | (with_reducible exact LeO.refl _)
   | (with_reducible exact LeO.none _)
   | (with_reducible refine LeO.ite ?_ ?_)
   | (with_reducible refine LeO.bind ?_ (fun _ => ?_))
   | exact ih0 _ _ _ _ _ _ _ _
   | exact sequiturref27_More.mono _ _ _ _ _ _ _
   | exact sequiturref27_Right.mono _ _ _
   | exact LeO.none _
   | refine LeO.ite ?_ ?_
   | refine LeO.bind ?_ (fun _ => ?_)
theorem sequiturref27_Eval.mono : ∀ a0 a1 a2 k, LeO (sequiturref27_Eval.f k a0 a1 a2) (sequiturref27_Eval.f (k + 1) a0 a1 a2) := by
 intro a0 a1 a2 k
 have ih0 := sequiturref27_Eval.mono_l k
 unfold sequiturref27_Eval.f
 repeat' first
   | (with_reducible exact ih0 _ _ _ _ _ _ _ _)
   | (with_reducible exact sequiturref27_More.mono _ _ _ _ _ _ _)
   | (with_reducible exact sequiturref27_Right.mono _ _ _)
   | (with_reducible exact LeO.refl _)
   | (with_reducible exact LeO.none _)
   | (with_reducible refine LeO.ite ?_ ?_)
   | (with_reducible refine LeO.bind ?_ (fun _ => ?_))
   | exact ih0 _ _ _ _ _ _ _ _
   | exact sequiturref27_More.mono _ _ _ _ _ _ _
   | exact sequiturref27_Right.mono _ _ _
   | exact LeO.none _
   | refine LeO.ite ?_ ?_
   | refine LeO.bind ?_ (fun _ => ?_)
def sequiturref27_Eval.T8 : Bool × List (List Nat × List Nat) := (true, [([], []), ([], []), ([1], [1]), ([], []), ([2, 3], [2, 3]), ([4], [4]), ([5], [5]), ([], []), ([], []), ([8], [8]), ([], []), ([9, 10], [9, 10]), ([11], [11]), ([12], [12]), ([7, 13], [7, 13]), ([14], [14]), ([0, 6, 15], [0, 6, 15]), ([16, 16, 0, 1, 2, 3, 4, 5, 6, 7, 8, 9, 10, 11, 12, 13, 14, 15, 16], [16])])
def sequiturref27_Eval.B8 : List Nat := [0, 0, 2, 0, 14, 30, 62, 0, 0, 256, 0, 1792, 3840, 7936, 16256, 32640, 65535, 131071]
theorem sequiturref27_Eval.tab8 : rtab .any (opsOf Try.f37 8) = sequiturref27_Eval.T8 := by kernel_rfl
theorem sequiturref27_Eval.bits8 : waitsOk sequiturref27_Eval.T8.2 sequiturref27_Eval.B8 = true := by kernel_rfl
set_option maxHeartbeats 8000000 in
set_option maxRecDepth 100000 in
theorem sequiturref27_Eval.calls (k : Nat) (a0_0 : Int) (A0_1 : Option Addr) (c0_1 : Nat) (l0_1 : List (S68)) (A1 : Option Addr) (c1 : Nat) (l1 : List Int) (r1 : Int) (r2 : Int) (w : World) (hr0_1 : Kd.C k68 w A0_1 l0_1.length l0_1) (hc0_1 : l0_1.length ≤ c0_1) (hr1 : Kd.C (Kd.int .i64) w A1 l1.length l1) (hc1 : l1.length ≤ c1) (h : sequiturref27_Eval.f k a0_0 l0_1 l1 = some (r1, r2)) :
  Calls Try.prog 37 #[.agg #[.int .i64 a0_0, .slice A0_1 l0_1.length c0_1], .slice A1 l1.length c1] w fun e w' => e = .returned (.tuple #[.int .i64 r1, .int .i64 r2]) ∧ Below w.heap.size w w' := by
 have hu62 := Try.underlying62
 have hu109 := Try.underlying109
 have HR0_1 := zK hr0_1
 have HC0_1 := zK hc0_1; clear hr0_1 hc0_1
 have HR1 := zK hr1
 have HC1 := zK hc1; clear hr1 hc1
 have HB := zK (Below.refl w.heap.size w)
 have H : ((sequiturref27_Right.f k a0_0 l0_1).bind fun t292 => (if t292 = 0 then ((sequiturref27_More.f k 0 0 0 0 a0_0 1).bind fun bt293 => (sequiturref27_Eval.l0 k l1 0 a0_0 l0_1 bt293.1 bt293.2.1 bt293.2.2.1 bt293.2.2.2)) else (some (0, 1)))) = some (r1, r2) := h
 clear h; replace H := Option.bind_eq_some_iff.mp H
 obtain ⟨t292, A30, H⟩ := H
 replace H : (if t292 = 0 then ((sequiturref27_More.f k 0 0 0 0 a0_0 1).bind fun bt293 => (sequiturref27_Eval.l0 k l1 0 a0_0 l0_1 bt293.1 bt293.2.1 bt293.2.2.1 bt293.2.2.2)) else (some (0, 1))) = some (r1, r2) := H
 have A3 := zK A30; clear A30
 by_cases c4 : t292 = 0
 ·rw [if_pos c4] at H
  have c4b0 : (t292 == 0) = true := beq_iff_eq.mpr c4
  have c4b1 : (t292 != 0) = false := bne_eq_false_iff_eq.mpr c4; clear c4
  replace H := Option.bind_eq_some_iff.mp H
  obtain ⟨⟨t293, t294, t295, t296⟩, A50, H⟩ := H
  replace H : (sequiturref27_Eval.l0 k l1 0 a0_0 l0_1 t293 t294 t295 t296) = some (r1, r2) := H
  have A5 := zK A50; clear A50
  have H' := zK H; clear H
  go_enter Try.func37, Try.ntmps37
  go_wp2_with (first | ((with_reducible refine gate_dst (N := 2) rfl ?_); refine box_event ?hg (N := 2) ?hd (cs := #[.int .i64 a0_0, .slice A0_1 l0_1.length c0_1]) (t := 62) ?hr ?_; (case hd => rfl); (case hg => rfl); (case hr => first | (go_simp; done) | (go_simp; rfl)); intro gb291 hg w6 hbox hb; have BK291 := zK (hbox); have GW291 := zK ((by rw [hg]; exact (below_size (zo HB)) : w.heap.size ≤ gb291)); have GE291 := zK ((by rw [hg]; exact (below_size (zo HB)) : w.heap.size ≤ gb291)); replace HB := zK (below_step (zo HB) hb); clear hb hbox hg; have hcz7_0 : w6.cell? ⟨gb291, 0, none⟩ = some (.int .i64 a0_0) := (blk_cell BK291.out 0).trans rfl; have hcz7_1 : w6.cell? ⟨gb291, 1, none⟩ = some (.slice A0_1 l0_1.length c0_1) := (blk_cell BK291.out 1).trans rfl; have hfz7_0 := blk_frozen BK291.out 0; have hfz7_1 := blk_frozen BK291.out 1) | ((with_reducible refine zC (f := 70) rfl ?_); refine goesL_ (some 11) rfl rfl Try.func70 (by kernel_rfl) rfl #[.agg #[.int .i64 a0_0, .slice A0_1 l0_1.length c0_1]] rfl (by (try simp only [List.map_toArray, List.map_cons, List.map_nil]); first | done | rfl | (simp only [List.length_drop, List.length_take]; rfl)) ?_; (with_reducible refine (sequiturref27_Right.calls k a0_0 _ _ l0_1 t292 _ ?side1 ?side2 A3.out).mono ?_); (case side1 => repeat (first | exact (Kd.C_below HR0_1.out HB.out) | (with_reducible refine cA ?_ _) | (with_reducible refine cN ?_ _) | (with_reducible refine cD ?_))); (case side2 => exact HC0_1.out); rintro e w8 ⟨rfl, hb⟩; refine ⟨_, rfl, ?_⟩; replace BK291 := zK (blk_below (g := gb291) (o := .cells #[.int .i64 a0_0, .slice A0_1 l0_1.length c0_1] 62 (0, 0)) (zb BK291) hb); replace HB := zK (below_step (zo HB) hb); (try clear hb); (try clear hb2); (try clear hk); (try clear hi); have hcz9_0 : w8.cell? ⟨gb291, 0, none⟩ = some (.int .i64 a0_0) := (blk_cell BK291.out 0).trans rfl; have hcz9_1 : w8.cell? ⟨gb291, 1, none⟩ = some (.slice A0_1 l0_1.length c0_1) := (blk_cell BK291.out 1).trans rfl; have hfz9_0 := blk_frozen BK291.out 0; have hfz9_1 := blk_frozen BK291.out 1) | ((with_reducible refine zC (f := 71) rfl ?_); refine goesL_ (some 16) rfl rfl Try.func71 (by kernel_rfl) rfl #[.agg #[.int .i64 0, .int .u64 0, .int .i64 0, .int .u64 0], .int .i64 a0_0, .int .i64 1] rfl (by (try simp only [List.map_toArray, List.map_cons, List.map_nil]); first | done | rfl | (simp only [List.length_drop, List.length_take]; rfl)) ?_; (with_reducible refine (sequiturref27_More.calls k 0 0 0 0 a0_0 1 t293 t294 t295 t296 _ A5.out).mono ?_); rintro e w10 ⟨rfl, hb⟩; refine ⟨_, rfl, ?_⟩; replace BK291 := zK (blk_below (g := gb291) (o := .cells #[.int .i64 a0_0, .slice A0_1 l0_1.length c0_1] 62 (0, 0)) (zb BK291) hb); replace HB := zK (below_step (zo HB) hb); (try clear hb); (try clear hb2); (try clear hk); (try clear hi)) | ((with_reducible refine gate_dst (N := 6) rfl ?_); refine box_event ?hg (N := 6) ?hd (cs := #[.int .i64 0, .int .u64 0, .int .i64 0, .int .u64 0]) (t := 109) ?hr ?_; (case hd => rfl); (case hg => rfl); (case hr => first | (go_simp; done) | (go_simp; rfl)); intro gb297 hg w11 hbox hb; have BK297 := zK (hbox); have GW297 := zK ((by rw [hg]; exact (below_size (zo HB)) : w.heap.size ≤ gb297)); have GE297 := zK ((by rw [hg]; exact (below_size (zo HB)) : w.heap.size ≤ gb297)); replace HB := zK (below_step (zo HB) hb); have NB291_297 := zK ((by rw [hg]; exact Nat.ne_of_lt (blk_lt (g := gb291) (o := .cells #[.int .i64 a0_0, .slice A0_1 l0_1.length c0_1] 62 (0, 0)) (zb BK291)) : gb291 ≠ gb297)); have NB297_291 := zK ((by rw [hg]; exact Nat.ne_of_gt (blk_lt (g := gb291) (o := .cells #[.int .i64 a0_0, .slice A0_1 l0_1.length c0_1] 62 (0, 0)) (zb BK291)) : gb297 ≠ gb291)); replace BK291 := zK (blk_below (g := gb291) (o := .cells #[.int .i64 a0_0, .slice A0_1 l0_1.length c0_1] 62 (0, 0)) (zb BK291) hb); clear hb hbox hg; have hnb12 := NB297_291.out; have hnc12 := NB291_297.out; have hcz13_0 : w11.cell? ⟨gb297, 0, none⟩ = some (.int .i64 0) := (blk_cell BK297.out 0).trans rfl; have hcz13_1 : w11.cell? ⟨gb297, 1, none⟩ = some (.int .u64 0) := (blk_cell BK297.out 1).trans rfl; have hcz13_2 : w11.cell? ⟨gb297, 2, none⟩ = some (.int .i64 0) := (blk_cell BK297.out 2).trans rfl; have hcz13_3 : w11.cell? ⟨gb297, 3, none⟩ = some (.int .u64 0) := (blk_cell BK297.out 3).trans rfl; have hfz13_0 := blk_frozen BK297.out 0; have hfz13_1 := blk_frozen BK297.out 1; have hfz13_2 := blk_frozen BK297.out 2; have hfz13_3 := blk_frozen BK297.out 3))
  go_loopg [7] k (fun kq v7 w' => ∃ (x7_1 : Int) (x298000_1 : Int) (x298001_1 : Int) (x298002_1 : Int) (x298003_1 : Int), v7 = .int .i64 x7_1 ∧ Aside0 (sequiturref27_Eval.l0 kq l1 x7_1 a0_0 l0_1 x298000_1 x298001_1 x298002_1 x298003_1 = some (r1, r2)) ∧ Aside0 (kq ≤ k) ∧ Aside0 (w'.heap[gb291]? = some (.cells #[.int .i64 a0_0, (.slice A0_1 l0_1.length c0_1)] 62 (0, 0))) ∧ Aside0 (w'.heap[gb297]? = some (.cells #[.int .i64 x298000_1, .int .u64 x298001_1, .int .i64 x298002_1, .int .u64 x298003_1] 109 (0, 0))) ∧ Aside0 (Below w.heap.size w w'))
  case atStart => exact ⟨(0), (t293), (t294), (t295), (t296), (by first | rfl | (simp; done) | (simp [*]; done)), H', ⟨Nat.le_refl _⟩, ⟨zb BK291⟩, ⟨by refine zM ?_; refine blk_put (cs := #[.int .i64 t293, .int .u64 t294, .int .i64 t295, .int .u64 0]) ?_ 3 _ rfl; refine zM ?_; refine blk_put (cs := #[.int .i64 t293, .int .u64 t294, .int .i64 0, .int .u64 0]) ?_ 2 _ rfl; refine zM ?_; refine blk_put (cs := #[.int .i64 t293, .int .u64 0, .int .i64 0, .int .u64 0]) ?_ 1 _ rfl; refine zM ?_; refine blk_put (cs := #[.int .i64 0, .int .u64 0, .int .i64 0, .int .u64 0]) ?_ 0 _ rfl; refine zM ?_; exact BK297.out⟩, ⟨zo HB⟩⟩
  case round =>
   clear H'; try clear c1; try clear p2; try clear c3
   try clear c4; try clear c4b0; try clear c4b1; try clear c7
   try clear c12; try clear hcz13_0; try clear hcz13_1; try clear hcz13_2
   try clear hcz13_3; try clear hcz7_0; try clear hcz7_1; try clear hcz9_0
   try clear hcz9_1; try clear hfz13_0; try clear hfz13_1; try clear hfz13_2
   try clear hfz13_3; try clear hfz7_0; try clear hfz7_1; try clear hfz9_0
   try clear hfz9_1
   obtain ⟨x7_1, x298000_1, x298001_1, x298002_1, x298003_1, rfl, HA, HK1, BK291, BK297, HB⟩ := hrel
   cases gk with
   | zero => exact absurd HA.out (by simp [sequiturref27_Eval.l0])
   | succ k1 =>
    have H := HA.out; clear HA
    simp only [sequiturref27_Eval.l0] at H
    by_cases c14 : x7_1 < (l0_1.length : Int)
    ·rw [if_pos c14] at H
     have c14b0 : decide (x7_1 < (l0_1.length : Int)) = true := decide_eq_true c14
     clear c14
     by_cases c15 : 0 ≤ x7_1
     ·rw [if_pos c15] at H
      have c15b0 : decide (0 ≤ x7_1) = true := decide_eq_true c15; clear c15
      by_cases c16 : ((rd_T68 l0_1 x7_1).f0) < (l1.length : Int)
      ·rw [if_pos c16] at H
       have c16b0 : decide (((rd_T68 l0_1 x7_1).f0) < (l1.length : Int)) = true := decide_eq_true c16
       clear c16
       by_cases c17 : 0 ≤ ((rd_T68 l0_1 x7_1).f0)
       ·rw [if_pos c17] at H
        have c17b0 : decide (0 ≤ ((rd_T68 l0_1 x7_1).f0)) = true := decide_eq_true c17
        clear c17; replace H := Option.bind_eq_some_iff.mp H
        obtain ⟨⟨t302, t303, t304, t305⟩, A180, H⟩ := H
        replace H : (sequiturref27_Eval.l0 k1 l1 (wrap64 (x7_1 + 1)) a0_0 l0_1 t302 t303 t304 t305) = some (r1, r2) := H
        have A18 := zK A180; clear A180
        have H' := zK H; clear H
        have hnb19 := NB291_297.out
        have hnc19 := NB297_291.out
        have hcz20_0 : wr.cell? ⟨gb291, 0, none⟩ = some (.int .i64 a0_0) := (blk_cell BK291.out 0).trans rfl
        have hcz20_1 : wr.cell? ⟨gb291, 1, none⟩ = some (.slice A0_1 l0_1.length c0_1) := (blk_cell BK291.out 1).trans rfl
        have hfz20_0 := blk_frozen BK291.out 0
        have hfz20_1 := blk_frozen BK291.out 1
        have p298 : 0 ≤ (x7_1 : Int) := of_decide_eq_true (by first | (with_reducible assumption) | assumption)
        have q298 : x7_1 < (l0_1.length : Int) := of_decide_eq_true (by first | (with_reducible assumption) | assumption)
        obtain ⟨ad298, e298, hx298_0, hx298_1⟩ := at_T68 HR0_1.out x7_1 p298 q298
        cases e298
        replace hx298_0 := (HB.out.cell (World.block_lt_of_cell? w _ hx298_0)).trans hx298_0
        replace hx298_1 := (HB.out.cell (World.block_lt_of_cell? w _ hx298_1)).trans hx298_1
        replace p298 := eq_true p298
        replace q298 := eq_true q298
        try go_wp2
        replace BK291 := zK (zD BK291.out)
        replace BK297 := zK (zD BK297.out)
        replace HB := zK (yD HB.out)
        have p299 : 0 ≤ (x7_1 : Int) := of_decide_eq_true (by first | (with_reducible assumption) | assumption)
        have q299 : x7_1 < (l0_1.length : Int) := of_decide_eq_true (by first | (with_reducible assumption) | assumption)
        obtain ⟨ad299, e299, hx299_0, hx299_1⟩ := at_T68 HR0_1.out x7_1 p299 q299
        have hw299_1 := hx299_1
        have hw299_0 := hx299_0
        obtain rfl : ad298 = ad299 := (by injection e299)
        replace hx299_0 := (HB.out.cell (World.block_lt_of_cell? w _ hx299_0)).trans hx299_0
        replace hx299_1 := (HB.out.cell (World.block_lt_of_cell? w _ hx299_1)).trans hx299_1
        replace p299 := eq_true p299
        replace q299 := eq_true q299
        have p300 : 0 ≤ (x7_1 : Int) := of_decide_eq_true (by first | (with_reducible assumption) | assumption)
        have q300 : x7_1 < (l0_1.length : Int) := of_decide_eq_true (by first | (with_reducible assumption) | assumption)
        obtain ⟨ad300, e300, hx300_0, hx300_1⟩ := at_T68 HR0_1.out x7_1 p300 q300
        have hw300_1 := hx300_1
        have hw300_0 := hx300_0
        obtain rfl : ad298 = ad300 := (by injection e300)
        replace hx300_0 := (HB.out.cell (World.block_lt_of_cell? w _ hx300_0)).trans hx300_0
        replace hx300_1 := (HB.out.cell (World.block_lt_of_cell? w _ hx300_1)).trans hx300_1
        replace p300 := eq_true p300
        replace q300 := eq_true q300
        have p301 : 0 ≤ (((rd_T68 l0_1 x7_1).f0) : Int) := of_decide_eq_true (by first | (with_reducible assumption) | assumption)
        have q301 : ((rd_T68 l0_1 x7_1).f0) < (l1.length : Int) := of_decide_eq_true (by first | (with_reducible assumption) | assumption)
        obtain ⟨ad301, e301, hx301_0⟩ := Kd.at_int HR1.out ((rd_T68 l0_1 x7_1).f0) p301 q301
        have hw301_0 := hx301_0
        cases e301
        replace hx301_0 := (HB.out.cell (World.block_lt_of_cell? w _ hx301_0)).trans hx301_0
        replace p301 := eq_true p301
        replace q301 := eq_true q301
        refine start_ (n := 18) (S := fun w' => w'.cell? ⟨gb297, 0, none⟩ = some (.int .i64 x298000_1) ∧ w'.cell? ⟨gb297, 1, none⟩ = some (.int .u64 x298001_1) ∧ w'.cell? ⟨gb297, 2, none⟩ = some (.int .i64 x298002_1) ∧ w'.cell? ⟨gb297, 3, none⟩ = some (.int .u64 x298003_1) ∧ w'.cell? ⟨gb291, 0, none⟩ = some (.int .i64 a0_0) ∧ w'.cell? ⟨gb291, 1, none⟩ = some (.slice (some ad298) l0_1.length c0_1) ∧ w'.cell? (ad298.add ((x7_1).toNat * 2)) = some (.int .i64 ((rd_T68 l0_1 x7_1).f0)) ∧ w'.cell? ⟨(ad298.add ((x7_1).toNat * 2)).block, (ad298.add ((x7_1).toNat * 2)).off + 1, none⟩ = some (.int .i64 ((rd_T68 l0_1 x7_1).f1)) ∧ w'.cell? (ad298.add ((x7_1).toNat * 2)) = some (.int .i64 ((rd_T68 l0_1 x7_1).f0)) ∧ w'.cell? ⟨(ad298.add ((x7_1).toNat * 2)).block, (ad298.add ((x7_1).toNat * 2)).off + 1, none⟩ = some (.int .i64 ((rd_T68 l0_1 x7_1).f1)) ∧ w'.cell? (ad301.add (((rd_T68 l0_1 x7_1).f0)).toNat) = some (.int .i64 (rd l1 ((rd_T68 l0_1 x7_1).f0)))) (ds := [17]) #[F_,F_,F_,F_,F_,F_,F_,F_,F_,F_,F_,F_,F_,F_,F_,F_,F_,F_] (by kernel_rfl) rfl rfl ⟨(blk_cell BK297.out 0).trans rfl, (blk_cell BK297.out 1).trans rfl, (blk_cell BK297.out 2).trans rfl, (blk_cell BK297.out 3).trans rfl, (blk_cell BK291.out 0).trans rfl, (blk_cell BK291.out 1).trans rfl, ((HB.out.cell (World.block_lt_of_cell? w _ hw299_0)).trans hw299_0), ((HB.out.cell (World.block_lt_of_cell? w _ hw299_1)).trans hw299_1), ((HB.out.cell (World.block_lt_of_cell? w _ hw300_0)).trans hw300_0), ((HB.out.cell (World.block_lt_of_cell? w _ hw300_1)).trans hw300_1), ((HB.out.cell (World.block_lt_of_cell? w _ hw301_0)).trans hw301_0)⟩ (fun hHeld => ?_); refine with_tabW sequiturref27_Eval.tab8 sequiturref27_Eval.bits8 (fun HT_ HW_ => ?_)
        generalize wr.drew = w21 at BK291 BK297 HB hx299_0 hx299_1 hx300_0 hx300_1 hx301_0 hHeld ⊢
        refine pure_ (i := 1) (N := some 34) (v := ?_) (a' := ?_) #[F_,T_,F_,F_,F_,F_,F_,F_,F_,F_,F_,F_,F_,F_,F_,F_,F_,F_] rfl rfl (any_of HT_.out (by kernel_rfl)) (fun _ _ _ h => h) (Or.inl ⟨by rfl, ?_⟩) ?_ ?_; rotate_left; (intro w'; go_simp; with_reducible rfl); rotate_left; (simp only [Act.put, zt, zz, zs, i64_w, i32_w]; rfl)
        refine pure_ (i := 3) (N := some 36) (v := ?_) (a' := ?_) #[F_,T_,F_,T_,F_,F_,F_,F_,F_,F_,F_,F_,F_,F_,F_,F_,F_,F_] rfl rfl (any_of HT_.out (by kernel_rfl)) (fun _ _ _ h => h) (Or.inl ⟨by rfl, ?_⟩) ?_ ?_; rotate_left; (intro w'; go_simp; with_reducible rfl); rotate_left; (simp only [Act.put, zt, zz, zs, i64_w, i32_w]; rfl)
        refine pure_ (i := 7) (N := some 40) (v := ?_) (a' := ?_) #[F_,T_,F_,T_,F_,F_,F_,T_,F_,F_,F_,F_,F_,F_,F_,F_,F_,F_] rfl rfl (any_of HT_.out (by kernel_rfl)) (fun _ _ _ h => h) (Or.inl ⟨by rfl, ?_⟩) ?_ ?_; rotate_left; (intro w'; go_simp; with_reducible rfl); rotate_left; (simp only [Act.put, zt, zz, zs, i64_w, i32_w]; rfl)
        refine pure_ (i := 8) (N := some 41) (v := ?_) (a' := ?_) #[F_,T_,F_,T_,F_,F_,F_,T_,T_,F_,F_,F_,F_,F_,F_,F_,F_,F_] rfl rfl (any_of HT_.out (by kernel_rfl)) (fun _ _ _ h => h) (Or.inl ⟨by rfl, ?_⟩) ?_ ?_; rotate_left; (intro w'; go_simp; with_reducible rfl); rotate_left; (simp only [Act.put, zt, zz, zs, i64_w, i32_w]; rfl)
        refine pure_ (i := 10) (N := some 43) (v := ?_) (a' := ?_) #[F_,T_,F_,T_,F_,F_,F_,T_,T_,F_,T_,F_,F_,F_,F_,F_,F_,F_] rfl rfl (any_of HT_.out (by kernel_rfl)) (fun _ _ _ h => h) (Or.inl ⟨by rfl, ?_⟩) ?_ ?_; rotate_left; (intro w'; go_simp; with_reducible rfl); rotate_left; (simp only [Act.put, zt, zz, zs, i64_w, i32_w]; rfl)
        refine take_ (i := 0) (N := some 33) (v := ?_) (a' := ?_) #[T_,T_,F_,T_,F_,F_,F_,T_,T_,F_,T_,F_,F_,F_,F_,F_,F_,F_] rfl rfl (take_ofW HT_.out HW_.out (by kernel_rfl)) (fun _ _ _ h => h) (Or.inl ⟨by rfl, ?_⟩) hHeld ?_ ?_; rotate_left; (rintro w' ⟨s0, s1, s2, s3, s4, s5, s6, s7, s8, s9, s10⟩; go_simp; with_reducible rfl); rotate_left; (simp only [Act.put, zt, zz, zs, i64_w, i32_w]; rfl)
        refine take_ (i := 2) (N := some 35) (v := ?_) (a' := ?_) #[T_,T_,T_,T_,F_,F_,F_,T_,T_,F_,T_,F_,F_,F_,F_,F_,F_,F_] rfl rfl (take_ofW HT_.out HW_.out (by kernel_rfl)) (fun _ _ _ h => h) (Or.inl ⟨by rfl, ?_⟩) hHeld ?_ ?_; rotate_left; (rintro w' ⟨s0, s1, s2, s3, s4, s5, s6, s7, s8, s9, s10⟩; go_simp; with_reducible rfl); rotate_left; (simp only [Act.put, zt, zz, zs, i64_w, i32_w]; rfl)
        refine pure_ (i := 4) (N := some 37) (v := ?_) (a' := ?_) #[T_,T_,T_,T_,T_,F_,F_,T_,T_,F_,T_,F_,F_,F_,F_,F_,F_,F_] rfl rfl (any_of HT_.out (by kernel_rfl)) (fun _ _ _ h => h) (Or.inl ⟨by rfl, ?_⟩) ?_ ?_; rotate_left; (intro w'; go_simp; with_reducible rfl); rotate_left; (simp only [Act.put, zt, zz, zs, i64_w, i32_w]; rfl)
        refine pure_ (i := 5) (N := some 38) (v := ?_) (a' := ?_) #[T_,T_,T_,T_,T_,T_,F_,T_,T_,F_,T_,F_,F_,F_,F_,F_,F_,F_] rfl rfl (any_of HT_.out (by kernel_rfl)) (fun _ _ _ h => h) (Or.inl ⟨by rfl, ?_⟩) ?_ ?_; rotate_left; (intro w'; go_simp; with_reducible rfl); rotate_left; (simp only [Act.put, zt, zz, zs, i64_w, i32_w]; rfl)
        refine take_ (i := 6) (N := some 39) (v := ?_) (a' := ?_) #[T_,T_,T_,T_,T_,T_,T_,T_,T_,F_,T_,F_,F_,F_,F_,F_,F_,F_] rfl rfl (take_ofW HT_.out HW_.out (by kernel_rfl)) (fun _ _ _ h => h) (Or.inl ⟨by rfl, ?_⟩) hHeld ?_ ?_; rotate_left; (rintro w' ⟨s0, s1, s2, s3, s4, s5, s6, s7, s8, s9, s10⟩; go_simp; with_reducible rfl); rotate_left; (simp only [Act.put, zt, zz, zs, i64_w, i32_w]; rfl)
        refine take_ (i := 9) (N := some 42) (v := ?_) (a' := ?_) #[T_,T_,T_,T_,T_,T_,T_,T_,T_,T_,T_,F_,F_,F_,F_,F_,F_,F_] rfl rfl (take_ofW HT_.out HW_.out (by kernel_rfl)) (fun _ _ _ h => h) (Or.inl ⟨by rfl, ?_⟩) hHeld ?_ ?_; rotate_left; (rintro w' ⟨s0, s1, s2, s3, s4, s5, s6, s7, s8, s9, s10⟩; go_simp; with_reducible rfl); rotate_left; (simp only [Act.put, zt, zz, zs, i64_w, i32_w]; rfl)
        refine pure_ (i := 11) (N := some 44) (v := ?_) (a' := ?_) #[T_,T_,T_,T_,T_,T_,T_,T_,T_,T_,T_,T_,F_,F_,F_,F_,F_,F_] rfl rfl (any_of HT_.out (by kernel_rfl)) (fun _ _ _ h => h) (Or.inl ⟨by rfl, ?_⟩) ?_ ?_; rotate_left; (intro w'; go_simp; with_reducible rfl); rotate_left; (simp only [Act.put, zt, zz, zs, i64_w, i32_w]; rfl)
        refine pure_ (i := 12) (N := some 45) (v := ?_) (a' := ?_) #[T_,T_,T_,T_,T_,T_,T_,T_,T_,T_,T_,T_,T_,F_,F_,F_,F_,F_] rfl rfl (any_of HT_.out (by kernel_rfl)) (fun _ _ _ h => h) (Or.inl ⟨by rfl, ?_⟩) ?_ ?_; rotate_left; (intro w'; go_simp; with_reducible rfl); rotate_left; (simp only [Act.put, zt, zz, zs, i64_w, i32_w]; rfl)
        refine take_ (i := 13) (N := some 46) (v := ?_) (a' := ?_) #[T_,T_,T_,T_,T_,T_,T_,T_,T_,T_,T_,T_,T_,T_,F_,F_,F_,F_] rfl rfl (take_ofW HT_.out HW_.out (by kernel_rfl)) (fun _ _ _ h => h) (Or.inl ⟨by rfl, ?_⟩) hHeld ?_ ?_; rotate_left; (rintro w' ⟨s0, s1, s2, s3, s4, s5, s6, s7, s8, s9, s10⟩; go_simp; with_reducible rfl); rotate_left; (simp only [Act.put, zt, zz, zs, i64_w, i32_w]; rfl)
        refine pure_ (i := 14) (N := some 47) (v := ?_) (a' := ?_) #[T_,T_,T_,T_,T_,T_,T_,T_,T_,T_,T_,T_,T_,T_,T_,F_,F_,F_] rfl rfl (any_of HT_.out (by kernel_rfl)) (fun _ _ _ h => h) (Or.inl ⟨by rfl, ?_⟩) ?_ ?_; rotate_left; (intro w'; go_simp; with_reducible rfl); rotate_left; (simp only [Act.put, zt, zz, zs, i64_w, i32_w]; rfl)
        refine take_ (i := 15) (N := some 48) (v := ?_) (a' := ?_) #[T_,T_,T_,T_,T_,T_,T_,T_,T_,T_,T_,T_,T_,T_,T_,T_,F_,F_] rfl rfl (take_ofW HT_.out HW_.out (by kernel_rfl)) (fun _ _ _ h => h) (Or.inl ⟨by rfl, ?_⟩) hHeld ?_ ?_; rotate_left; (rintro w' ⟨s0, s1, s2, s3, s4, s5, s6, s7, s8, s9, s10⟩; go_simp; with_reducible rfl); rotate_left; (simp only [Act.put, zt, zz, zs, i64_w, i32_w]; rfl)
        refine one_ (i := 16) (N := some 49) #[T_,T_,T_,T_,T_,T_,T_,T_,T_,T_,T_,T_,T_,T_,T_,T_,T_,F_] rfl rfl (one_of HT_.out (by kernel_rfl)) (by decide) (fun K hK => ?_)
        refine goes_ Try.func71 (by kernel_rfl) rfl #[.agg #[.int .i64 x298000_1, .int .u64 x298001_1, .int .i64 x298002_1, .int .u64 x298003_1], .int .i64 ((rd_T68 l0_1 x7_1).f1), .int .i64 (rd l1 ((rd_T68 l0_1 x7_1).f0))] (by rfl) rfl rfl (by (try simp only [List.map_toArray, List.map_cons, List.map_nil]); first | done | rfl | (simp only [List.length_drop, List.length_take]; rfl)) ?_
        with_reducible refine (sequiturref27_More.calls k1 x298000_1 x298001_1 x298002_1 x298003_1 ((rd_T68 l0_1 x7_1).f1) (rd l1 ((rd_T68 l0_1 x7_1).f0)) t302 t303 t304 t305 _ A18.out).mono ?_
        rintro e w22 ⟨rfl, hb⟩
        refine ⟨_, rfl, ?_⟩
        replace BK291 := zK (blk_below (g := gb291) (o := .cells #[.int .i64 a0_0, .slice (some ad298) l0_1.length c0_1] 62 (0, 0)) (zb BK291) hb)
        replace BK297 := zK (blk_below (g := gb297) (o := .cells #[.int .i64 x298000_1, .int .u64 x298001_1, .int .i64 x298002_1, .int .u64 x298003_1] 109 (0, 0)) (zb BK297) hb)
        replace HB := zK (below_step (zo HB) hb)
        (try clear hb); (try clear hb2); (try clear hk); (try clear hi)
        refine hK.out _ _ ⟨(blk_cell BK297.out 0).trans rfl, (blk_cell BK297.out 1).trans rfl, (blk_cell BK297.out 2).trans rfl, (blk_cell BK297.out 3).trans rfl, (blk_cell BK291.out 0).trans rfl, (blk_cell BK291.out 1).trans rfl, ((HB.out.cell (World.block_lt_of_cell? w _ hw299_0)).trans hw299_0), ((HB.out.cell (World.block_lt_of_cell? w _ hw299_1)).trans hw299_1), ((HB.out.cell (World.block_lt_of_cell? w _ hw300_0)).trans hw300_0), ((HB.out.cell (World.block_lt_of_cell? w _ hw300_1)).trans hw300_1), ((HB.out.cell (World.block_lt_of_cell? w _ hw301_0)).trans hw301_0)⟩ (fun hHeld => ?_)
        clear hK K
        refine norm_ (a' := ?_) ?_ ?_; rotate_left; (show Act.put _ (some 49) _ = _; simp only [Act.put, zt, zz, zs, i64_w, i32_w]; rfl)
        refine last_ (i := 17) (N := none) #[T_,T_,T_,T_,T_,T_,T_,T_,T_,T_,T_,T_,T_,T_,T_,T_,T_,T_] rfl rfl (one_of HT_.out (by kernel_rfl)) (by decide) (fun K hK => ?_)
        have hs23 : w22.cell? ⟨gb297, 0, none⟩ = some (.int .i64 x298000_1) := (blk_cell BK297.out 0).trans rfl
        have hfs23 := blk_frozen BK297.out 0
        have hns23_0 := NB291_297.out
        have hms23_0 := NB297_291.out
        have hs24 : w22.cell? ⟨gb297, 1, none⟩ = some (.int .u64 x298001_1) := (blk_cell BK297.out 1).trans rfl
        have hfs24 := blk_frozen BK297.out 1
        have hns24_0 := NB291_297.out
        have hms24_0 := NB297_291.out
        have hs25 : w22.cell? ⟨gb297, 2, none⟩ = some (.int .i64 x298002_1) := (blk_cell BK297.out 2).trans rfl
        have hfs25 := blk_frozen BK297.out 2
        have hns25_0 := NB291_297.out
        have hms25_0 := NB297_291.out
        have hs26 : w22.cell? ⟨gb297, 3, none⟩ = some (.int .u64 x298003_1) := (blk_cell BK297.out 3).trans rfl
        have hfs26 := blk_frozen BK297.out 3
        have hns26_0 := NB291_297.out
        have hms26_0 := NB297_291.out
        refine skip_ (w1 := ?_) (by rfl) rfl ?_ ?_
        rotate_left
        ·go_simp
         rfl
        refine hK.out _ _ ?_
        clear hK K
        refine done_ (done_of HT_.out (by kernel_rfl)) ?_
        try go_wp2
        go_roundg k1
        case measure => have := HK1.out; omega
        case rel => exact ⟨(wrap64 (x7_1 + 1)), (t302), (t303), (t304), (t305), (by first | rfl | (simp; done) | (simp [*]; done)), H', ⟨by have := HK1.out; omega⟩, ⟨zb BK291⟩, ⟨by refine zM ?_; refine blk_put (cs := #[.int .i64 t302, .int .u64 t303, .int .i64 t304, .int .u64 x298003_1]) ?_ 3 _ rfl; refine zM ?_; refine blk_put (cs := #[.int .i64 t302, .int .u64 t303, .int .i64 x298002_1, .int .u64 x298003_1]) ?_ 2 _ rfl; refine zM ?_; refine blk_put (cs := #[.int .i64 t302, .int .u64 x298001_1, .int .i64 x298002_1, .int .u64 x298003_1]) ?_ 1 _ rfl; refine zM ?_; refine blk_put (cs := #[.int .i64 x298000_1, .int .u64 x298001_1, .int .i64 x298002_1, .int .u64 x298003_1]) ?_ 0 _ rfl; refine zM ?_; exact BK297.out⟩, ⟨zo HB⟩⟩
       ·rw [if_neg c17] at H
        exact absurd H (by simp)
      ·rw [if_neg c16] at H
       have c16b0 : decide (((rd_T68 l0_1 x7_1).f0) < (l1.length : Int)) = false := decide_eq_false c16
       clear c16
       have H' := zK H; clear H
       have hnb27 := NB291_297.out
       have hnc27 := NB297_291.out
       have hcz28_0 : wr.cell? ⟨gb291, 0, none⟩ = some (.int .i64 a0_0) := (blk_cell BK291.out 0).trans rfl
       have hcz28_1 : wr.cell? ⟨gb291, 1, none⟩ = some (.slice A0_1 l0_1.length c0_1) := (blk_cell BK291.out 1).trans rfl
       have hfz28_0 := blk_frozen BK291.out 0
       have hfz28_1 := blk_frozen BK291.out 1
       have p298 : 0 ≤ (x7_1 : Int) := of_decide_eq_true (by first | (with_reducible assumption) | assumption)
       have q298 : x7_1 < (l0_1.length : Int) := of_decide_eq_true (by first | (with_reducible assumption) | assumption)
       obtain ⟨ad298, e298, hx298_0, hx298_1⟩ := at_T68 HR0_1.out x7_1 p298 q298
       cases e298
       replace hx298_0 := (HB.out.cell (World.block_lt_of_cell? w _ hx298_0)).trans hx298_0
       replace hx298_1 := (HB.out.cell (World.block_lt_of_cell? w _ hx298_1)).trans hx298_1
       replace p298 := eq_true p298
       replace q298 := eq_true q298
       go_wp2
       go_roundg k1
       case measure => have := HK1.out; omega
       case rel => exact ⟨(wrap64 (x7_1 + 1)), (x298000_1), (x298001_1), (x298002_1), (x298003_1), (by first | rfl | (simp; done) | (simp [*]; done)), H', ⟨by have := HK1.out; omega⟩, ⟨zb BK291⟩, ⟨zb BK297⟩, ⟨zo HB⟩⟩
     ·rw [if_neg c15] at H
      exact absurd H (by simp)
    ·rw [if_neg c14] at H
     have c14b0 : decide (x7_1 < (l0_1.length : Int)) = false := decide_eq_false c14
     clear c14; replace H := Option.bind_eq_some_iff.mp H
     obtain ⟨⟨t306, t307⟩, A290, H⟩ := H
     replace H : (if t307 = true then (some (t306, 0)) else (some (0, 5))) = some (r1, r2) := H
     have A29 := zK A290; clear A290
     by_cases c30 : t307 = true
     ·subst c30
      have H1 : (some (t306, 0)) = some (r1, r2) := by rw [if_pos rfl] at H; exact H
      clear H; have H := H1; clear H1
      simp only [Option.some.injEq, Prod.mk.injEq] at H
      obtain ⟨rfl, rfl⟩ := H
      have hnb31 := NB291_297.out
      have hnc31 := NB297_291.out
      have hcz32_0 : wr.cell? ⟨gb291, 0, none⟩ = some (.int .i64 a0_0) := (blk_cell BK291.out 0).trans rfl
      have hcz32_1 : wr.cell? ⟨gb291, 1, none⟩ = some (.slice A0_1 l0_1.length c0_1) := (blk_cell BK291.out 1).trans rfl
      have hfz32_0 := blk_frozen BK291.out 0
      have hfz32_1 := blk_frozen BK291.out 1
      have hcz33_0 : wr.cell? ⟨gb297, 0, none⟩ = some (.int .i64 x298000_1) := (blk_cell BK297.out 0).trans rfl
      have hcz33_1 : wr.cell? ⟨gb297, 1, none⟩ = some (.int .u64 x298001_1) := (blk_cell BK297.out 1).trans rfl
      have hcz33_2 : wr.cell? ⟨gb297, 2, none⟩ = some (.int .i64 x298002_1) := (blk_cell BK297.out 2).trans rfl
      have hcz33_3 : wr.cell? ⟨gb297, 3, none⟩ = some (.int .u64 x298003_1) := (blk_cell BK297.out 3).trans rfl
      have hfz33_0 := blk_frozen BK297.out 0
      have hfz33_1 := blk_frozen BK297.out 1
      have hfz33_2 := blk_frozen BK297.out 2
      have hfz33_3 := blk_frozen BK297.out 3
      go_wp2_with (first | ((with_reducible refine zC (f := 72) rfl ?_); refine goesL_ (some 52) rfl rfl Try.func72 (by kernel_rfl) rfl #[.agg #[.int .i64 x298000_1, .int .u64 x298001_1, .int .i64 x298002_1, .int .u64 x298003_1]] rfl (by (try simp only [List.map_toArray, List.map_cons, List.map_nil]); first | done | rfl | (simp only [List.length_drop, List.length_take]; rfl)) ?_; (with_reducible refine (sequiturref27_Fits.calls x298000_1 x298001_1 x298002_1 x298003_1 t306 true _ A29.out).mono ?_); rintro e w34 ⟨rfl, hb⟩; refine ⟨_, rfl, ?_⟩; replace BK291 := zK (blk_below (g := gb291) (o := .cells #[.int .i64 a0_0, .slice A0_1 l0_1.length c0_1] 62 (0, 0)) (zb BK291) hb); replace BK297 := zK (blk_below (g := gb297) (o := .cells #[.int .i64 x298000_1, .int .u64 x298001_1, .int .i64 x298002_1, .int .u64 x298003_1] 109 (0, 0)) (zb BK297) hb); replace HB := zK (below_step (zo HB) hb); (try clear hb); (try clear hb2); (try clear hk); (try clear hi)))
      go_ret2
      exact ⟨by first | rfl | (simp [errW_none, errW_some] <;> rfl) | (simp [*, errW_none, errW_some] <;> rfl), zo HB⟩
     ·replace c30 := Bool.eq_false_iff.mpr c30
      subst c30
      have H1 : (some (0, 5)) = some (r1, r2) := by rw [if_neg (show ¬ (false = true) by decide)] at H; exact H
      clear H; have H := H1; clear H1
      simp only [Option.some.injEq, Prod.mk.injEq] at H
      obtain ⟨rfl, rfl⟩ := H
      have hnb35 := NB291_297.out
      have hnc35 := NB297_291.out
      have hcz36_0 : wr.cell? ⟨gb291, 0, none⟩ = some (.int .i64 a0_0) := (blk_cell BK291.out 0).trans rfl
      have hcz36_1 : wr.cell? ⟨gb291, 1, none⟩ = some (.slice A0_1 l0_1.length c0_1) := (blk_cell BK291.out 1).trans rfl
      have hfz36_0 := blk_frozen BK291.out 0
      have hfz36_1 := blk_frozen BK291.out 1
      have hcz37_0 : wr.cell? ⟨gb297, 0, none⟩ = some (.int .i64 x298000_1) := (blk_cell BK297.out 0).trans rfl
      have hcz37_1 : wr.cell? ⟨gb297, 1, none⟩ = some (.int .u64 x298001_1) := (blk_cell BK297.out 1).trans rfl
      have hcz37_2 : wr.cell? ⟨gb297, 2, none⟩ = some (.int .i64 x298002_1) := (blk_cell BK297.out 2).trans rfl
      have hcz37_3 : wr.cell? ⟨gb297, 3, none⟩ = some (.int .u64 x298003_1) := (blk_cell BK297.out 3).trans rfl
      have hfz37_0 := blk_frozen BK297.out 0
      have hfz37_1 := blk_frozen BK297.out 1
      have hfz37_2 := blk_frozen BK297.out 2
      have hfz37_3 := blk_frozen BK297.out 3
      go_wp2_with (first | ((with_reducible refine zC (f := 72) rfl ?_); refine goesL_ (some 52) rfl rfl Try.func72 (by kernel_rfl) rfl #[.agg #[.int .i64 x298000_1, .int .u64 x298001_1, .int .i64 x298002_1, .int .u64 x298003_1]] rfl (by (try simp only [List.map_toArray, List.map_cons, List.map_nil]); first | done | rfl | (simp only [List.length_drop, List.length_take]; rfl)) ?_; (with_reducible refine (sequiturref27_Fits.calls x298000_1 x298001_1 x298002_1 x298003_1 t306 false _ A29.out).mono ?_); rintro e w38 ⟨rfl, hb⟩; refine ⟨_, rfl, ?_⟩; replace BK291 := zK (blk_below (g := gb291) (o := .cells #[.int .i64 a0_0, .slice A0_1 l0_1.length c0_1] 62 (0, 0)) (zb BK291) hb); replace BK297 := zK (blk_below (g := gb297) (o := .cells #[.int .i64 x298000_1, .int .u64 x298001_1, .int .i64 x298002_1, .int .u64 x298003_1] 109 (0, 0)) (zb BK297) hb); replace HB := zK (below_step (zo HB) hb); (try clear hb); (try clear hb2); (try clear hk); (try clear hi)))
      go_ret2
      exact ⟨by first | rfl | (simp [errW_none, errW_some] <;> rfl) | (simp [*, errW_none, errW_some] <;> rfl), zo HB⟩
 ·rw [if_neg c4] at H
  have c4b0 : (t292 == 0) = false := beq_eq_false_iff_ne.mpr c4
  have c4b1 : (t292 != 0) = true := bne_iff_ne.mpr c4
  simp only [Option.some.injEq, Prod.mk.injEq] at H
  obtain ⟨rfl, rfl⟩ := H
  go_enter Try.func37, Try.ntmps37
  go_wp2_with (first | ((with_reducible refine gate_dst (N := 2) rfl ?_); refine box_event ?hg (N := 2) ?hd (cs := #[.int .i64 a0_0, .slice A0_1 l0_1.length c0_1]) (t := 62) ?hr ?_; (case hd => rfl); (case hg => rfl); (case hr => first | (go_simp; done) | (go_simp; rfl)); intro gb291 hg w39 hbox hb; have BK291 := zK (hbox); have GW291 := zK ((by rw [hg]; exact (below_size (zo HB)) : w.heap.size ≤ gb291)); have GE291 := zK ((by rw [hg]; exact (below_size (zo HB)) : w.heap.size ≤ gb291)); replace HB := zK (below_step (zo HB) hb); clear hb hbox hg; have hcz40_0 : w39.cell? ⟨gb291, 0, none⟩ = some (.int .i64 a0_0) := (blk_cell BK291.out 0).trans rfl; have hcz40_1 : w39.cell? ⟨gb291, 1, none⟩ = some (.slice A0_1 l0_1.length c0_1) := (blk_cell BK291.out 1).trans rfl; have hfz40_0 := blk_frozen BK291.out 0; have hfz40_1 := blk_frozen BK291.out 1) | ((with_reducible refine zC (f := 70) rfl ?_); refine goesL_ (some 11) rfl rfl Try.func70 (by kernel_rfl) rfl #[.agg #[.int .i64 a0_0, .slice A0_1 l0_1.length c0_1]] rfl (by (try simp only [List.map_toArray, List.map_cons, List.map_nil]); first | done | rfl | (simp only [List.length_drop, List.length_take]; rfl)) ?_; (with_reducible refine (sequiturref27_Right.calls k a0_0 _ _ l0_1 t292 _ ?side1 ?side2 A3.out).mono ?_); (case side1 => repeat (first | exact (Kd.C_below HR0_1.out HB.out) | (with_reducible refine cA ?_ _) | (with_reducible refine cN ?_ _) | (with_reducible refine cD ?_))); (case side2 => exact HC0_1.out); rintro e w41 ⟨rfl, hb⟩; refine ⟨_, rfl, ?_⟩; replace BK291 := zK (blk_below (g := gb291) (o := .cells #[.int .i64 a0_0, .slice A0_1 l0_1.length c0_1] 62 (0, 0)) (zb BK291) hb); replace HB := zK (below_step (zo HB) hb); (try clear hb); (try clear hb2); (try clear hk); (try clear hi)))
  go_ret2
  exact ⟨by first | rfl | (simp [errW_none, errW_some] <;> rfl) | (simp [*, errW_none, errW_some] <;> rfl), zo HB⟩

/-! ### sequiturref30_Right: function 40 -/
def sequiturref30_Right.l0 : Nat → List (S70) → Int → Int → Option (Bool)
 | 0, _, _, _ => none
 | k + 1, x0, x1, x5 => if x5 < (x0.length : Int) then (if 0 ≤ x5 then (if (rd_T70 x0 x5).f1 = true then (some false) else ((sequiturref27_Right.f k ((rd_T70 x0 x5).f0.f0) ((rd_T70 x0 x5).f0.f1)).bind fun t310 => (if t310 = 0 then (sequiturref30_Right.l0 k x0 x1 (wrap64 (x5 + 1))) else (some false)))) else (none)) else (if x1 ≥ 0 then (some (decide (x1 < 64))) else (some false))
def sequiturref30_Right.f (k : Nat) (l0 : List (S70)) (a1 : Int) : Option (Bool) := sequiturref30_Right.l0 k l0 a1 0
theorem sequiturref30_Right.mono_l : ∀ k, (∀ y0 y1 y2, LeO (sequiturref30_Right.l0 k y0 y1 y2) (sequiturref30_Right.l0 (k + 1) y0 y1 y2))
 | 0 => fun _ _ _ r h => by simp [sequiturref30_Right.l0] at h
 | k + 1 => by
  have ih0 := sequiturref30_Right.mono_l k
  ·intro y0 y1 y2
   unfold sequiturref30_Right.l0
   repeat' first
   | (with_reducible exact ih0 _ _ _)
   | (with_reducible exact sequiturref27_Right.mono _ _ _)
   | (with_reducible exact LeO.refl _)
   | (with_reducible exact LeO.none _)
   | (with_reducible refine LeO.ite ?_ ?_)
   | (with_reducible refine LeO.bind ?_ (fun _ => ?_))
   | exact ih0 _ _ _
   | exact sequiturref27_Right.mono _ _ _
   | exact LeO.none _
   | refine LeO.ite ?_ ?_
   | refine LeO.bind ?_ (fun _ => ?_)
theorem sequiturref30_Right.mono : ∀ a0 a1 k, LeO (sequiturref30_Right.f k a0 a1) (sequiturref30_Right.f (k + 1) a0 a1) := by
 intro a0 a1 k
 have ih0 := sequiturref30_Right.mono_l k
 unfold sequiturref30_Right.f
 repeat' first
   | (with_reducible exact ih0 _ _ _)
   | (with_reducible exact sequiturref27_Right.mono _ _ _)
   | (with_reducible exact LeO.refl _)
   | (with_reducible exact LeO.none _)
   | (with_reducible refine LeO.ite ?_ ?_)
   | (with_reducible refine LeO.bind ?_ (fun _ => ?_))
   | exact ih0 _ _ _
   | exact sequiturref27_Right.mono _ _ _
   | exact LeO.none _
   | refine LeO.ite ?_ ?_
   | refine LeO.bind ?_ (fun _ => ?_)
set_option maxHeartbeats 8000000 in
set_option maxRecDepth 100000 in
theorem sequiturref30_Right.calls (k : Nat) (A0 : Option Addr) (c0 : Nat) (l0 : List (S70)) (a1 : Int) (r : Bool) (w : World) (hr0 : Kd.C k70 w A0 l0.length l0) (hc0 : l0.length ≤ c0) (h : sequiturref30_Right.f k l0 a1 = some r) :
  Calls Try.prog 40 #[.slice A0 l0.length c0, .int .i64 a1] w fun e w' => e = .returned (.bool r) ∧ Below w.heap.size w w' := by
 have hu62 := Try.underlying62
 have HR0 := zK hr0
 have HC0 := zK hc0; clear hr0 hc0
 have HB := zK (Below.refl w.heap.size w)
 have H : (sequiturref30_Right.l0 k l0 a1 0) = some r := h; clear h
 have H' := zK H; clear H
 go_enter Try.func40, Try.ntmps40
 go_wp2
 go_loopg [5] k (fun kq v5 w' => ∃ (x5_1 : Int), v5 = .int .i64 x5_1 ∧ Aside0 (sequiturref30_Right.l0 kq l0 a1 x5_1 = some r) ∧ Aside0 (kq ≤ k) ∧ Aside0 (Below w.heap.size w w'))
 case atStart => exact ⟨(0), (by first | rfl | (simp; done) | (simp [*]; done)), H', ⟨Nat.le_refl _⟩, ⟨zo HB⟩⟩
 case round =>
  clear H'; try clear p2
  obtain ⟨x5_1, rfl, HA, HK1, HB⟩ := hrel
  cases gk with
  | zero => exact absurd HA.out (by simp [sequiturref30_Right.l0])
  | succ k1 =>
   have H := HA.out; clear HA
   simp only [sequiturref30_Right.l0] at H
   by_cases c3 : x5_1 < (l0.length : Int)
   ·rw [if_pos c3] at H
    have c3b0 : decide (x5_1 < (l0.length : Int)) = true := decide_eq_true c3
    clear c3
    by_cases c4 : 0 ≤ x5_1
    ·rw [if_pos c4] at H
     have c4b0 : decide (0 ≤ x5_1) = true := decide_eq_true c4; clear c4
     obtain ⟨bq5, hbq5⟩ : ∃ b_ : Bool, b_ = ((rd_T70 l0 x5_1).f1) := ⟨_, rfl⟩
     replace H : (if bq5 = true then (some false) else ((sequiturref27_Right.f k1 ((rd_T70 l0 x5_1).f0.f0) ((rd_T70 l0 x5_1).f0.f1)).bind fun t310 => (if t310 = 0 then (sequiturref30_Right.l0 k1 l0 a1 (wrap64 (x5_1 + 1))) else (some false)))) = some r := by rw [← hbq5] at H; exact H
     have Nbq5 := zK hbq5; clear hbq5
     by_cases c6 : bq5 = true
     ·subst c6
      have H1 : (some false) = some r := by rw [if_pos rfl] at H; exact H
      clear H; have H := H1; clear H1
      obtain rfl := Option.some.inj H
      have p308 : 0 ≤ (x5_1 : Int) := of_decide_eq_true (by first | (with_reducible assumption) | assumption)
      have q308 : x5_1 < (l0.length : Int) := of_decide_eq_true (by first | (with_reducible assumption) | assumption)
      obtain ⟨ad308, A308_1, c308_1, e308, hx308_0, hx308_1, hx308_2, hl308_1, hi308_1⟩ := at_T70 HR0.out x5_1 p308 q308
      (try rw [← Nbq5.out] at hx308_2)
      cases e308
      replace hx308_0 := (HB.out.cell (World.block_lt_of_cell? w _ hx308_0)).trans hx308_0
      replace hx308_1 := (HB.out.cell (World.block_lt_of_cell? w _ hx308_1)).trans hx308_1
      replace hx308_2 := (HB.out.cell (World.block_lt_of_cell? w _ hx308_2)).trans hx308_2
      have HR308_1 := zK hi308_1
      have HC308_1 := zK hl308_1; clear hi308_1 hl308_1
      replace p308 := eq_true p308
      replace q308 := eq_true q308
      go_wp2
      go_ret
      exact ⟨by first | rfl | (simp [errW_none, errW_some] <;> rfl) | (simp [*, errW_none, errW_some] <;> rfl), zo HB⟩
     ·replace c6 := Bool.eq_false_iff.mpr c6
      subst c6
      have H1 : ((sequiturref27_Right.f k1 ((rd_T70 l0 x5_1).f0.f0) ((rd_T70 l0 x5_1).f0.f1)).bind fun t310 => (if t310 = 0 then (sequiturref30_Right.l0 k1 l0 a1 (wrap64 (x5_1 + 1))) else (some false))) = some r := by rw [if_neg (show ¬ (false = true) by decide)] at H; exact H
      clear H; have H := H1
      clear H1; replace H := Option.bind_eq_some_iff.mp H
      obtain ⟨t310, A70, H⟩ := H
      replace H : (if t310 = 0 then (sequiturref30_Right.l0 k1 l0 a1 (wrap64 (x5_1 + 1))) else (some false)) = some r := H
      have A7 := zK A70; clear A70
      by_cases c8 : t310 = 0
      ·rw [if_pos c8] at H
       have c8b0 : (t310 == 0) = true := beq_iff_eq.mpr c8
       have c8b1 : (t310 != 0) = false := bne_eq_false_iff_eq.mpr c8; clear c8
       have H' := zK H; clear H
       have p308 : 0 ≤ (x5_1 : Int) := of_decide_eq_true (by first | (with_reducible assumption) | assumption)
       have q308 : x5_1 < (l0.length : Int) := of_decide_eq_true (by first | (with_reducible assumption) | assumption)
       obtain ⟨ad308, A308_1, c308_1, e308, hx308_0, hx308_1, hx308_2, hl308_1, hi308_1⟩ := at_T70 HR0.out x5_1 p308 q308
       (try rw [← Nbq5.out] at hx308_2)
       (try rw [← Nbq5.out] at A7)
       cases e308
       replace hx308_0 := (HB.out.cell (World.block_lt_of_cell? w _ hx308_0)).trans hx308_0
       replace hx308_1 := (HB.out.cell (World.block_lt_of_cell? w _ hx308_1)).trans hx308_1
       replace hx308_2 := (HB.out.cell (World.block_lt_of_cell? w _ hx308_2)).trans hx308_2
       have HR308_1 := zK hi308_1
       have HC308_1 := zK hl308_1; clear hi308_1 hl308_1
       replace p308 := eq_true p308
       replace q308 := eq_true q308
       have p309 : 0 ≤ (x5_1 : Int) := of_decide_eq_true (by first | (with_reducible assumption) | assumption)
       have q309 : x5_1 < (l0.length : Int) := of_decide_eq_true (by first | (with_reducible assumption) | assumption)
       obtain ⟨ad309, A309_1, c309_1, e309, hx309_0, hx309_1, hx309_2, hl309_1, hi309_1⟩ := at_T70 HR0.out x5_1 p309 q309
       (try rw [← Nbq5.out] at hx309_2)
       (try rw [← Nbq5.out] at A7)
       obtain rfl : ad308 = ad309 := (by injection e309)
       replace hx309_0 := (HB.out.cell (World.block_lt_of_cell? w _ hx309_0)).trans hx309_0
       replace hx309_1 := (HB.out.cell (World.block_lt_of_cell? w _ hx309_1)).trans hx309_1
       replace hx309_2 := (HB.out.cell (World.block_lt_of_cell? w _ hx309_2)).trans hx309_2
       have HR309_1 := zK hi309_1
       have HC309_1 := zK hl309_1; clear hi309_1 hl309_1
       replace p309 := eq_true p309
       replace q309 := eq_true q309
       have ea_ := Option.some.inj (hx308_1.symm.trans hx309_1)
       injection ea_ with ea_ en_ ec_
       subst ea_
       subst ec_
       clear en_
       go_wp2_with (first | (go_at_call 70; (with_reducible refine (sequiturref27_Right.calls k1 ((rd_T70 l0 x5_1).f0.f0) _ _ ((rd_T70 l0 x5_1).f0.f1) t310 _ ?side1 ?side2 A7.out).mono ?_); (case side1 => repeat (first | exact (Kd.C_below HR309_1.out HB.out) | (with_reducible refine cA ?_ _) | (with_reducible refine cN ?_ _) | (with_reducible refine cD ?_))); (case side2 => exact HC309_1.out); rintro e w9 ⟨rfl, hb⟩; replace HB := zK (below_step (zo HB) hb); (try clear hb); (try clear hb2); (try clear hk); (try clear hi)))
       go_roundg k1
       case measure => have := HK1.out; omega
       case rel => exact ⟨(wrap64 (x5_1 + 1)), (by first | rfl | (simp; done) | (simp [*]; done)), H', ⟨by have := HK1.out; omega⟩, ⟨zo HB⟩⟩
      ·rw [if_neg c8] at H
       have c8b0 : (t310 == 0) = false := beq_eq_false_iff_ne.mpr c8
       have c8b1 : (t310 != 0) = true := bne_iff_ne.mpr c8
       obtain rfl := Option.some.inj H
       have p308 : 0 ≤ (x5_1 : Int) := of_decide_eq_true (by first | (with_reducible assumption) | assumption)
       have q308 : x5_1 < (l0.length : Int) := of_decide_eq_true (by first | (with_reducible assumption) | assumption)
       obtain ⟨ad308, A308_1, c308_1, e308, hx308_0, hx308_1, hx308_2, hl308_1, hi308_1⟩ := at_T70 HR0.out x5_1 p308 q308
       (try rw [← Nbq5.out] at hx308_2)
       (try rw [← Nbq5.out] at A7)
       cases e308
       replace hx308_0 := (HB.out.cell (World.block_lt_of_cell? w _ hx308_0)).trans hx308_0
       replace hx308_1 := (HB.out.cell (World.block_lt_of_cell? w _ hx308_1)).trans hx308_1
       replace hx308_2 := (HB.out.cell (World.block_lt_of_cell? w _ hx308_2)).trans hx308_2
       have HR308_1 := zK hi308_1
       have HC308_1 := zK hl308_1; clear hi308_1 hl308_1
       replace p308 := eq_true p308
       replace q308 := eq_true q308
       have p309 : 0 ≤ (x5_1 : Int) := of_decide_eq_true (by first | (with_reducible assumption) | assumption)
       have q309 : x5_1 < (l0.length : Int) := of_decide_eq_true (by first | (with_reducible assumption) | assumption)
       obtain ⟨ad309, A309_1, c309_1, e309, hx309_0, hx309_1, hx309_2, hl309_1, hi309_1⟩ := at_T70 HR0.out x5_1 p309 q309
       (try rw [← Nbq5.out] at hx309_2)
       (try rw [← Nbq5.out] at A7)
       obtain rfl : ad308 = ad309 := (by injection e309)
       replace hx309_0 := (HB.out.cell (World.block_lt_of_cell? w _ hx309_0)).trans hx309_0
       replace hx309_1 := (HB.out.cell (World.block_lt_of_cell? w _ hx309_1)).trans hx309_1
       replace hx309_2 := (HB.out.cell (World.block_lt_of_cell? w _ hx309_2)).trans hx309_2
       have HR309_1 := zK hi309_1
       have HC309_1 := zK hl309_1; clear hi309_1 hl309_1
       replace p309 := eq_true p309
       replace q309 := eq_true q309
       have ea_ := Option.some.inj (hx308_1.symm.trans hx309_1)
       injection ea_ with ea_ en_ ec_
       subst ea_
       subst ec_
       clear en_
       go_wp2_with (first | (go_at_call 70; (with_reducible refine (sequiturref27_Right.calls k1 ((rd_T70 l0 x5_1).f0.f0) _ _ ((rd_T70 l0 x5_1).f0.f1) t310 _ ?side1 ?side2 A7.out).mono ?_); (case side1 => repeat (first | exact (Kd.C_below HR309_1.out HB.out) | (with_reducible refine cA ?_ _) | (with_reducible refine cN ?_ _) | (with_reducible refine cD ?_))); (case side2 => exact HC309_1.out); rintro e w10 ⟨rfl, hb⟩; replace HB := zK (below_step (zo HB) hb); (try clear hb); (try clear hb2); (try clear hk); (try clear hi)))
       go_ret
       exact ⟨by first | rfl | (simp [errW_none, errW_some] <;> rfl) | (simp [*, errW_none, errW_some] <;> rfl), zo HB⟩
    ·rw [if_neg c4] at H
     exact absurd H (by simp)
   ·rw [if_neg c3] at H
    have c3b0 : decide (x5_1 < (l0.length : Int)) = false := decide_eq_false c3
    clear c3
    by_cases c11 : a1 ≥ 0
    ·rw [if_pos c11] at H
     have c11b0 : decide (0 ≤ a1) = true := decide_eq_true c11; clear c11
     obtain rfl := Option.some.inj H
     go_wp2
     go_ret
     exact ⟨by first | rfl | (simp [errW_none, errW_some] <;> rfl) | (simp [*, errW_none, errW_some] <;> rfl), zo HB⟩
    ·rw [if_neg c11] at H
     have c11b0 : decide (0 ≤ a1) = false := decide_eq_false c11; clear c11
     obtain rfl := Option.some.inj H
     go_wp2
     go_ret
     exact ⟨by first | rfl | (simp [errW_none, errW_some] <;> rfl) | (simp [*, errW_none, errW_some] <;> rfl), zo HB⟩

/-! ### sequiturref27_By: function 42 -/
def sequiturref27_By.l0 : Nat → Int → Int → Int → List (S68) → Option (Int)
 | 0, _, _, _, _ => none
 | k + 1, x1, x5, x312000, x312001 => if x5 < (x312001.length : Int) then (if 0 ≤ x5 then (if ((rd_T68 x312001 x5).f0) = x1 then (some ((rd_T68 x312001 x5).f1)) else (sequiturref27_By.l0 k x1 (wrap64 (x5 + 1)) x312000 x312001)) else (none)) else (some 0)
def sequiturref27_By.f (k : Nat) (a0_0 : Int) (l0_1 : List (S68)) (a1 : Int) : Option (Int) := sequiturref27_By.l0 k a1 0 a0_0 l0_1
theorem sequiturref27_By.mono_l : ∀ k, (∀ y0 y1 y2 y3, LeO (sequiturref27_By.l0 k y0 y1 y2 y3) (sequiturref27_By.l0 (k + 1) y0 y1 y2 y3))
 | 0 => fun _ _ _ _ r h => by simp [sequiturref27_By.l0] at h
 | k + 1 => by
  have ih0 := sequiturref27_By.mono_l k
  ·intro y0 y1 y2 y3
   unfold sequiturref27_By.l0
   repeat' first
   | (with_reducible exact ih0 _ _ _ _)
   | (with_reducible exact LeO.refl _)
   | (with_reducible exact LeO.none _)
   | (with_reducible refine LeO.ite ?_ ?_)
   | (with_reducible refine LeO.bind ?_ (fun _ => ?_))
   | exact ih0 _ _ _ _
   | exact LeO.none _
   | refine LeO.ite ?_ ?_
   | refine LeO.bind ?_ (fun _ => ?_)
theorem sequiturref27_By.mono : ∀ a0 a1 a2 k, LeO (sequiturref27_By.f k a0 a1 a2) (sequiturref27_By.f (k + 1) a0 a1 a2) := by
 intro a0 a1 a2 k
 have ih0 := sequiturref27_By.mono_l k
 unfold sequiturref27_By.f
 repeat' first
   | (with_reducible exact ih0 _ _ _ _)
   | (with_reducible exact LeO.refl _)
   | (with_reducible exact LeO.none _)
   | (with_reducible refine LeO.ite ?_ ?_)
   | (with_reducible refine LeO.bind ?_ (fun _ => ?_))
   | exact ih0 _ _ _ _
   | exact LeO.none _
   | refine LeO.ite ?_ ?_
   | refine LeO.bind ?_ (fun _ => ?_)
set_option maxHeartbeats 8000000 in
set_option maxRecDepth 100000 in
theorem sequiturref27_By.calls (k : Nat) (a0_0 : Int) (A0_1 : Option Addr) (c0_1 : Nat) (l0_1 : List (S68)) (a1 : Int) (r : Int) (w : World) (hr0_1 : Kd.C k68 w A0_1 l0_1.length l0_1) (hc0_1 : l0_1.length ≤ c0_1) (h : sequiturref27_By.f k a0_0 l0_1 a1 = some r) :
  Calls Try.prog 42 #[.agg #[.int .i64 a0_0, .slice A0_1 l0_1.length c0_1], .int .i64 a1] w fun e w' => e = .returned (.int .i64 r) ∧ Below w.heap.size w w' := by
 have hu62 := Try.underlying62
 have HR0_1 := zK hr0_1
 have HC0_1 := zK hc0_1; clear hr0_1 hc0_1
 have HB := zK (Below.refl w.heap.size w)
 have H : (sequiturref27_By.l0 k a1 0 a0_0 l0_1) = some r := h; clear h
 have H' := zK H; clear H
 go_enter Try.func42, Try.ntmps42
 go_wp2_with (first | ((with_reducible refine gate_dst (N := 2) rfl ?_); refine box_event ?hg (N := 2) ?hd (cs := #[.int .i64 a0_0, .slice A0_1 l0_1.length c0_1]) (t := 62) ?hr ?_; (case hd => rfl); (case hg => rfl); (case hr => first | (go_simp; done) | (go_simp; rfl)); intro gb311 hg w3 hbox hb; have BK311 := zK (hbox); have GW311 := zK ((by rw [hg]; exact (below_size (zo HB)) : w.heap.size ≤ gb311)); have GE311 := zK ((by rw [hg]; exact (below_size (zo HB)) : w.heap.size ≤ gb311)); replace HB := zK (below_step (zo HB) hb); clear hb hbox hg))
 go_loopg [5] k (fun kq v5 w' => ∃ (x5_1 : Int), v5 = .int .i64 x5_1 ∧ Aside0 (sequiturref27_By.l0 kq a1 x5_1 a0_0 l0_1 = some r) ∧ Aside0 (kq ≤ k) ∧ Aside0 (w'.heap[gb311]? = some (.cells #[.int .i64 a0_0, (.slice A0_1 l0_1.length c0_1)] 62 (0, 0))) ∧ Aside0 (Below w.heap.size w w'))
 case atStart => exact ⟨(0), (by first | rfl | (simp; done) | (simp [*]; done)), H', ⟨Nat.le_refl _⟩, ⟨zb BK311⟩, ⟨zo HB⟩⟩
 case round =>
  clear H'; try clear p2
  obtain ⟨x5_1, rfl, HA, HK1, BK311, HB⟩ := hrel
  cases gk with
  | zero => exact absurd HA.out (by simp [sequiturref27_By.l0])
  | succ k1 =>
   have H := HA.out; clear HA
   simp only [sequiturref27_By.l0] at H
   by_cases c4 : x5_1 < (l0_1.length : Int)
   ·rw [if_pos c4] at H
    have c4b0 : decide (x5_1 < (l0_1.length : Int)) = true := decide_eq_true c4
    clear c4
    by_cases c5 : 0 ≤ x5_1
    ·rw [if_pos c5] at H
     have c5b0 : decide (0 ≤ x5_1) = true := decide_eq_true c5; clear c5
     by_cases c6 : ((rd_T68 l0_1 x5_1).f0) = a1
     ·rw [if_pos c6] at H
      have c6b0 : (((rd_T68 l0_1 x5_1).f0) == a1) = true := beq_iff_eq.mpr c6
      have c6b1 : (((rd_T68 l0_1 x5_1).f0) != a1) = false := bne_eq_false_iff_eq.mpr c6
      clear c6
      obtain rfl := Option.some.inj H
      have hcz7_0 : wr.cell? ⟨gb311, 0, none⟩ = some (.int .i64 a0_0) := (blk_cell BK311.out 0).trans rfl
      have hcz7_1 : wr.cell? ⟨gb311, 1, none⟩ = some (.slice A0_1 l0_1.length c0_1) := (blk_cell BK311.out 1).trans rfl
      have hfz7_0 := blk_frozen BK311.out 0
      have hfz7_1 := blk_frozen BK311.out 1
      have p312 : 0 ≤ (x5_1 : Int) := of_decide_eq_true (by first | (with_reducible assumption) | assumption)
      have q312 : x5_1 < (l0_1.length : Int) := of_decide_eq_true (by first | (with_reducible assumption) | assumption)
      obtain ⟨ad312, e312, hx312_0, hx312_1⟩ := at_T68 HR0_1.out x5_1 p312 q312
      cases e312
      replace hx312_0 := (HB.out.cell (World.block_lt_of_cell? w _ hx312_0)).trans hx312_0
      replace hx312_1 := (HB.out.cell (World.block_lt_of_cell? w _ hx312_1)).trans hx312_1
      replace p312 := eq_true p312
      replace q312 := eq_true q312
      have p313 : 0 ≤ (x5_1 : Int) := of_decide_eq_true (by first | (with_reducible assumption) | assumption)
      have q313 : x5_1 < (l0_1.length : Int) := of_decide_eq_true (by first | (with_reducible assumption) | assumption)
      obtain ⟨ad313, e313, hx313_0, hx313_1⟩ := at_T68 HR0_1.out x5_1 p313 q313
      obtain rfl : ad312 = ad313 := (by injection e313)
      replace hx313_0 := (HB.out.cell (World.block_lt_of_cell? w _ hx313_0)).trans hx313_0
      replace hx313_1 := (HB.out.cell (World.block_lt_of_cell? w _ hx313_1)).trans hx313_1
      replace p313 := eq_true p313
      replace q313 := eq_true q313
      go_wp2
      go_ret
      exact ⟨by first | rfl | (simp [errW_none, errW_some] <;> rfl) | (simp [*, errW_none, errW_some] <;> rfl), zo HB⟩
     ·rw [if_neg c6] at H
      have c6b0 : (((rd_T68 l0_1 x5_1).f0) == a1) = false := beq_eq_false_iff_ne.mpr c6
      have c6b1 : (((rd_T68 l0_1 x5_1).f0) != a1) = true := bne_iff_ne.mpr c6
      have H' := zK H; clear H
      have hcz8_0 : wr.cell? ⟨gb311, 0, none⟩ = some (.int .i64 a0_0) := (blk_cell BK311.out 0).trans rfl
      have hcz8_1 : wr.cell? ⟨gb311, 1, none⟩ = some (.slice A0_1 l0_1.length c0_1) := (blk_cell BK311.out 1).trans rfl
      have hfz8_0 := blk_frozen BK311.out 0
      have hfz8_1 := blk_frozen BK311.out 1
      have p312 : 0 ≤ (x5_1 : Int) := of_decide_eq_true (by first | (with_reducible assumption) | assumption)
      have q312 : x5_1 < (l0_1.length : Int) := of_decide_eq_true (by first | (with_reducible assumption) | assumption)
      obtain ⟨ad312, e312, hx312_0, hx312_1⟩ := at_T68 HR0_1.out x5_1 p312 q312
      cases e312
      replace hx312_0 := (HB.out.cell (World.block_lt_of_cell? w _ hx312_0)).trans hx312_0
      replace hx312_1 := (HB.out.cell (World.block_lt_of_cell? w _ hx312_1)).trans hx312_1
      replace p312 := eq_true p312
      replace q312 := eq_true q312
      go_wp2
      go_roundg k1
      case measure => have := HK1.out; omega
      case rel => exact ⟨(wrap64 (x5_1 + 1)), (by first | rfl | (simp; done) | (simp [*]; done)), H', ⟨by have := HK1.out; omega⟩, ⟨zb BK311⟩, ⟨zo HB⟩⟩
    ·rw [if_neg c5] at H
     exact absurd H (by simp)
   ·rw [if_neg c4] at H
    have c4b0 : decide (x5_1 < (l0_1.length : Int)) = false := decide_eq_false c4
    clear c4
    obtain rfl := Option.some.inj H
    have hcz9_0 : wr.cell? ⟨gb311, 0, none⟩ = some (.int .i64 a0_0) := (blk_cell BK311.out 0).trans rfl
    have hcz9_1 : wr.cell? ⟨gb311, 1, none⟩ = some (.slice A0_1 l0_1.length c0_1) := (blk_cell BK311.out 1).trans rfl
    have hfz9_0 := blk_frozen BK311.out 0
    have hfz9_1 := blk_frozen BK311.out 1
    go_wp2
    go_ret
    exact ⟨by first | rfl | (simp [errW_none, errW_some] <;> rfl) | (simp [*, errW_none, errW_some] <;> rfl), zo HB⟩

end Go.Proofs.Ytkfbfgkdabljiaa.PShadowBetween
