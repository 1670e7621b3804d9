/- What the call of each function that the law reaches comes to: it answers as the plain function of the same name does, wherever that one answers; and the law itself out of its plain form. Written by a program of this session (an extended copy of the printer); no condition but what stands in each theorem. -/
import Derived.Test.YtkfbfgkdabljiaaPShadowBetweenx0
import Derived.Test.YtkfbfgkdabljiaaPShadowBetweenx7
namespace Go.Proofs.Ytkfbfgkdabljiaa.PShadowBetween
open Go.RowKit Go.Proofs.YtkfbfgkdabljiaaW.PrintWords Go.Proofs.YtkfbfgkdabljiaaW.PrintLast Go.Proofs.YtkfbfgkdabljiaaW.PrintMore
open Go.Proofs.YtkfbfgkdabljiaaW.PrintWords renaming blk_drewN → zN, blk_drew → zD, blk_alloc → zA, below_alloc → yA, pw_below_drewN → yN, below_drew1 → yD, below_set → yS, gate_callee → zC
open Go.Proofs.YtkfbfgkdabljiaaW.PrintWords.Aside0 renaming mk → zK
open Bool renaming true → T_, false → F_
open List renaming setIfInBounds_toArray → zt, set_cons_zero → zz, set_cons_succ → zs
attribute [local go_sem] max2_int min2_int max_two min_two max_three min_three max_four min_four   -- for this text's walks alone
set_option linter.unusedVariables false
set_option linter.unusedSimpArgs false

/-! ### sequiturref01_Fits: function 96 -/
def sequiturref01_Fits.f (a0_0 : Int) (a0_1 : Int) : Option (Int × Bool) := if a0_0 = 0 then (if (wrap64 (a0_1)) ≥ 0 then (some (wrap64 (a0_1), true)) else (if a0_0 = (-1) then (if (wrap64 (a0_1)) < 0 then (some (wrap64 (a0_1), true)) else (some (0, false))) else (some (0, false)))) else (if a0_0 = (-1) then (if (wrap64 (a0_1)) < 0 then (some (wrap64 (a0_1), true)) else (some (0, false))) else (some (0, false)))
set_option maxHeartbeats 8000000 in
set_option maxRecDepth 100000 in
theorem sequiturref01_Fits.calls (a0_0 : Int) (a0_1 : Int) (r1 : Int) (r2 : Bool) (w : World) (h : sequiturref01_Fits.f a0_0 a0_1 = some (r1, r2)) :
  Calls Try.prog 96 #[.agg #[.int .i64 a0_0, .int .u64 a0_1]] w fun e w' => e = .returned (.tuple #[.int .i64 r1, .bool r2]) ∧ Below w.heap.size w w' := by
 have hu107 := Try.underlying107
 have HB := zK (Below.refl w.heap.size w)
 have H : (if a0_0 = 0 then (if (wrap64 (a0_1)) ≥ 0 then (some (wrap64 (a0_1), true)) else (if a0_0 = (-1) then (if (wrap64 (a0_1)) < 0 then (some (wrap64 (a0_1), true)) else (some (0, false))) else (some (0, false)))) else (if a0_0 = (-1) then (if (wrap64 (a0_1)) < 0 then (some (wrap64 (a0_1), true)) else (some (0, false))) else (some (0, false)))) = some (r1, r2) := h
 clear h
 by_cases c2 : a0_0 = 0
 ·rw [if_pos c2] at H
  have c2b0 : (a0_0 == 0) = true := beq_iff_eq.mpr c2
  have c2b1 : (a0_0 != 0) = false := bne_eq_false_iff_eq.mpr c2; clear c2
  by_cases c3 : (wrap64 (a0_1)) ≥ 0
  ·rw [if_pos c3] at H
   have c3b0 : decide (0 ≤ (wrap64 (a0_1))) = true := decide_eq_true c3
   clear c3
   simp only [Option.some.injEq, Prod.mk.injEq] at H
   obtain ⟨rfl, rfl⟩ := H
   go_enter Try.func96, Try.ntmps96
   go_wp2_with (first | ((with_reducible refine gate_dst (N := 1) rfl ?_); refine box_event ?hg (N := 1) ?hd (cs := #[.int .i64 a0_0, .int .u64 a0_1]) (t := 107) ?hr ?_; (case hd => rfl); (case hg => rfl); (case hr => first | (go_simp; done) | (go_simp; rfl)); intro gb280 hg w4 hbox hb; have BK280 := zK (hbox); have GW280 := zK ((by rw [hg]; exact (below_size (zo HB)) : w.heap.size ≤ gb280)); have GE280 := zK ((by rw [hg]; exact (below_size (zo HB)) : w.heap.size ≤ gb280)); replace HB := zK (below_step (zo HB) hb); clear hb hbox hg; have hcz5_0 : w4.cell? ⟨gb280, 0, none⟩ = some (.int .i64 a0_0) := (blk_cell BK280.out 0).trans rfl; have hcz5_1 : w4.cell? ⟨gb280, 1, none⟩ = some (.int .u64 a0_1) := (blk_cell BK280.out 1).trans rfl; have hfz5_0 := blk_frozen BK280.out 0; have hfz5_1 := blk_frozen BK280.out 1))
   go_ret2
   exact ⟨by first | rfl | (simp [errW_none, errW_some] <;> rfl) | (simp [*, errW_none, errW_some] <;> rfl), zo HB⟩
  ·rw [if_neg c3] at H
   have c3b0 : decide (0 ≤ (wrap64 (a0_1))) = false := decide_eq_false c3
   clear c3
   by_cases c6 : a0_0 = (-1)
   ·rw [if_pos c6] at H
    have c6b0 : (a0_0 == (-1)) = true := beq_iff_eq.mpr c6
    have c6b1 : (a0_0 != (-1)) = false := bne_eq_false_iff_eq.mpr c6; clear c6
    by_cases c7 : (wrap64 (a0_1)) < 0
    ·rw [if_pos c7] at H
     have c7b0 : decide ((wrap64 (a0_1)) < 0) = true := decide_eq_true c7
     clear c7
     simp only [Option.some.injEq, Prod.mk.injEq] at H
     obtain ⟨rfl, rfl⟩ := H
     go_enter Try.func96, Try.ntmps96
     go_wp2_with (first | ((with_reducible refine gate_dst (N := 1) rfl ?_); refine box_event ?hg (N := 1) ?hd (cs := #[.int .i64 a0_0, .int .u64 a0_1]) (t := 107) ?hr ?_; (case hd => rfl); (case hg => rfl); (case hr => first | (go_simp; done) | (go_simp; rfl)); intro gb280 hg w8 hbox hb; have BK280 := zK (hbox); have GW280 := zK ((by rw [hg]; exact (below_size (zo HB)) : w.heap.size ≤ gb280)); have GE280 := zK ((by rw [hg]; exact (below_size (zo HB)) : w.heap.size ≤ gb280)); replace HB := zK (below_step (zo HB) hb); clear hb hbox hg; have hcz9_0 : w8.cell? ⟨gb280, 0, none⟩ = some (.int .i64 a0_0) := (blk_cell BK280.out 0).trans rfl; have hcz9_1 : w8.cell? ⟨gb280, 1, none⟩ = some (.int .u64 a0_1) := (blk_cell BK280.out 1).trans rfl; have hfz9_0 := blk_frozen BK280.out 0; have hfz9_1 := blk_frozen BK280.out 1))
     go_ret2
     exact ⟨by first | rfl | (simp [errW_none, errW_some] <;> rfl) | (simp [*, errW_none, errW_some] <;> rfl), zo HB⟩
    ·rw [if_neg c7] at H
     have c7b0 : decide ((wrap64 (a0_1)) < 0) = false := decide_eq_false c7
     clear c7
     simp only [Option.some.injEq, Prod.mk.injEq] at H
     obtain ⟨rfl, rfl⟩ := H
     go_enter Try.func96, Try.ntmps96
     go_wp2_with (first | ((with_reducible refine gate_dst (N := 1) rfl ?_); refine box_event ?hg (N := 1) ?hd (cs := #[.int .i64 a0_0, .int .u64 a0_1]) (t := 107) ?hr ?_; (case hd => rfl); (case hg => rfl); (case hr => first | (go_simp; done) | (go_simp; rfl)); intro gb280 hg w10 hbox hb; have BK280 := zK (hbox); have GW280 := zK ((by rw [hg]; exact (below_size (zo HB)) : w.heap.size ≤ gb280)); have GE280 := zK ((by rw [hg]; exact (below_size (zo HB)) : w.heap.size ≤ gb280)); replace HB := zK (below_step (zo HB) hb); clear hb hbox hg; have hcz11_0 : w10.cell? ⟨gb280, 0, none⟩ = some (.int .i64 a0_0) := (blk_cell BK280.out 0).trans rfl; have hcz11_1 : w10.cell? ⟨gb280, 1, none⟩ = some (.int .u64 a0_1) := (blk_cell BK280.out 1).trans rfl; have hfz11_0 := blk_frozen BK280.out 0; have hfz11_1 := blk_frozen BK280.out 1))
     go_ret2
     exact ⟨by first | rfl | (simp [errW_none, errW_some] <;> rfl) | (simp [*, errW_none, errW_some] <;> rfl), zo HB⟩
   ·rw [if_neg c6] at H
    have c6b0 : (a0_0 == (-1)) = false := beq_eq_false_iff_ne.mpr c6
    have c6b1 : (a0_0 != (-1)) = true := bne_iff_ne.mpr c6
    simp only [Option.some.injEq, Prod.mk.injEq] at H
    obtain ⟨rfl, rfl⟩ := H
    go_enter Try.func96, Try.ntmps96
    go_wp2_with (first | ((with_reducible refine gate_dst (N := 1) rfl ?_); refine box_event ?hg (N := 1) ?hd (cs := #[.int .i64 a0_0, .int .u64 a0_1]) (t := 107) ?hr ?_; (case hd => rfl); (case hg => rfl); (case hr => first | (go_simp; done) | (go_simp; rfl)); intro gb280 hg w12 hbox hb; have BK280 := zK (hbox); have GW280 := zK ((by rw [hg]; exact (below_size (zo HB)) : w.heap.size ≤ gb280)); have GE280 := zK ((by rw [hg]; exact (below_size (zo HB)) : w.heap.size ≤ gb280)); replace HB := zK (below_step (zo HB) hb); clear hb hbox hg; have hcz13_0 : w12.cell? ⟨gb280, 0, none⟩ = some (.int .i64 a0_0) := (blk_cell BK280.out 0).trans rfl; have hcz13_1 : w12.cell? ⟨gb280, 1, none⟩ = some (.int .u64 a0_1) := (blk_cell BK280.out 1).trans rfl; have hfz13_0 := blk_frozen BK280.out 0; have hfz13_1 := blk_frozen BK280.out 1))
    go_ret2
    exact ⟨by first | rfl | (simp [errW_none, errW_some] <;> rfl) | (simp [*, errW_none, errW_some] <;> rfl), zo HB⟩
 ·rw [if_neg c2] at H
  have c2b0 : (a0_0 == 0) = false := beq_eq_false_iff_ne.mpr c2
  have c2b1 : (a0_0 != 0) = true := bne_iff_ne.mpr c2
  by_cases c14 : a0_0 = (-1)
  ·rw [if_pos c14] at H
   have c14b0 : (a0_0 == (-1)) = true := beq_iff_eq.mpr c14
   have c14b1 : (a0_0 != (-1)) = false := bne_eq_false_iff_eq.mpr c14
   clear c14
   by_cases c15 : (wrap64 (a0_1)) < 0
   ·rw [if_pos c15] at H
    have c15b0 : decide ((wrap64 (a0_1)) < 0) = true := decide_eq_true c15
    clear c15
    simp only [Option.some.injEq, Prod.mk.injEq] at H
    obtain ⟨rfl, rfl⟩ := H
    go_enter Try.func96, Try.ntmps96
    go_wp2_with (first | ((with_reducible refine gate_dst (N := 1) rfl ?_); refine box_event ?hg (N := 1) ?hd (cs := #[.int .i64 a0_0, .int .u64 a0_1]) (t := 107) ?hr ?_; (case hd => rfl); (case hg => rfl); (case hr => first | (go_simp; done) | (go_simp; rfl)); intro gb280 hg w16 hbox hb; have BK280 := zK (hbox); have GW280 := zK ((by rw [hg]; exact (below_size (zo HB)) : w.heap.size ≤ gb280)); have GE280 := zK ((by rw [hg]; exact (below_size (zo HB)) : w.heap.size ≤ gb280)); replace HB := zK (below_step (zo HB) hb); clear hb hbox hg; have hcz17_0 : w16.cell? ⟨gb280, 0, none⟩ = some (.int .i64 a0_0) := (blk_cell BK280.out 0).trans rfl; have hcz17_1 : w16.cell? ⟨gb280, 1, none⟩ = some (.int .u64 a0_1) := (blk_cell BK280.out 1).trans rfl; have hfz17_0 := blk_frozen BK280.out 0; have hfz17_1 := blk_frozen BK280.out 1))
    go_ret2
    exact ⟨by first | rfl | (simp [errW_none, errW_some] <;> rfl) | (simp [*, errW_none, errW_some] <;> rfl), zo HB⟩
   ·rw [if_neg c15] at H
    have c15b0 : decide ((wrap64 (a0_1)) < 0) = false := decide_eq_false c15
    clear c15
    simp only [Option.some.injEq, Prod.mk.injEq] at H
    obtain ⟨rfl, rfl⟩ := H
    go_enter Try.func96, Try.ntmps96
    go_wp2_with (first | ((with_reducible refine gate_dst (N := 1) rfl ?_); refine box_event ?hg (N := 1) ?hd (cs := #[.int .i64 a0_0, .int .u64 a0_1]) (t := 107) ?hr ?_; (case hd => rfl); (case hg => rfl); (case hr => first | (go_simp; done) | (go_simp; rfl)); intro gb280 hg w18 hbox hb; have BK280 := zK (hbox); have GW280 := zK ((by rw [hg]; exact (below_size (zo HB)) : w.heap.size ≤ gb280)); have GE280 := zK ((by rw [hg]; exact (below_size (zo HB)) : w.heap.size ≤ gb280)); replace HB := zK (below_step (zo HB) hb); clear hb hbox hg; have hcz19_0 : w18.cell? ⟨gb280, 0, none⟩ = some (.int .i64 a0_0) := (blk_cell BK280.out 0).trans rfl; have hcz19_1 : w18.cell? ⟨gb280, 1, none⟩ = some (.int .u64 a0_1) := (blk_cell BK280.out 1).trans rfl; have hfz19_0 := blk_frozen BK280.out 0; have hfz19_1 := blk_frozen BK280.out 1))
    go_ret2
    exact ⟨by first | rfl | (simp [errW_none, errW_some] <;> rfl) | (simp [*, errW_none, errW_some] <;> rfl), zo HB⟩
  ·rw [if_neg c14] at H
   have c14b0 : (a0_0 == (-1)) = false := beq_eq_false_iff_ne.mpr c14
   have c14b1 : (a0_0 != (-1)) = true := bne_iff_ne.mpr c14
   simp only [Option.some.injEq, Prod.mk.injEq] at H
   obtain ⟨rfl, rfl⟩ := H
   go_enter Try.func96, Try.ntmps96
   go_wp2_with (first | ((with_reducible refine gate_dst (N := 1) rfl ?_); refine box_event ?hg (N := 1) ?hd (cs := #[.int .i64 a0_0, .int .u64 a0_1]) (t := 107) ?hr ?_; (case hd => rfl); (case hg => rfl); (case hr => first | (go_simp; done) | (go_simp; rfl)); intro gb280 hg w20 hbox hb; have BK280 := zK (hbox); have GW280 := zK ((by rw [hg]; exact (below_size (zo HB)) : w.heap.size ≤ gb280)); have GE280 := zK ((by rw [hg]; exact (below_size (zo HB)) : w.heap.size ≤ gb280)); replace HB := zK (below_step (zo HB) hb); clear hb hbox hg; have hcz21_0 : w20.cell? ⟨gb280, 0, none⟩ = some (.int .i64 a0_0) := (blk_cell BK280.out 0).trans rfl; have hcz21_1 : w20.cell? ⟨gb280, 1, none⟩ = some (.int .u64 a0_1) := (blk_cell BK280.out 1).trans rfl; have hfz21_0 := blk_frozen BK280.out 0; have hfz21_1 := blk_frozen BK280.out 1))
   go_ret2
   exact ⟨by first | rfl | (simp [errW_none, errW_some] <;> rfl) | (simp [*, errW_none, errW_some] <;> rfl), zo HB⟩

/-! ### sequiturref27_Fits: function 72 -/
def sequiturref27_Fits.f (a0_0 : Int) (a0_1 : Int) (a0_2 : Int) (a0_3 : Int) : Option (Int × Bool) := (sequiturref01_Of.f a0_2).bind fun bt282 => ((sequiturref01_Plus.f a0_0 a0_1 bt282.1 bt282.2).bind fun bt284 => ((sequiturref01_Fits.f bt284.1 bt284.2).bind fun bt287 => (if bt287.2 = true then ((sequiturref01_Fits.f bt287.1 a0_3).bind fun bt289 => (some (bt289.1, bt289.2))) else (some (0, false)))))
def sequiturref27_Fits.T1 : Bool × List (List Nat × List Nat) := (true, [([], []), ([0], [0]), ([], []), ([2], [2]), ([3], [3]), ([4], [4]), ([1, 5, 5], [1, 5]), ([], []), ([7, 6, 6, 0, 1, 2, 3, 4, 5, 6, 7], [6, 7])])
def sequiturref27_Fits.B1 : List Nat := [0, 1, 0, 4, 12, 28, 63, 0, 255]
theorem sequiturref27_Fits.tab1 : rtab .any (opsOf Try.f72 1) = sequiturref27_Fits.T1 := by kernel_rfl
theorem sequiturref27_Fits.bits1 : waitsOk sequiturref27_Fits.T1.2 sequiturref27_Fits.B1 = true := by kernel_rfl
set_option maxHeartbeats 8000000 in
set_option maxRecDepth 100000 in
theorem sequiturref27_Fits.calls (a0_0 : Int) (a0_1 : Int) (a0_2 : Int) (a0_3 : Int) (r1 : Int) (r2 : Bool) (w : World) (h : sequiturref27_Fits.f a0_0 a0_1 a0_2 a0_3 = some (r1, r2)) :
  Calls Try.prog 72 #[.agg #[.int .i64 a0_0, .int .u64 a0_1, .int .i64 a0_2, .int .u64 a0_3]] w fun e w' => e = .returned (.tuple #[.int .i64 r1, .bool r2]) ∧ Below w.heap.size w w' := by
 have hu109 := Try.underlying109
 have hu107 := Try.underlying107
 have HB := zK (Below.refl w.heap.size w)
 have H : ((sequiturref01_Of.f a0_2).bind fun bt282 => ((sequiturref01_Plus.f a0_0 a0_1 bt282.1 bt282.2).bind fun bt284 => ((sequiturref01_Fits.f bt284.1 bt284.2).bind fun bt287 => (if bt287.2 = true then ((sequiturref01_Fits.f bt287.1 a0_3).bind fun bt289 => (some (bt289.1, bt289.2))) else (some (0, false)))))) = some (r1, r2) := h
 clear h; replace H := Option.bind_eq_some_iff.mp H
 obtain ⟨⟨t282, t283⟩, A20, H⟩ := H
 replace H : ((sequiturref01_Plus.f a0_0 a0_1 t282 t283).bind fun bt284 => ((sequiturref01_Fits.f bt284.1 bt284.2).bind fun bt287 => (if bt287.2 = true then ((sequiturref01_Fits.f bt287.1 a0_3).bind fun bt289 => (some (bt289.1, bt289.2))) else (some (0, false))))) = some (r1, r2) := H
 have A2 := zK A20; clear A20; replace H := Option.bind_eq_some_iff.mp H
 obtain ⟨⟨t284, t285⟩, A30, H⟩ := H
 replace H : ((sequiturref01_Fits.f t284 t285).bind fun bt287 => (if bt287.2 = true then ((sequiturref01_Fits.f bt287.1 a0_3).bind fun bt289 => (some (bt289.1, bt289.2))) else (some (0, false)))) = some (r1, r2) := H
 have A3 := zK A30; clear A30; replace H := Option.bind_eq_some_iff.mp H
 obtain ⟨⟨t287, t288⟩, A40, H⟩ := H
 replace H : (if t288 = true then ((sequiturref01_Fits.f t287 a0_3).bind fun bt289 => (some (bt289.1, bt289.2))) else (some (0, false))) = some (r1, r2) := H
 have A4 := zK A40; clear A40
 by_cases c5 : t288 = true
 ·subst c5
  have H1 : ((sequiturref01_Fits.f t287 a0_3).bind fun bt289 => (some (bt289.1, bt289.2))) = some (r1, r2) := by rw [if_pos rfl] at H; exact H
  clear H; have H := H1
  clear H1; replace H := Option.bind_eq_some_iff.mp H
  obtain ⟨⟨t289, t290⟩, A60, H⟩ := H
  replace H : (some (t289, t290)) = some (r1, r2) := H
  have A6 := zK A60; clear A60
  simp only [Option.some.injEq, Prod.mk.injEq] at H
  obtain ⟨rfl, rfl⟩ := H
  go_enter Try.func72, Try.ntmps72
  try go_wp2_with (first | ((with_reducible refine gate_dst (N := 1) rfl ?_); refine box_event ?hg (N := 1) ?hd (cs := #[.int .i64 a0_0, .int .u64 a0_1, .int .i64 a0_2, .int .u64 a0_3]) (t := 109) ?hr ?_; (case hd => rfl); (case hg => rfl); (case hr => first | (go_simp; done) | (go_simp; rfl)); intro gb281 hg w7 hbox hb; have BK281 := zK (hbox); have GW281 := zK ((by rw [hg]; exact (below_size (zo HB)) : w.heap.size ≤ gb281)); have GE281 := zK ((by rw [hg]; exact (below_size (zo HB)) : w.heap.size ≤ gb281)); replace HB := zK (below_step (zo HB) hb); clear hb hbox hg))
  replace BK281 := zK (zD BK281.out)
  replace HB := zK (yD HB.out)
  refine start_ (n := 9) (S := fun w' => w'.cell? ⟨gb281, 0, none⟩ = some (.int .i64 a0_0) ∧ w'.cell? ⟨gb281, 1, none⟩ = some (.int .u64 a0_1) ∧ w'.cell? ⟨gb281, 2, none⟩ = some (.int .i64 a0_2) ∧ w'.cell? ⟨gb281, 3, none⟩ = some (.int .u64 a0_3)) (ds := []) #[F_,F_,F_,F_,F_,F_,F_,F_,F_] (by kernel_rfl) rfl rfl ⟨(blk_cell BK281.out 0).trans rfl, (blk_cell BK281.out 1).trans rfl, (blk_cell BK281.out 2).trans rfl, (blk_cell BK281.out 3).trans rfl⟩ (fun hHeld => ?_); refine with_tabW sequiturref27_Fits.tab1 sequiturref27_Fits.bits1 (fun HT_ HW_ => ?_)
  generalize w7.drew = w8 at BK281 HB hHeld ⊢
  refine pure_ (i := 0) (N := some 7) (v := ?_) (a' := ?_) #[T_,F_,F_,F_,F_,F_,F_,F_,F_] rfl rfl (any_of HT_.out (by kernel_rfl)) (fun _ _ _ h => h) (Or.inl ⟨by rfl, ?_⟩) ?_ ?_; rotate_left; (intro w'; go_simp; with_reducible rfl); rotate_left; (simp only [Act.put, zt, zz, zs, i64_w, i32_w]; rfl)
  refine pure_ (i := 2) (N := some 9) (v := ?_) (a' := ?_) #[T_,F_,T_,F_,F_,F_,F_,F_,F_] rfl rfl (any_of HT_.out (by kernel_rfl)) (fun _ _ _ h => h) (Or.inl ⟨by rfl, ?_⟩) ?_ ?_; rotate_left; (intro w'; go_simp; with_reducible rfl); rotate_left; (simp only [Act.put, zt, zz, zs, i64_w, i32_w]; rfl)
  refine pure_ (i := 3) (N := some 10) (v := ?_) (a' := ?_) #[T_,F_,T_,T_,F_,F_,F_,F_,F_] rfl rfl (any_of HT_.out (by kernel_rfl)) (fun _ _ _ h => h) (Or.inl ⟨by rfl, ?_⟩) ?_ ?_; rotate_left; (intro w'; go_simp; with_reducible rfl); rotate_left; (simp only [Act.put, zt, zz, zs, i64_w, i32_w]; rfl)
  refine take_ (i := 1) (N := some 8) (v := ?_) (a' := ?_) #[T_,T_,T_,T_,F_,F_,F_,F_,F_] rfl rfl (take_ofW HT_.out HW_.out (by kernel_rfl)) (fun _ _ _ h => h) (Or.inl ⟨by rfl, ?_⟩) hHeld ?_ ?_; rotate_left; (rintro w' ⟨s0, s1, s2, s3⟩; go_simp; with_reducible rfl); rotate_left; (simp only [Act.put, zt, zz, zs, i64_w, i32_w]; rfl)
  refine take_ (i := 4) (N := some 11) (v := ?_) (a' := ?_) #[T_,T_,T_,T_,T_,F_,F_,F_,F_] rfl rfl (take_ofW HT_.out HW_.out (by kernel_rfl)) (fun _ _ _ h => h) (Or.inl ⟨by rfl, ?_⟩) hHeld ?_ ?_; rotate_left; (rintro w' ⟨s0, s1, s2, s3⟩; go_simp; with_reducible rfl); rotate_left; (simp only [Act.put, zt, zz, zs, i64_w, i32_w]; rfl)
  refine join_ (σ := Nat) 1 #[T_,T_,T_,T_,T_,T_,T_,T_,F_] (fun s_ => [(12, .agg #[.int .i64 t282, .int .u64 t283]), (13, .agg #[.int .i64 t284, .int .u64 t285]), (4, .pointer (some ⟨s_, 0, none⟩))]) (fun s_ w' => (w'.cell? ⟨gb281, 0, none⟩ = some (.int .i64 a0_0) ∧ w'.cell? ⟨gb281, 1, none⟩ = some (.int .u64 a0_1) ∧ w'.cell? ⟨gb281, 2, none⟩ = some (.int .i64 a0_2) ∧ w'.cell? ⟨gb281, 3, none⟩ = some (.int .u64 a0_3)) ∧ (w'.heap[gb281]? = some (.cells #[.int .i64 a0_0, .int .u64 a0_1, .int .i64 a0_2, .int .u64 a0_3] 109 (0, 0))) ∧ (w'.heap[s_]? = some (.cells #[.int .i64 0, .int .u64 0] 107 (0, 0))) ∧ (w.heap.size ≤ s_) ∧ (w.heap.size ≤ s_) ∧ (gb281 ≠ s_) ∧ (s_ ≠ gb281) ∧ (Below w.heap.size w w')) ?_ ?_
  rotate_left
  ·intro hCont
   refine two_ (i := 5) (j := 7) (Ni := some 12) (Nj := some 4) #[T_,T_,T_,T_,T_,T_,F_,F_,F_] #[T_,T_,T_,T_,T_,F_,F_,T_,F_] rfl rfl rfl rfl (two_of HT_.out (by kernel_rfl)) (by decide) (by decide) (fun K hK => ?_) (fun K hK => ?_)
   ·skip
    refine goes_ Try.func81 (by kernel_rfl) rfl #[.int .i64 a0_2] (by rfl) rfl rfl (by (try simp only [List.map_toArray, List.map_cons, List.map_nil]); first | done | rfl | (simp only [List.length_drop, List.length_take]; rfl)) ?_
    with_reducible refine (sequiturref01_Of.calls a0_2 t282 t283 _ A2.out).mono ?_
    rintro e w9 ⟨rfl, hb⟩
    refine ⟨_, rfl, ?_⟩
    replace BK281 := zK (blk_below (g := gb281) (o := .cells #[.int .i64 a0_0, .int .u64 a0_1, .int .i64 a0_2, .int .u64 a0_3] 109 (0, 0)) (zb BK281) hb)
    replace HB := zK (below_step (zo HB) hb)
    (try clear hb); (try clear hb2); (try clear hk); (try clear hi)
    refine hK.out _ _ ⟨(blk_cell BK281.out 0).trans rfl, (blk_cell BK281.out 1).trans rfl, (blk_cell BK281.out 2).trans rfl, (blk_cell BK281.out 3).trans rfl⟩ (fun hHeld => ?_)
    clear hK K
    refine norm_ (a' := ?_) ?_ ?_; rotate_left; (show Act.put _ (some 12) _ = _; simp only [Act.put, zt, zz, zs, i64_w, i32_w]; rfl)
    refine two_ (i := 6) (j := 7) (Ni := some 13) (Nj := some 4) #[T_,T_,T_,T_,T_,T_,T_,F_,F_] #[T_,T_,T_,T_,T_,T_,F_,T_,F_] rfl rfl rfl rfl (two_of HT_.out (by kernel_rfl)) (by decide) (by decide) (fun K hK => ?_) (fun K hK => ?_)
    ·skip
     refine goes_ Try.func79 (by kernel_rfl) rfl #[.agg #[.int .i64 a0_0, .int .u64 a0_1], .agg #[.int .i64 t282, .int .u64 t283]] (by rfl) rfl rfl (by (try simp only [List.map_toArray, List.map_cons, List.map_nil]); first | done | rfl | (simp only [List.length_drop, List.length_take]; rfl)) ?_
     with_reducible refine (sequiturref01_Plus.calls a0_0 a0_1 t282 t283 t284 t285 _ A3.out).mono ?_
     rintro e w10 ⟨rfl, hb⟩
     refine ⟨_, rfl, ?_⟩
     replace BK281 := zK (blk_below (g := gb281) (o := .cells #[.int .i64 a0_0, .int .u64 a0_1, .int .i64 a0_2, .int .u64 a0_3] 109 (0, 0)) (zb BK281) hb)
     replace HB := zK (below_step (zo HB) hb)
     (try clear hb); (try clear hb2); (try clear hk); (try clear hi)
     refine hK.out _ _ ⟨(blk_cell BK281.out 0).trans rfl, (blk_cell BK281.out 1).trans rfl, (blk_cell BK281.out 2).trans rfl, (blk_cell BK281.out 3).trans rfl⟩ (fun hHeld => ?_)
     clear hK K
     refine norm_ (a' := ?_) ?_ ?_; rotate_left; (show Act.put _ (some 13) _ = _; simp only [Act.put, zt, zz, zs, i64_w, i32_w]; rfl)
     refine one_ (i := 7) (N := some 4) #[T_,T_,T_,T_,T_,T_,T_,T_,F_] rfl rfl (one_of HT_.out (by kernel_rfl)) (by decide) (fun K hK => ?_)
     refine box_step ?hg (N := 4) ?hd (cs := #[.int .i64 0, .int .u64 0]) (t := 107) ?hr ?_; (case hd => rfl); (case hg => rfl); (case hr => first | (go_simp; done) | (go_simp; rfl))
     intro gb286 hg w11 hbox hb
     have BK286 := zK (hbox)
     have GW286 := zK ((by rw [hg]; exact (below_size (zo HB)) : w.heap.size ≤ gb286))
     have GE286 := zK ((by rw [hg]; exact (below_size (zo HB)) : w.heap.size ≤ gb286))
     replace HB := zK (below_step (zo HB) hb)
     have NB281_286 := zK ((by rw [hg]; exact Nat.ne_of_lt (blk_lt (g := gb281) (o := .cells #[.int .i64 a0_0, .int .u64 a0_1, .int .i64 a0_2, .int .u64 a0_3] 109 (0, 0)) (zb BK281)) : gb281 ≠ gb286))
     have NB286_281 := zK ((by rw [hg]; exact Nat.ne_of_gt (blk_lt (g := gb281) (o := .cells #[.int .i64 a0_0, .int .u64 a0_1, .int .i64 a0_2, .int .u64 a0_3] 109 (0, 0)) (zb BK281)) : gb286 ≠ gb281))
     replace BK281 := zK (blk_below (g := gb281) (o := .cells #[.int .i64 a0_0, .int .u64 a0_1, .int .i64 a0_2, .int .u64 a0_3] 109 (0, 0)) (zb BK281) hb)
     clear hb hbox hg
     refine hK.out _ _ ⟨(blk_cell BK281.out 0).trans rfl, (blk_cell BK281.out 1).trans rfl, (blk_cell BK281.out 2).trans rfl, (blk_cell BK281.out 3).trans rfl⟩ (fun hHeld => ?_)
     clear hK K
     refine norm_ (a' := ?_) ?_ ?_; rotate_left; (show Act.put _ (some 4) _ = _; simp only [Act.put, zt, zz, zs, i64_w, i32_w]; rfl)
     exact norm_ (by simp only [putAll, Act.put, zt, zz, zs]) (hCont (gb286) _ ⟨hHeld, (zb BK281), (zb BK286), GW286.out, GE286.out, NB281_286.out, NB286_281.out, (zo HB)⟩)
    ·skip
     refine box_step ?hg (N := 4) ?hd (cs := #[.int .i64 0, .int .u64 0]) (t := 107) ?hr ?_; (case hd => rfl); (case hg => rfl); (case hr => first | (go_simp; done) | (go_simp; rfl))
     intro gb286 hg w10 hbox hb
     have BK286 := zK (hbox)
     have GW286 := zK ((by rw [hg]; exact (below_size (zo HB)) : w.heap.size ≤ gb286))
     have GE286 := zK ((by rw [hg]; exact (below_size (zo HB)) : w.heap.size ≤ gb286))
     replace HB := zK (below_step (zo HB) hb)
     have NB281_286 := zK ((by rw [hg]; exact Nat.ne_of_lt (blk_lt (g := gb281) (o := .cells #[.int .i64 a0_0, .int .u64 a0_1, .int .i64 a0_2, .int .u64 a0_3] 109 (0, 0)) (zb BK281)) : gb281 ≠ gb286))
     have NB286_281 := zK ((by rw [hg]; exact Nat.ne_of_gt (blk_lt (g := gb281) (o := .cells #[.int .i64 a0_0, .int .u64 a0_1, .int .i64 a0_2, .int .u64 a0_3] 109 (0, 0)) (zb BK281)) : gb286 ≠ gb281))
     replace BK281 := zK (blk_below (g := gb281) (o := .cells #[.int .i64 a0_0, .int .u64 a0_1, .int .i64 a0_2, .int .u64 a0_3] 109 (0, 0)) (zb BK281) hb)
     clear hb hbox hg
     refine hK.out _ _ ⟨(blk_cell BK281.out 0).trans rfl, (blk_cell BK281.out 1).trans rfl, (blk_cell BK281.out 2).trans rfl, (blk_cell BK281.out 3).trans rfl⟩ (fun hHeld => ?_)
     clear hK K
     refine norm_ (a' := ?_) ?_ ?_; rotate_left; (show Act.put _ (some 4) _ = _; simp only [Act.put, zt, zz, zs, i64_w, i32_w]; rfl)
     refine one_ (i := 6) (N := some 13) #[T_,T_,T_,T_,T_,T_,T_,T_,F_] rfl rfl (one_of HT_.out (by kernel_rfl)) (by decide) (fun K hK => ?_)
     refine goes_ Try.func79 (by kernel_rfl) rfl #[.agg #[.int .i64 a0_0, .int .u64 a0_1], .agg #[.int .i64 t282, .int .u64 t283]] (by rfl) rfl rfl (by (try simp only [List.map_toArray, List.map_cons, List.map_nil]); first | done | rfl | (simp only [List.length_drop, List.length_take]; rfl)) ?_
     with_reducible refine (sequiturref01_Plus.calls a0_0 a0_1 t282 t283 t284 t285 _ A3.out).mono ?_
     rintro e w11 ⟨rfl, hb⟩
     refine ⟨_, rfl, ?_⟩
     replace BK281 := zK (blk_below (g := gb281) (o := .cells #[.int .i64 a0_0, .int .u64 a0_1, .int .i64 a0_2, .int .u64 a0_3] 109 (0, 0)) (zb BK281) hb)
     replace BK286 := zK (blk_below (g := gb286) (o := .cells #[.int .i64 0, .int .u64 0] 107 (0, 0)) (zb BK286) hb)
     replace HB := zK (below_step (zo HB) hb)
     (try clear hb); (try clear hb2); (try clear hk); (try clear hi)
     refine hK.out _ _ ⟨(blk_cell BK281.out 0).trans rfl, (blk_cell BK281.out 1).trans rfl, (blk_cell BK281.out 2).trans rfl, (blk_cell BK281.out 3).trans rfl⟩ (fun hHeld => ?_)
     clear hK K
     refine norm_ (a' := ?_) ?_ ?_; rotate_left; (show Act.put _ (some 13) _ = _; simp only [Act.put, zt, zz, zs, i64_w, i32_w]; rfl)
     exact norm_ (by simp only [putAll, Act.put, zt, zz, zs]) (hCont (gb286) _ ⟨hHeld, (zb BK281), (zb BK286), GW286.out, GE286.out, NB281_286.out, NB286_281.out, (zo HB)⟩)
   ·skip
    refine box_step ?hg (N := 4) ?hd (cs := #[.int .i64 0, .int .u64 0]) (t := 107) ?hr ?_; (case hd => rfl); (case hg => rfl); (case hr => first | (go_simp; done) | (go_simp; rfl))
    intro gb286 hg w9 hbox hb
    have BK286 := zK (hbox)
    have GW286 := zK ((by rw [hg]; exact (below_size (zo HB)) : w.heap.size ≤ gb286))
    have GE286 := zK ((by rw [hg]; exact (below_size (zo HB)) : w.heap.size ≤ gb286))
    replace HB := zK (below_step (zo HB) hb)
    have NB281_286 := zK ((by rw [hg]; exact Nat.ne_of_lt (blk_lt (g := gb281) (o := .cells #[.int .i64 a0_0, .int .u64 a0_1, .int .i64 a0_2, .int .u64 a0_3] 109 (0, 0)) (zb BK281)) : gb281 ≠ gb286))
    have NB286_281 := zK ((by rw [hg]; exact Nat.ne_of_gt (blk_lt (g := gb281) (o := .cells #[.int .i64 a0_0, .int .u64 a0_1, .int .i64 a0_2, .int .u64 a0_3] 109 (0, 0)) (zb BK281)) : gb286 ≠ gb281))
    replace BK281 := zK (blk_below (g := gb281) (o := .cells #[.int .i64 a0_0, .int .u64 a0_1, .int .i64 a0_2, .int .u64 a0_3] 109 (0, 0)) (zb BK281) hb)
    clear hb hbox hg
    refine hK.out _ _ ⟨(blk_cell BK281.out 0).trans rfl, (blk_cell BK281.out 1).trans rfl, (blk_cell BK281.out 2).trans rfl, (blk_cell BK281.out 3).trans rfl⟩ (fun hHeld => ?_)
    clear hK K
    refine norm_ (a' := ?_) ?_ ?_; rotate_left; (show Act.put _ (some 4) _ = _; simp only [Act.put, zt, zz, zs, i64_w, i32_w]; rfl)
    refine one_ (i := 5) (N := some 12) #[T_,T_,T_,T_,T_,T_,F_,T_,F_] rfl rfl (one_of HT_.out (by kernel_rfl)) (by decide) (fun K hK => ?_)
    refine goes_ Try.func81 (by kernel_rfl) rfl #[.int .i64 a0_2] (by rfl) rfl rfl (by (try simp only [List.map_toArray, List.map_cons, List.map_nil]); first | done | rfl | (simp only [List.length_drop, List.length_take]; rfl)) ?_
    with_reducible refine (sequiturref01_Of.calls a0_2 t282 t283 _ A2.out).mono ?_
    rintro e w10 ⟨rfl, hb⟩
    refine ⟨_, rfl, ?_⟩
    replace BK281 := zK (blk_below (g := gb281) (o := .cells #[.int .i64 a0_0, .int .u64 a0_1, .int .i64 a0_2, .int .u64 a0_3] 109 (0, 0)) (zb BK281) hb)
    replace BK286 := zK (blk_below (g := gb286) (o := .cells #[.int .i64 0, .int .u64 0] 107 (0, 0)) (zb BK286) hb)
    replace HB := zK (below_step (zo HB) hb)
    (try clear hb); (try clear hb2); (try clear hk); (try clear hi)
    refine hK.out _ _ ⟨(blk_cell BK281.out 0).trans rfl, (blk_cell BK281.out 1).trans rfl, (blk_cell BK281.out 2).trans rfl, (blk_cell BK281.out 3).trans rfl⟩ (fun hHeld => ?_)
    clear hK K
    refine norm_ (a' := ?_) ?_ ?_; rotate_left; (show Act.put _ (some 12) _ = _; simp only [Act.put, zt, zz, zs, i64_w, i32_w]; rfl)
    refine one_ (i := 6) (N := some 13) #[T_,T_,T_,T_,T_,T_,T_,T_,F_] rfl rfl (one_of HT_.out (by kernel_rfl)) (by decide) (fun K hK => ?_)
    refine goes_ Try.func79 (by kernel_rfl) rfl #[.agg #[.int .i64 a0_0, .int .u64 a0_1], .agg #[.int .i64 t282, .int .u64 t283]] (by rfl) rfl rfl (by (try simp only [List.map_toArray, List.map_cons, List.map_nil]); first | done | rfl | (simp only [List.length_drop, List.length_take]; rfl)) ?_
    with_reducible refine (sequiturref01_Plus.calls a0_0 a0_1 t282 t283 t284 t285 _ A3.out).mono ?_
    rintro e w11 ⟨rfl, hb⟩
    refine ⟨_, rfl, ?_⟩
    replace BK281 := zK (blk_below (g := gb281) (o := .cells #[.int .i64 a0_0, .int .u64 a0_1, .int .i64 a0_2, .int .u64 a0_3] 109 (0, 0)) (zb BK281) hb)
    replace BK286 := zK (blk_below (g := gb286) (o := .cells #[.int .i64 0, .int .u64 0] 107 (0, 0)) (zb BK286) hb)
    replace HB := zK (below_step (zo HB) hb)
    (try clear hb); (try clear hb2); (try clear hk); (try clear hi)
    refine hK.out _ _ ⟨(blk_cell BK281.out 0).trans rfl, (blk_cell BK281.out 1).trans rfl, (blk_cell BK281.out 2).trans rfl, (blk_cell BK281.out 3).trans rfl⟩ (fun hHeld => ?_)
    clear hK K
    refine norm_ (a' := ?_) ?_ ?_; rotate_left; (show Act.put _ (some 13) _ = _; simp only [Act.put, zt, zz, zs, i64_w, i32_w]; rfl)
    exact norm_ (by simp only [putAll, Act.put, zt, zz, zs]) (hCont (gb286) _ ⟨hHeld, (zb BK281), (zb BK286), GW286.out, GE286.out, NB281_286.out, NB286_281.out, (zo HB)⟩)
  rintro gb286 w12 ⟨hS_, h0_, h1_, h2_, h3_, h4_, h5_, h6_⟩
  have n0_ : Aside0 (w12.heap[gb281]? = some (.cells #[.int .i64 a0_0, .int .u64 a0_1, .int .i64 a0_2, .int .u64 a0_3] 109 (0, 0))) := ⟨h0_⟩
  have n1_ : Aside0 (w12.heap[gb286]? = some (.cells #[.int .i64 0, .int .u64 0] 107 (0, 0))) := ⟨h1_⟩
  have n2_ : Aside0 (w.heap.size ≤ gb286) := ⟨h2_⟩
  have n3_ : Aside0 (w.heap.size ≤ gb286) := ⟨h3_⟩
  have n4_ : Aside0 (gb281 ≠ gb286) := ⟨h4_⟩
  have n5_ : Aside0 (gb286 ≠ gb281) := ⟨h5_⟩
  have n6_ : Aside0 (Below w.heap.size w w12) := ⟨h6_⟩; clear BK281 HB h0_ h1_ h2_ h3_ h4_ h5_ h6_
  have BK281 := n0_
  have BK286 := n1_
  have GW286 := n2_
  have GE286 := n3_
  have NB281_286 := n4_
  have NB286_281 := n5_
  have HB := n6_; clear n0_ n1_ n2_ n3_ n4_ n5_ n6_
  have hHeld : w12.cell? ⟨gb281, 0, none⟩ = some (.int .i64 a0_0) ∧ w12.cell? ⟨gb281, 1, none⟩ = some (.int .u64 a0_1) ∧ w12.cell? ⟨gb281, 2, none⟩ = some (.int .i64 a0_2) ∧ w12.cell? ⟨gb281, 3, none⟩ = some (.int .u64 a0_3) := hS_
  refine norm_ (a' := ?_) ?_ ?_
  rotate_left
  ·simp only [putAll, Act.put, zt, zz, zs]
   rfl
  refine one_ (i := 8) (N := none) #[T_,T_,T_,T_,T_,T_,T_,T_,T_] rfl rfl (one_of HT_.out (by kernel_rfl)) (by decide) (fun K hK => ?_)
  have hs13 : w12.cell? ⟨gb286, 0, none⟩ = some (.int .i64 0) := (blk_cell BK286.out 0).trans rfl
  have hfs13 := blk_frozen BK286.out 0
  have hns13_0 := NB281_286.out
  have hms13_0 := NB286_281.out
  have hs14 : w12.cell? ⟨gb286, 1, none⟩ = some (.int .u64 0) := (blk_cell BK286.out 1).trans rfl
  have hfs14 := blk_frozen BK286.out 1
  have hns14_0 := NB281_286.out
  have hms14_0 := NB286_281.out
  refine skip_ (w1 := ?_) (by rfl) rfl ?_ ?_
  rotate_left
  ·go_simp
   rfl
  refine hK.out _ _ ⟨((cell_far (p := ⟨gb286, _, none⟩) NB281_286.out _).trans (((cell_far (p := ⟨gb286, _, none⟩) NB281_286.out _).trans (hHeld.1)))), ((cell_far (p := ⟨gb286, _, none⟩) NB281_286.out _).trans (((cell_far (p := ⟨gb286, _, none⟩) NB281_286.out _).trans (hHeld.2.1)))), ((cell_far (p := ⟨gb286, _, none⟩) NB281_286.out _).trans (((cell_far (p := ⟨gb286, _, none⟩) NB281_286.out _).trans (hHeld.2.2.1)))), ((cell_far (p := ⟨gb286, _, none⟩) NB281_286.out _).trans (((cell_far (p := ⟨gb286, _, none⟩) NB281_286.out _).trans (hHeld.2.2.2))))⟩ (fun hHeld => ?_)
  clear hK K
  refine done_ (done_of HT_.out (by kernel_rfl)) ?_
  have hnb15 := NB286_281.out
  have hnc15 := NB281_286.out
  have hcz16_0 : w12.cell? ⟨gb286, 0, none⟩ = some (.int .i64 0) := (blk_cell BK286.out 0).trans rfl
  have hcz16_1 : w12.cell? ⟨gb286, 1, none⟩ = some (.int .u64 0) := (blk_cell BK286.out 1).trans rfl
  have hfz16_0 := blk_frozen BK286.out 0
  have hfz16_1 := blk_frozen BK286.out 1
  try go_wp2_with (first | ((with_reducible refine zC (f := 96) rfl ?_); refine goesL_ (some 16) rfl rfl Try.func96 (by kernel_rfl) rfl #[.agg #[.int .i64 t284, .int .u64 t285]] rfl (by (try simp only [List.map_toArray, List.map_cons, List.map_nil]); first | done | rfl | (simp only [List.length_drop, List.length_take]; rfl)) ?_; (with_reducible refine (sequiturref01_Fits.calls t284 t285 t287 true _ A4.out).mono ?_); rintro e w17 ⟨rfl, hb⟩; refine ⟨_, rfl, ?_⟩; replace BK281 := zK (blk_below (g := gb281) (o := .cells #[.int .i64 a0_0, .int .u64 a0_1, .int .i64 a0_2, .int .u64 a0_3] 109 (0, 0)) (zb BK281) hb); replace BK286 := zK (blk_below (g := gb286) (o := .cells #[.int .i64 t284, .int .u64 t285] 107 (0, 0)) (by refine zM ?_; refine blk_put (cs := #[.int .i64 t284, .int .u64 0]) ?_ 1 _ rfl; refine zM ?_; refine blk_put (cs := #[.int .i64 0, .int .u64 0]) ?_ 0 _ rfl; refine zM ?_; exact BK286.out) hb); replace HB := zK (below_step (zo HB) hb); (try clear hb); (try clear hb2); (try clear hk); (try clear hi); have hcz18_0 : w17.cell? ⟨gb281, 0, none⟩ = some (.int .i64 a0_0) := (blk_cell BK281.out 0).trans rfl; have hcz18_1 : w17.cell? ⟨gb281, 1, none⟩ = some (.int .u64 a0_1) := (blk_cell BK281.out 1).trans rfl; have hcz18_2 : w17.cell? ⟨gb281, 2, none⟩ = some (.int .i64 a0_2) := (blk_cell BK281.out 2).trans rfl; have hcz18_3 : w17.cell? ⟨gb281, 3, none⟩ = some (.int .u64 a0_3) := (blk_cell BK281.out 3).trans rfl; have hfz18_0 := blk_frozen BK281.out 0; have hfz18_1 := blk_frozen BK281.out 1; have hfz18_2 := blk_frozen BK281.out 2; have hfz18_3 := blk_frozen BK281.out 3) | ((with_reducible refine zC (f := 96) rfl ?_); refine goesL_ (some 26) rfl rfl Try.func96 (by kernel_rfl) rfl #[.agg #[.int .i64 t287, .int .u64 a0_3]] rfl (by (try simp only [List.map_toArray, List.map_cons, List.map_nil]); first | done | rfl | (simp only [List.length_drop, List.length_take]; rfl)) ?_; (with_reducible refine (sequiturref01_Fits.calls t287 a0_3 t289 t290 _ A6.out).mono ?_); rintro e w19 ⟨rfl, hb⟩; refine ⟨_, rfl, ?_⟩; replace BK281 := zK (blk_below (g := gb281) (o := .cells #[.int .i64 a0_0, .int .u64 a0_1, .int .i64 a0_2, .int .u64 a0_3] 109 (0, 0)) (zb BK281) hb); replace BK286 := zK (blk_below (g := gb286) (o := .cells #[.int .i64 t284, .int .u64 t285] 107 (0, 0)) (zb BK286) hb); replace HB := zK (below_step (zo HB) hb); (try clear hb); (try clear hb2); (try clear hk); (try clear hi)))
  go_ret2
  exact ⟨by first | rfl | (simp [errW_none, errW_some] <;> rfl) | (simp [*, errW_none, errW_some] <;> rfl), zo HB⟩
 ·replace c5 := Bool.eq_false_iff.mpr c5
  subst c5
  have H1 : (some (0, false)) = some (r1, r2) := by rw [if_neg (show ¬ (false = true) by decide)] at H; exact H
  clear H; have H := H1; clear H1
  simp only [Option.some.injEq, Prod.mk.injEq] at H
  obtain ⟨rfl, rfl⟩ := H
  go_enter Try.func72, Try.ntmps72
  try go_wp2_with (first | ((with_reducible refine gate_dst (N := 1) rfl ?_); refine box_event ?hg (N := 1) ?hd (cs := #[.int .i64 a0_0, .int .u64 a0_1, .int .i64 a0_2, .int .u64 a0_3]) (t := 109) ?hr ?_; (case hd => rfl); (case hg => rfl); (case hr => first | (go_simp; done) | (go_simp; rfl)); intro gb281 hg w20 hbox hb; have BK281 := zK (hbox); have GW281 := zK ((by rw [hg]; exact (below_size (zo HB)) : w.heap.size ≤ gb281)); have GE281 := zK ((by rw [hg]; exact (below_size (zo HB)) : w.heap.size ≤ gb281)); replace HB := zK (below_step (zo HB) hb); clear hb hbox hg))
  replace BK281 := zK (zD BK281.out)
  replace HB := zK (yD HB.out)
  refine start_ (n := 9) (S := fun w' => w'.cell? ⟨gb281, 0, none⟩ = some (.int .i64 a0_0) ∧ w'.cell? ⟨gb281, 1, none⟩ = some (.int .u64 a0_1) ∧ w'.cell? ⟨gb281, 2, none⟩ = some (.int .i64 a0_2) ∧ w'.cell? ⟨gb281, 3, none⟩ = some (.int .u64 a0_3)) (ds := []) #[F_,F_,F_,F_,F_,F_,F_,F_,F_] (by kernel_rfl) rfl rfl ⟨(blk_cell BK281.out 0).trans rfl, (blk_cell BK281.out 1).trans rfl, (blk_cell BK281.out 2).trans rfl, (blk_cell BK281.out 3).trans rfl⟩ (fun hHeld => ?_); refine with_tabW sequiturref27_Fits.tab1 sequiturref27_Fits.bits1 (fun HT_ HW_ => ?_)
  generalize w20.drew = w21 at BK281 HB hHeld ⊢
  refine pure_ (i := 0) (N := some 7) (v := ?_) (a' := ?_) #[T_,F_,F_,F_,F_,F_,F_,F_,F_] rfl rfl (any_of HT_.out (by kernel_rfl)) (fun _ _ _ h => h) (Or.inl ⟨by rfl, ?_⟩) ?_ ?_; rotate_left; (intro w'; go_simp; with_reducible rfl); rotate_left; (simp only [Act.put, zt, zz, zs, i64_w, i32_w]; rfl)
  refine pure_ (i := 2) (N := some 9) (v := ?_) (a' := ?_) #[T_,F_,T_,F_,F_,F_,F_,F_,F_] rfl rfl (any_of HT_.out (by kernel_rfl)) (fun _ _ _ h => h) (Or.inl ⟨by rfl, ?_⟩) ?_ ?_; rotate_left; (intro w'; go_simp; with_reducible rfl); rotate_left; (simp only [Act.put, zt, zz, zs, i64_w, i32_w]; rfl)
  refine pure_ (i := 3) (N := some 10) (v := ?_) (a' := ?_) #[T_,F_,T_,T_,F_,F_,F_,F_,F_] rfl rfl (any_of HT_.out (by kernel_rfl)) (fun _ _ _ h => h) (Or.inl ⟨by rfl, ?_⟩) ?_ ?_; rotate_left; (intro w'; go_simp; with_reducible rfl); rotate_left; (simp only [Act.put, zt, zz, zs, i64_w, i32_w]; rfl)
  refine take_ (i := 1) (N := some 8) (v := ?_) (a' := ?_) #[T_,T_,T_,T_,F_,F_,F_,F_,F_] rfl rfl (take_ofW HT_.out HW_.out (by kernel_rfl)) (fun _ _ _ h => h) (Or.inl ⟨by rfl, ?_⟩) hHeld ?_ ?_; rotate_left; (rintro w' ⟨s0, s1, s2, s3⟩; go_simp; with_reducible rfl); rotate_left; (simp only [Act.put, zt, zz, zs, i64_w, i32_w]; rfl)
  refine take_ (i := 4) (N := some 11) (v := ?_) (a' := ?_) #[T_,T_,T_,T_,T_,F_,F_,F_,F_] rfl rfl (take_ofW HT_.out HW_.out (by kernel_rfl)) (fun _ _ _ h => h) (Or.inl ⟨by rfl, ?_⟩) hHeld ?_ ?_; rotate_left; (rintro w' ⟨s0, s1, s2, s3⟩; go_simp; with_reducible rfl); rotate_left; (simp only [Act.put, zt, zz, zs, i64_w, i32_w]; rfl)
  refine join_ (σ := Nat) 1 #[T_,T_,T_,T_,T_,T_,T_,T_,F_] (fun s_ => [(12, .agg #[.int .i64 t282, .int .u64 t283]), (13, .agg #[.int .i64 t284, .int .u64 t285]), (4, .pointer (some ⟨s_, 0, none⟩))]) (fun s_ w' => (w'.cell? ⟨gb281, 0, none⟩ = some (.int .i64 a0_0) ∧ w'.cell? ⟨gb281, 1, none⟩ = some (.int .u64 a0_1) ∧ w'.cell? ⟨gb281, 2, none⟩ = some (.int .i64 a0_2) ∧ w'.cell? ⟨gb281, 3, none⟩ = some (.int .u64 a0_3)) ∧ (w'.heap[gb281]? = some (.cells #[.int .i64 a0_0, .int .u64 a0_1, .int .i64 a0_2, .int .u64 a0_3] 109 (0, 0))) ∧ (w'.heap[s_]? = some (.cells #[.int .i64 0, .int .u64 0] 107 (0, 0))) ∧ (w.heap.size ≤ s_) ∧ (w.heap.size ≤ s_) ∧ (gb281 ≠ s_) ∧ (s_ ≠ gb281) ∧ (Below w.heap.size w w')) ?_ ?_
  rotate_left
  ·intro hCont
   refine two_ (i := 5) (j := 7) (Ni := some 12) (Nj := some 4) #[T_,T_,T_,T_,T_,T_,F_,F_,F_] #[T_,T_,T_,T_,T_,F_,F_,T_,F_] rfl rfl rfl rfl (two_of HT_.out (by kernel_rfl)) (by decide) (by decide) (fun K hK => ?_) (fun K hK => ?_)
   ·skip
    refine goes_ Try.func81 (by kernel_rfl) rfl #[.int .i64 a0_2] (by rfl) rfl rfl (by (try simp only [List.map_toArray, List.map_cons, List.map_nil]); first | done | rfl | (simp only [List.length_drop, List.length_take]; rfl)) ?_
    with_reducible refine (sequiturref01_Of.calls a0_2 t282 t283 _ A2.out).mono ?_
    rintro e w22 ⟨rfl, hb⟩
    refine ⟨_, rfl, ?_⟩
    replace BK281 := zK (blk_below (g := gb281) (o := .cells #[.int .i64 a0_0, .int .u64 a0_1, .int .i64 a0_2, .int .u64 a0_3] 109 (0, 0)) (zb BK281) hb)
    replace HB := zK (below_step (zo HB) hb)
    (try clear hb); (try clear hb2); (try clear hk); (try clear hi)
    refine hK.out _ _ ⟨(blk_cell BK281.out 0).trans rfl, (blk_cell BK281.out 1).trans rfl, (blk_cell BK281.out 2).trans rfl, (blk_cell BK281.out 3).trans rfl⟩ (fun hHeld => ?_)
    clear hK K
    refine norm_ (a' := ?_) ?_ ?_; rotate_left; (show Act.put _ (some 12) _ = _; simp only [Act.put, zt, zz, zs, i64_w, i32_w]; rfl)
    refine two_ (i := 6) (j := 7) (Ni := some 13) (Nj := some 4) #[T_,T_,T_,T_,T_,T_,T_,F_,F_] #[T_,T_,T_,T_,T_,T_,F_,T_,F_] rfl rfl rfl rfl (two_of HT_.out (by kernel_rfl)) (by decide) (by decide) (fun K hK => ?_) (fun K hK => ?_)
    ·skip
     refine goes_ Try.func79 (by kernel_rfl) rfl #[.agg #[.int .i64 a0_0, .int .u64 a0_1], .agg #[.int .i64 t282, .int .u64 t283]] (by rfl) rfl rfl (by (try simp only [List.map_toArray, List.map_cons, List.map_nil]); first | done | rfl | (simp only [List.length_drop, List.length_take]; rfl)) ?_
     with_reducible refine (sequiturref01_Plus.calls a0_0 a0_1 t282 t283 t284 t285 _ A3.out).mono ?_
     rintro e w23 ⟨rfl, hb⟩
     refine ⟨_, rfl, ?_⟩
     replace BK281 := zK (blk_below (g := gb281) (o := .cells #[.int .i64 a0_0, .int .u64 a0_1, .int .i64 a0_2, .int .u64 a0_3] 109 (0, 0)) (zb BK281) hb)
     replace HB := zK (below_step (zo HB) hb)
     (try clear hb); (try clear hb2); (try clear hk); (try clear hi)
     refine hK.out _ _ ⟨(blk_cell BK281.out 0).trans rfl, (blk_cell BK281.out 1).trans rfl, (blk_cell BK281.out 2).trans rfl, (blk_cell BK281.out 3).trans rfl⟩ (fun hHeld => ?_)
     clear hK K
     refine norm_ (a' := ?_) ?_ ?_; rotate_left; (show Act.put _ (some 13) _ = _; simp only [Act.put, zt, zz, zs, i64_w, i32_w]; rfl)
     refine one_ (i := 7) (N := some 4) #[T_,T_,T_,T_,T_,T_,T_,T_,F_] rfl rfl (one_of HT_.out (by kernel_rfl)) (by decide) (fun K hK => ?_)
     refine box_step ?hg (N := 4) ?hd (cs := #[.int .i64 0, .int .u64 0]) (t := 107) ?hr ?_; (case hd => rfl); (case hg => rfl); (case hr => first | (go_simp; done) | (go_simp; rfl))
     intro gb286 hg w24 hbox hb
     have BK286 := zK (hbox)
     have GW286 := zK ((by rw [hg]; exact (below_size (zo HB)) : w.heap.size ≤ gb286))
     have GE286 := zK ((by rw [hg]; exact (below_size (zo HB)) : w.heap.size ≤ gb286))
     replace HB := zK (below_step (zo HB) hb)
     have NB281_286 := zK ((by rw [hg]; exact Nat.ne_of_lt (blk_lt (g := gb281) (o := .cells #[.int .i64 a0_0, .int .u64 a0_1, .int .i64 a0_2, .int .u64 a0_3] 109 (0, 0)) (zb BK281)) : gb281 ≠ gb286))
     have NB286_281 := zK ((by rw [hg]; exact Nat.ne_of_gt (blk_lt (g := gb281) (o := .cells #[.int .i64 a0_0, .int .u64 a0_1, .int .i64 a0_2, .int .u64 a0_3] 109 (0, 0)) (zb BK281)) : gb286 ≠ gb281))
     replace BK281 := zK (blk_below (g := gb281) (o := .cells #[.int .i64 a0_0, .int .u64 a0_1, .int .i64 a0_2, .int .u64 a0_3] 109 (0, 0)) (zb BK281) hb)
     clear hb hbox hg
     refine hK.out _ _ ⟨(blk_cell BK281.out 0).trans rfl, (blk_cell BK281.out 1).trans rfl, (blk_cell BK281.out 2).trans rfl, (blk_cell BK281.out 3).trans rfl⟩ (fun hHeld => ?_)
     clear hK K
     refine norm_ (a' := ?_) ?_ ?_; rotate_left; (show Act.put _ (some 4) _ = _; simp only [Act.put, zt, zz, zs, i64_w, i32_w]; rfl)
     exact norm_ (by simp only [putAll, Act.put, zt, zz, zs]) (hCont (gb286) _ ⟨hHeld, (zb BK281), (zb BK286), GW286.out, GE286.out, NB281_286.out, NB286_281.out, (zo HB)⟩)
    ·skip
     refine box_step ?hg (N := 4) ?hd (cs := #[.int .i64 0, .int .u64 0]) (t := 107) ?hr ?_; (case hd => rfl); (case hg => rfl); (case hr => first | (go_simp; done) | (go_simp; rfl))
     intro gb286 hg w23 hbox hb
     have BK286 := zK (hbox)
     have GW286 := zK ((by rw [hg]; exact (below_size (zo HB)) : w.heap.size ≤ gb286))
     have GE286 := zK ((by rw [hg]; exact (below_size (zo HB)) : w.heap.size ≤ gb286))
     replace HB := zK (below_step (zo HB) hb)
     have NB281_286 := zK ((by rw [hg]; exact Nat.ne_of_lt (blk_lt (g := gb281) (o := .cells #[.int .i64 a0_0, .int .u64 a0_1, .int .i64 a0_2, .int .u64 a0_3] 109 (0, 0)) (zb BK281)) : gb281 ≠ gb286))
     have NB286_281 := zK ((by rw [hg]; exact Nat.ne_of_gt (blk_lt (g := gb281) (o := .cells #[.int .i64 a0_0, .int .u64 a0_1, .int .i64 a0_2, .int .u64 a0_3] 109 (0, 0)) (zb BK281)) : gb286 ≠ gb281))
     replace BK281 := zK (blk_below (g := gb281) (o := .cells #[.int .i64 a0_0, .int .u64 a0_1, .int .i64 a0_2, .int .u64 a0_3] 109 (0, 0)) (zb BK281) hb)
     clear hb hbox hg
     refine hK.out _ _ ⟨(blk_cell BK281.out 0).trans rfl, (blk_cell BK281.out 1).trans rfl, (blk_cell BK281.out 2).trans rfl, (blk_cell BK281.out 3).trans rfl⟩ (fun hHeld => ?_)
     clear hK K
     refine norm_ (a' := ?_) ?_ ?_; rotate_left; (show Act.put _ (some 4) _ = _; simp only [Act.put, zt, zz, zs, i64_w, i32_w]; rfl)
     refine one_ (i := 6) (N := some 13) #[T_,T_,T_,T_,T_,T_,T_,T_,F_] rfl rfl (one_of HT_.out (by kernel_rfl)) (by decide) (fun K hK => ?_)
     refine goes_ Try.func79 (by kernel_rfl) rfl #[.agg #[.int .i64 a0_0, .int .u64 a0_1], .agg #[.int .i64 t282, .int .u64 t283]] (by rfl) rfl rfl (by (try simp only [List.map_toArray, List.map_cons, List.map_nil]); first | done | rfl | (simp only [List.length_drop, List.length_take]; rfl)) ?_
     with_reducible refine (sequiturref01_Plus.calls a0_0 a0_1 t282 t283 t284 t285 _ A3.out).mono ?_
     rintro e w24 ⟨rfl, hb⟩
     refine ⟨_, rfl, ?_⟩
     replace BK281 := zK (blk_below (g := gb281) (o := .cells #[.int .i64 a0_0, .int .u64 a0_1, .int .i64 a0_2, .int .u64 a0_3] 109 (0, 0)) (zb BK281) hb)
     replace BK286 := zK (blk_below (g := gb286) (o := .cells #[.int .i64 0, .int .u64 0] 107 (0, 0)) (zb BK286) hb)
     replace HB := zK (below_step (zo HB) hb)
     (try clear hb); (try clear hb2); (try clear hk); (try clear hi)
     refine hK.out _ _ ⟨(blk_cell BK281.out 0).trans rfl, (blk_cell BK281.out 1).trans rfl, (blk_cell BK281.out 2).trans rfl, (blk_cell BK281.out 3).trans rfl⟩ (fun hHeld => ?_)
     clear hK K
     refine norm_ (a' := ?_) ?_ ?_; rotate_left; (show Act.put _ (some 13) _ = _; simp only [Act.put, zt, zz, zs, i64_w, i32_w]; rfl)
     exact norm_ (by simp only [putAll, Act.put, zt, zz, zs]) (hCont (gb286) _ ⟨hHeld, (zb BK281), (zb BK286), GW286.out, GE286.out, NB281_286.out, NB286_281.out, (zo HB)⟩)
   ·skip
    refine box_step ?hg (N := 4) ?hd (cs := #[.int .i64 0, .int .u64 0]) (t := 107) ?hr ?_; (case hd => rfl); (case hg => rfl); (case hr => first | (go_simp; done) | (go_simp; rfl))
    intro gb286 hg w22 hbox hb
    have BK286 := zK (hbox)
    have GW286 := zK ((by rw [hg]; exact (below_size (zo HB)) : w.heap.size ≤ gb286))
    have GE286 := zK ((by rw [hg]; exact (below_size (zo HB)) : w.heap.size ≤ gb286))
    replace HB := zK (below_step (zo HB) hb)
    have NB281_286 := zK ((by rw [hg]; exact Nat.ne_of_lt (blk_lt (g := gb281) (o := .cells #[.int .i64 a0_0, .int .u64 a0_1, .int .i64 a0_2, .int .u64 a0_3] 109 (0, 0)) (zb BK281)) : gb281 ≠ gb286))
    have NB286_281 := zK ((by rw [hg]; exact Nat.ne_of_gt (blk_lt (g := gb281) (o := .cells #[.int .i64 a0_0, .int .u64 a0_1, .int .i64 a0_2, .int .u64 a0_3] 109 (0, 0)) (zb BK281)) : gb286 ≠ gb281))
    replace BK281 := zK (blk_below (g := gb281) (o := .cells #[.int .i64 a0_0, .int .u64 a0_1, .int .i64 a0_2, .int .u64 a0_3] 109 (0, 0)) (zb BK281) hb)
    clear hb hbox hg
    refine hK.out _ _ ⟨(blk_cell BK281.out 0).trans rfl, (blk_cell BK281.out 1).trans rfl, (blk_cell BK281.out 2).trans rfl, (blk_cell BK281.out 3).trans rfl⟩ (fun hHeld => ?_)
    clear hK K
    refine norm_ (a' := ?_) ?_ ?_; rotate_left; (show Act.put _ (some 4) _ = _; simp only [Act.put, zt, zz, zs, i64_w, i32_w]; rfl)
    refine one_ (i := 5) (N := some 12) #[T_,T_,T_,T_,T_,T_,F_,T_,F_] rfl rfl (one_of HT_.out (by kernel_rfl)) (by decide) (fun K hK => ?_)
    refine goes_ Try.func81 (by kernel_rfl) rfl #[.int .i64 a0_2] (by rfl) rfl rfl (by (try simp only [List.map_toArray, List.map_cons, List.map_nil]); first | done | rfl | (simp only [List.length_drop, List.length_take]; rfl)) ?_
    with_reducible refine (sequiturref01_Of.calls a0_2 t282 t283 _ A2.out).mono ?_
    rintro e w23 ⟨rfl, hb⟩
    refine ⟨_, rfl, ?_⟩
    replace BK281 := zK (blk_below (g := gb281) (o := .cells #[.int .i64 a0_0, .int .u64 a0_1, .int .i64 a0_2, .int .u64 a0_3] 109 (0, 0)) (zb BK281) hb)
    replace BK286 := zK (blk_below (g := gb286) (o := .cells #[.int .i64 0, .int .u64 0] 107 (0, 0)) (zb BK286) hb)
    replace HB := zK (below_step (zo HB) hb)
    (try clear hb); (try clear hb2); (try clear hk); (try clear hi)
    refine hK.out _ _ ⟨(blk_cell BK281.out 0).trans rfl, (blk_cell BK281.out 1).trans rfl, (blk_cell BK281.out 2).trans rfl, (blk_cell BK281.out 3).trans rfl⟩ (fun hHeld => ?_)
    clear hK K
    refine norm_ (a' := ?_) ?_ ?_; rotate_left; (show Act.put _ (some 12) _ = _; simp only [Act.put, zt, zz, zs, i64_w, i32_w]; rfl)
    refine one_ (i := 6) (N := some 13) #[T_,T_,T_,T_,T_,T_,T_,T_,F_] rfl rfl (one_of HT_.out (by kernel_rfl)) (by decide) (fun K hK => ?_)
    refine goes_ Try.func79 (by kernel_rfl) rfl #[.agg #[.int .i64 a0_0, .int .u64 a0_1], .agg #[.int .i64 t282, .int .u64 t283]] (by rfl) rfl rfl (by (try simp only [List.map_toArray, List.map_cons, List.map_nil]); first | done | rfl | (simp only [List.length_drop, List.length_take]; rfl)) ?_
    with_reducible refine (sequiturref01_Plus.calls a0_0 a0_1 t282 t283 t284 t285 _ A3.out).mono ?_
    rintro e w24 ⟨rfl, hb⟩
    refine ⟨_, rfl, ?_⟩
    replace BK281 := zK (blk_below (g := gb281) (o := .cells #[.int .i64 a0_0, .int .u64 a0_1, .int .i64 a0_2, .int .u64 a0_3] 109 (0, 0)) (zb BK281) hb)
    replace BK286 := zK (blk_below (g := gb286) (o := .cells #[.int .i64 0, .int .u64 0] 107 (0, 0)) (zb BK286) hb)
    replace HB := zK (below_step (zo HB) hb)
    (try clear hb); (try clear hb2); (try clear hk); (try clear hi)
    refine hK.out _ _ ⟨(blk_cell BK281.out 0).trans rfl, (blk_cell BK281.out 1).trans rfl, (blk_cell BK281.out 2).trans rfl, (blk_cell BK281.out 3).trans rfl⟩ (fun hHeld => ?_)
    clear hK K
    refine norm_ (a' := ?_) ?_ ?_; rotate_left; (show Act.put _ (some 13) _ = _; simp only [Act.put, zt, zz, zs, i64_w, i32_w]; rfl)
    exact norm_ (by simp only [putAll, Act.put, zt, zz, zs]) (hCont (gb286) _ ⟨hHeld, (zb BK281), (zb BK286), GW286.out, GE286.out, NB281_286.out, NB286_281.out, (zo HB)⟩)
  rintro gb286 w25 ⟨hS_, h0_, h1_, h2_, h3_, h4_, h5_, h6_⟩
  have n0_ : Aside0 (w25.heap[gb281]? = some (.cells #[.int .i64 a0_0, .int .u64 a0_1, .int .i64 a0_2, .int .u64 a0_3] 109 (0, 0))) := ⟨h0_⟩
  have n1_ : Aside0 (w25.heap[gb286]? = some (.cells #[.int .i64 0, .int .u64 0] 107 (0, 0))) := ⟨h1_⟩
  have n2_ : Aside0 (w.heap.size ≤ gb286) := ⟨h2_⟩
  have n3_ : Aside0 (w.heap.size ≤ gb286) := ⟨h3_⟩
  have n4_ : Aside0 (gb281 ≠ gb286) := ⟨h4_⟩
  have n5_ : Aside0 (gb286 ≠ gb281) := ⟨h5_⟩
  have n6_ : Aside0 (Below w.heap.size w w25) := ⟨h6_⟩; clear BK281 HB h0_ h1_ h2_ h3_ h4_ h5_ h6_
  have BK281 := n0_
  have BK286 := n1_
  have GW286 := n2_
  have GE286 := n3_
  have NB281_286 := n4_
  have NB286_281 := n5_
  have HB := n6_; clear n0_ n1_ n2_ n3_ n4_ n5_ n6_
  have hHeld : w25.cell? ⟨gb281, 0, none⟩ = some (.int .i64 a0_0) ∧ w25.cell? ⟨gb281, 1, none⟩ = some (.int .u64 a0_1) ∧ w25.cell? ⟨gb281, 2, none⟩ = some (.int .i64 a0_2) ∧ w25.cell? ⟨gb281, 3, none⟩ = some (.int .u64 a0_3) := hS_
  refine norm_ (a' := ?_) ?_ ?_
  rotate_left
  ·simp only [putAll, Act.put, zt, zz, zs]
   rfl
  refine one_ (i := 8) (N := none) #[T_,T_,T_,T_,T_,T_,T_,T_,T_] rfl rfl (one_of HT_.out (by kernel_rfl)) (by decide) (fun K hK => ?_)
  have hs26 : w25.cell? ⟨gb286, 0, none⟩ = some (.int .i64 0) := (blk_cell BK286.out 0).trans rfl
  have hfs26 := blk_frozen BK286.out 0
  have hns26_0 := NB281_286.out
  have hms26_0 := NB286_281.out
  have hs27 : w25.cell? ⟨gb286, 1, none⟩ = some (.int .u64 0) := (blk_cell BK286.out 1).trans rfl
  have hfs27 := blk_frozen BK286.out 1
  have hns27_0 := NB281_286.out
  have hms27_0 := NB286_281.out
  refine skip_ (w1 := ?_) (by rfl) rfl ?_ ?_
  rotate_left
  ·go_simp
   rfl
  refine hK.out _ _ ⟨((cell_far (p := ⟨gb286, _, none⟩) NB281_286.out _).trans (((cell_far (p := ⟨gb286, _, none⟩) NB281_286.out _).trans (hHeld.1)))), ((cell_far (p := ⟨gb286, _, none⟩) NB281_286.out _).trans (((cell_far (p := ⟨gb286, _, none⟩) NB281_286.out _).trans (hHeld.2.1)))), ((cell_far (p := ⟨gb286, _, none⟩) NB281_286.out _).trans (((cell_far (p := ⟨gb286, _, none⟩) NB281_286.out _).trans (hHeld.2.2.1)))), ((cell_far (p := ⟨gb286, _, none⟩) NB281_286.out _).trans (((cell_far (p := ⟨gb286, _, none⟩) NB281_286.out _).trans (hHeld.2.2.2))))⟩ (fun hHeld => ?_)
  clear hK K
  refine done_ (done_of HT_.out (by kernel_rfl)) ?_
  have hnb28 := NB286_281.out
  have hnc28 := NB281_286.out
  have hcz29_0 : w25.cell? ⟨gb286, 0, none⟩ = some (.int .i64 0) := (blk_cell BK286.out 0).trans rfl
  have hcz29_1 : w25.cell? ⟨gb286, 1, none⟩ = some (.int .u64 0) := (blk_cell BK286.out 1).trans rfl
  have hfz29_0 := blk_frozen BK286.out 0
  have hfz29_1 := blk_frozen BK286.out 1
  try go_wp2_with (first | ((with_reducible refine zC (f := 96) rfl ?_); refine goesL_ (some 16) rfl rfl Try.func96 (by kernel_rfl) rfl #[.agg #[.int .i64 t284, .int .u64 t285]] rfl (by (try simp only [List.map_toArray, List.map_cons, List.map_nil]); first | done | rfl | (simp only [List.length_drop, List.length_take]; rfl)) ?_; (with_reducible refine (sequiturref01_Fits.calls t284 t285 t287 false _ A4.out).mono ?_); rintro e w30 ⟨rfl, hb⟩; refine ⟨_, rfl, ?_⟩; replace BK281 := zK (blk_below (g := gb281) (o := .cells #[.int .i64 a0_0, .int .u64 a0_1, .int .i64 a0_2, .int .u64 a0_3] 109 (0, 0)) (zb BK281) hb); replace BK286 := zK (blk_below (g := gb286) (o := .cells #[.int .i64 t284, .int .u64 t285] 107 (0, 0)) (by refine zM ?_; refine blk_put (cs := #[.int .i64 t284, .int .u64 0]) ?_ 1 _ rfl; refine zM ?_; refine blk_put (cs := #[.int .i64 0, .int .u64 0]) ?_ 0 _ rfl; refine zM ?_; exact BK286.out) hb); replace HB := zK (below_step (zo HB) hb); (try clear hb); (try clear hb2); (try clear hk); (try clear hi)))
  go_ret2
  exact ⟨by first | rfl | (simp [errW_none, errW_some] <;> rfl) | (simp [*, errW_none, errW_some] <;> rfl), zo HB⟩

end Go.Proofs.Ytkfbfgkdabljiaa.PShadowBetween
