/- What the call of each function that the law reaches comes to: it answers as the plain function of the same name does, wherever that one answers; and the law itself out of its plain form. Written by a program of this session (an extended copy of the printer); no condition but what stands in each theorem. -/
import Derived.Test.YtmedciidghmkkaaPIneqTurnsx0
namespace Go.Proofs.Ytmedciidghmkkaa.PIneqTurns
open Go.RowKit Go.Proofs.YtmedciidghmkkaaW.PrintWords Go.Proofs.YtmedciidghmkkaaW.PrintLast Go.Proofs.YtmedciidghmkkaaW.PrintMore
open Go.Proofs.YtmedciidghmkkaaW.PrintWords renaming blk_drewN → zN, blk_drew → zD, blk_alloc → zA, below_alloc → yA, pw_below_drewN → yN, below_drew1 → yD, below_set → yS, gate_callee → zC
open Go.Proofs.YtmedciidghmkkaaW.PrintWords.Aside0 renaming mk → zK
attribute [local go_sem] max2_int min2_int max_two min_two max_three min_three max_four min_four   -- for this text's walks alone
set_option linter.unusedVariables false
set_option linter.unusedSimpArgs false

/-! ### sequiturref01_Fits: function 67 -/
def sequiturref01_Fits.f (a0_0 : Int) (a0_1 : Int) : Option (Int × Bool) := if a0_0 = 0 then (if (wrap64 (a0_1)) ≥ 0 then (some (wrap64 (a0_1), true)) else (if a0_0 = (-1) then (if (wrap64 (a0_1)) < 0 then (some (wrap64 (a0_1), true)) else (some (0, false))) else (some (0, false)))) else (if a0_0 = (-1) then (if (wrap64 (a0_1)) < 0 then (some (wrap64 (a0_1), true)) else (some (0, false))) else (some (0, false)))
set_option maxHeartbeats 8000000 in
set_option maxRecDepth 100000 in
theorem sequiturref01_Fits.calls (a0_0 : Int) (a0_1 : Int) (r1 : Int) (r2 : Bool) (w : World) (h : sequiturref01_Fits.f a0_0 a0_1 = some (r1, r2)) :
  Calls Try.prog 67 #[.agg #[.int .i64 a0_0, .int .u64 a0_1]] w fun e w' => e = .returned (.tuple #[.int .i64 r1, .bool r2]) ∧ Below w.heap.size w w' := by
 have hu74 := Try.underlying74
 have HB := zK (Below.refl w.heap.size w)
 have H : (if a0_0 = 0 then (if (wrap64 (a0_1)) ≥ 0 then (some (wrap64 (a0_1), true)) else (if a0_0 = (-1) then (if (wrap64 (a0_1)) < 0 then (some (wrap64 (a0_1), true)) else (some (0, false))) else (some (0, false)))) else (if a0_0 = (-1) then (if (wrap64 (a0_1)) < 0 then (some (wrap64 (a0_1), true)) else (some (0, false))) else (some (0, false)))) = some (r1, r2) := h
 clear h
 by_cases c2 : a0_0 = 0
 ·rw [if_pos c2] at H
  have c2b0 : (a0_0 == 0) = true := beq_iff_eq.mpr c2
  have c2b1 : (a0_0 != 0) = false := bne_eq_false_iff_eq.mpr c2
  clear c2
  by_cases c3 : (wrap64 (a0_1)) ≥ 0
  ·rw [if_pos c3] at H
   have c3b0 : decide (0 ≤ (wrap64 (a0_1))) = true := decide_eq_true c3
   clear c3
   simp only [Option.some.injEq, Prod.mk.injEq] at H
   obtain ⟨rfl, rfl⟩ := H
   go_enter Try.func67, Try.ntmps67
   go_wp2_with (first | ((with_reducible refine gate_dst (N := 1) rfl ?_); refine box_event ?hg (N := 1) ?hd (cs := #[.int .i64 a0_0, .int .u64 a0_1]) (t := 74) ?hr ?_; (case hd => rfl); (case hg => rfl); (case hr => first | (go_simp; done) | (go_simp; rfl)); intro gb335 hg w4 hbox hb; have BK335 := zK (hbox); have GW335 := zK ((by rw [hg]; exact (below_size (zo HB)) : w.heap.size ≤ gb335)); have GE335 := zK ((by rw [hg]; exact (below_size (zo HB)) : w.heap.size ≤ gb335)); replace HB := zK (below_step (zo HB) hb); clear hb hbox hg; have hcz5_0 : w4.cell? ⟨gb335, 0, none⟩ = some (.int .i64 a0_0) := (blk_cell BK335.out 0).trans rfl; have hcz5_1 : w4.cell? ⟨gb335, 1, none⟩ = some (.int .u64 a0_1) := (blk_cell BK335.out 1).trans rfl; have hfz5_0 := blk_frozen BK335.out 0; have hfz5_1 := blk_frozen BK335.out 1))
   go_ret2
   exact ⟨by first | rfl | (simp [errW_none, errW_some] <;> rfl) | (simp [*, errW_none, errW_some] <;> rfl), zo HB⟩
  ·rw [if_neg c3] at H
   have c3b0 : decide (0 ≤ (wrap64 (a0_1))) = false := decide_eq_false c3
   clear c3
   by_cases c6 : a0_0 = (-1)
   ·rw [if_pos c6] at H
    have c6b0 : (a0_0 == (-1)) = true := beq_iff_eq.mpr c6
    have c6b1 : (a0_0 != (-1)) = false := bne_eq_false_iff_eq.mpr c6
    clear c6
    by_cases c7 : (wrap64 (a0_1)) < 0
    ·rw [if_pos c7] at H
     have c7b0 : decide ((wrap64 (a0_1)) < 0) = true := decide_eq_true c7
     clear c7
     simp only [Option.some.injEq, Prod.mk.injEq] at H
     obtain ⟨rfl, rfl⟩ := H
     go_enter Try.func67, Try.ntmps67
     go_wp2_with (first | ((with_reducible refine gate_dst (N := 1) rfl ?_); refine box_event ?hg (N := 1) ?hd (cs := #[.int .i64 a0_0, .int .u64 a0_1]) (t := 74) ?hr ?_; (case hd => rfl); (case hg => rfl); (case hr => first | (go_simp; done) | (go_simp; rfl)); intro gb335 hg w8 hbox hb; have BK335 := zK (hbox); have GW335 := zK ((by rw [hg]; exact (below_size (zo HB)) : w.heap.size ≤ gb335)); have GE335 := zK ((by rw [hg]; exact (below_size (zo HB)) : w.heap.size ≤ gb335)); replace HB := zK (below_step (zo HB) hb); clear hb hbox hg; have hcz9_0 : w8.cell? ⟨gb335, 0, none⟩ = some (.int .i64 a0_0) := (blk_cell BK335.out 0).trans rfl; have hcz9_1 : w8.cell? ⟨gb335, 1, none⟩ = some (.int .u64 a0_1) := (blk_cell BK335.out 1).trans rfl; have hfz9_0 := blk_frozen BK335.out 0; have hfz9_1 := blk_frozen BK335.out 1))
     go_ret2
     exact ⟨by first | rfl | (simp [errW_none, errW_some] <;> rfl) | (simp [*, errW_none, errW_some] <;> rfl), zo HB⟩
    ·rw [if_neg c7] at H
     have c7b0 : decide ((wrap64 (a0_1)) < 0) = false := decide_eq_false c7
     clear c7
     simp only [Option.some.injEq, Prod.mk.injEq] at H
     obtain ⟨rfl, rfl⟩ := H
     go_enter Try.func67, Try.ntmps67
     go_wp2_with (first | ((with_reducible refine gate_dst (N := 1) rfl ?_); refine box_event ?hg (N := 1) ?hd (cs := #[.int .i64 a0_0, .int .u64 a0_1]) (t := 74) ?hr ?_; (case hd => rfl); (case hg => rfl); (case hr => first | (go_simp; done) | (go_simp; rfl)); intro gb335 hg w10 hbox hb; have BK335 := zK (hbox); have GW335 := zK ((by rw [hg]; exact (below_size (zo HB)) : w.heap.size ≤ gb335)); have GE335 := zK ((by rw [hg]; exact (below_size (zo HB)) : w.heap.size ≤ gb335)); replace HB := zK (below_step (zo HB) hb); clear hb hbox hg; have hcz11_0 : w10.cell? ⟨gb335, 0, none⟩ = some (.int .i64 a0_0) := (blk_cell BK335.out 0).trans rfl; have hcz11_1 : w10.cell? ⟨gb335, 1, none⟩ = some (.int .u64 a0_1) := (blk_cell BK335.out 1).trans rfl; have hfz11_0 := blk_frozen BK335.out 0; have hfz11_1 := blk_frozen BK335.out 1))
     go_ret2
     exact ⟨by first | rfl | (simp [errW_none, errW_some] <;> rfl) | (simp [*, errW_none, errW_some] <;> rfl), zo HB⟩
   ·rw [if_neg c6] at H
    have c6b0 : (a0_0 == (-1)) = false := beq_eq_false_iff_ne.mpr c6
    have c6b1 : (a0_0 != (-1)) = true := bne_iff_ne.mpr c6
    simp only [Option.some.injEq, Prod.mk.injEq] at H
    obtain ⟨rfl, rfl⟩ := H
    go_enter Try.func67, Try.ntmps67
    go_wp2_with (first | ((with_reducible refine gate_dst (N := 1) rfl ?_); refine box_event ?hg (N := 1) ?hd (cs := #[.int .i64 a0_0, .int .u64 a0_1]) (t := 74) ?hr ?_; (case hd => rfl); (case hg => rfl); (case hr => first | (go_simp; done) | (go_simp; rfl)); intro gb335 hg w12 hbox hb; have BK335 := zK (hbox); have GW335 := zK ((by rw [hg]; exact (below_size (zo HB)) : w.heap.size ≤ gb335)); have GE335 := zK ((by rw [hg]; exact (below_size (zo HB)) : w.heap.size ≤ gb335)); replace HB := zK (below_step (zo HB) hb); clear hb hbox hg; have hcz13_0 : w12.cell? ⟨gb335, 0, none⟩ = some (.int .i64 a0_0) := (blk_cell BK335.out 0).trans rfl; have hcz13_1 : w12.cell? ⟨gb335, 1, none⟩ = some (.int .u64 a0_1) := (blk_cell BK335.out 1).trans rfl; have hfz13_0 := blk_frozen BK335.out 0; have hfz13_1 := blk_frozen BK335.out 1))
    go_ret2
    exact ⟨by first | rfl | (simp [errW_none, errW_some] <;> rfl) | (simp [*, errW_none, errW_some] <;> rfl), zo HB⟩
 ·rw [if_neg c2] at H
  have c2b0 : (a0_0 == 0) = false := beq_eq_false_iff_ne.mpr c2
  have c2b1 : (a0_0 != 0) = true := bne_iff_ne.mpr c2
  by_cases c14 : a0_0 = (-1)
  ·rw [if_pos c14] at H
   have c14b0 : (a0_0 == (-1)) = true := beq_iff_eq.mpr c14
   have c14b1 : (a0_0 != (-1)) = false := bne_eq_false_iff_eq.mpr c14
   clear c14
   by_cases c15 : (wrap64 (a0_1)) < 0
   ·rw [if_pos c15] at H
    have c15b0 : decide ((wrap64 (a0_1)) < 0) = true := decide_eq_true c15
    clear c15
    simp only [Option.some.injEq, Prod.mk.injEq] at H
    obtain ⟨rfl, rfl⟩ := H
    go_enter Try.func67, Try.ntmps67
    go_wp2_with (first | ((with_reducible refine gate_dst (N := 1) rfl ?_); refine box_event ?hg (N := 1) ?hd (cs := #[.int .i64 a0_0, .int .u64 a0_1]) (t := 74) ?hr ?_; (case hd => rfl); (case hg => rfl); (case hr => first | (go_simp; done) | (go_simp; rfl)); intro gb335 hg w16 hbox hb; have BK335 := zK (hbox); have GW335 := zK ((by rw [hg]; exact (below_size (zo HB)) : w.heap.size ≤ gb335)); have GE335 := zK ((by rw [hg]; exact (below_size (zo HB)) : w.heap.size ≤ gb335)); replace HB := zK (below_step (zo HB) hb); clear hb hbox hg; have hcz17_0 : w16.cell? ⟨gb335, 0, none⟩ = some (.int .i64 a0_0) := (blk_cell BK335.out 0).trans rfl; have hcz17_1 : w16.cell? ⟨gb335, 1, none⟩ = some (.int .u64 a0_1) := (blk_cell BK335.out 1).trans rfl; have hfz17_0 := blk_frozen BK335.out 0; have hfz17_1 := blk_frozen BK335.out 1))
    go_ret2
    exact ⟨by first | rfl | (simp [errW_none, errW_some] <;> rfl) | (simp [*, errW_none, errW_some] <;> rfl), zo HB⟩
   ·rw [if_neg c15] at H
    have c15b0 : decide ((wrap64 (a0_1)) < 0) = false := decide_eq_false c15
    clear c15
    simp only [Option.some.injEq, Prod.mk.injEq] at H
    obtain ⟨rfl, rfl⟩ := H
    go_enter Try.func67, Try.ntmps67
    go_wp2_with (first | ((with_reducible refine gate_dst (N := 1) rfl ?_); refine box_event ?hg (N := 1) ?hd (cs := #[.int .i64 a0_0, .int .u64 a0_1]) (t := 74) ?hr ?_; (case hd => rfl); (case hg => rfl); (case hr => first | (go_simp; done) | (go_simp; rfl)); intro gb335 hg w18 hbox hb; have BK335 := zK (hbox); have GW335 := zK ((by rw [hg]; exact (below_size (zo HB)) : w.heap.size ≤ gb335)); have GE335 := zK ((by rw [hg]; exact (below_size (zo HB)) : w.heap.size ≤ gb335)); replace HB := zK (below_step (zo HB) hb); clear hb hbox hg; have hcz19_0 : w18.cell? ⟨gb335, 0, none⟩ = some (.int .i64 a0_0) := (blk_cell BK335.out 0).trans rfl; have hcz19_1 : w18.cell? ⟨gb335, 1, none⟩ = some (.int .u64 a0_1) := (blk_cell BK335.out 1).trans rfl; have hfz19_0 := blk_frozen BK335.out 0; have hfz19_1 := blk_frozen BK335.out 1))
    go_ret2
    exact ⟨by first | rfl | (simp [errW_none, errW_some] <;> rfl) | (simp [*, errW_none, errW_some] <;> rfl), zo HB⟩
  ·rw [if_neg c14] at H
   have c14b0 : (a0_0 == (-1)) = false := beq_eq_false_iff_ne.mpr c14
   have c14b1 : (a0_0 != (-1)) = true := bne_iff_ne.mpr c14
   simp only [Option.some.injEq, Prod.mk.injEq] at H
   obtain ⟨rfl, rfl⟩ := H
   go_enter Try.func67, Try.ntmps67
   go_wp2_with (first | ((with_reducible refine gate_dst (N := 1) rfl ?_); refine box_event ?hg (N := 1) ?hd (cs := #[.int .i64 a0_0, .int .u64 a0_1]) (t := 74) ?hr ?_; (case hd => rfl); (case hg => rfl); (case hr => first | (go_simp; done) | (go_simp; rfl)); intro gb335 hg w20 hbox hb; have BK335 := zK (hbox); have GW335 := zK ((by rw [hg]; exact (below_size (zo HB)) : w.heap.size ≤ gb335)); have GE335 := zK ((by rw [hg]; exact (below_size (zo HB)) : w.heap.size ≤ gb335)); replace HB := zK (below_step (zo HB) hb); clear hb hbox hg; have hcz21_0 : w20.cell? ⟨gb335, 0, none⟩ = some (.int .i64 a0_0) := (blk_cell BK335.out 0).trans rfl; have hcz21_1 : w20.cell? ⟨gb335, 1, none⟩ = some (.int .u64 a0_1) := (blk_cell BK335.out 1).trans rfl; have hfz21_0 := blk_frozen BK335.out 0; have hfz21_1 := blk_frozen BK335.out 1))
   go_ret2
   exact ⟨by first | rfl | (simp [errW_none, errW_some] <;> rfl) | (simp [*, errW_none, errW_some] <;> rfl), zo HB⟩

/-! ### sequiturref28_Fits: function 52 -/
def sequiturref28_Fits.f (a0_0 : Int) (a0_1 : Int) (a0_2 : Int) : Option (Int × Bool) := (sequiturref01_Fits.f a0_0 a0_1).bind fun bt337 => (if bt337.2 = true then ((sequiturref01_Fits.f bt337.1 a0_2).bind fun bt339 => (some (bt339.1, bt339.2))) else (some (0, false)))
set_option maxHeartbeats 8000000 in
set_option maxRecDepth 100000 in
theorem sequiturref28_Fits.calls (a0_0 : Int) (a0_1 : Int) (a0_2 : Int) (r1 : Int) (r2 : Bool) (w : World) (h : sequiturref28_Fits.f a0_0 a0_1 a0_2 = some (r1, r2)) :
  Calls Try.prog 52 #[.agg #[.int .i64 a0_0, .int .u64 a0_1, .int .u64 a0_2]] w fun e w' => e = .returned (.tuple #[.int .i64 r1, .bool r2]) ∧ Below w.heap.size w w' := by
 have hu76 := Try.underlying76
 have hu74 := Try.underlying74
 have HB := zK (Below.refl w.heap.size w)
 have H : ((sequiturref01_Fits.f a0_0 a0_1).bind fun bt337 => (if bt337.2 = true then ((sequiturref01_Fits.f bt337.1 a0_2).bind fun bt339 => (some (bt339.1, bt339.2))) else (some (0, false)))) = some (r1, r2) := h
 clear h
 replace H := Option.bind_eq_some_iff.mp H
 obtain ⟨⟨t337, t338⟩, A20, H⟩ := H
 replace H : (if t338 = true then ((sequiturref01_Fits.f t337 a0_2).bind fun bt339 => (some (bt339.1, bt339.2))) else (some (0, false))) = some (r1, r2) := H
 have A2 := zK A20
 clear A20
 by_cases c3 : t338 = true
 ·subst c3
  have H1 : ((sequiturref01_Fits.f t337 a0_2).bind fun bt339 => (some (bt339.1, bt339.2))) = some (r1, r2) := by rw [if_pos rfl] at H; exact H
  clear H
  have H := H1
  clear H1
  replace H := Option.bind_eq_some_iff.mp H
  obtain ⟨⟨t339, t340⟩, A40, H⟩ := H
  replace H : (some (t339, t340)) = some (r1, r2) := H
  have A4 := zK A40
  clear A40
  simp only [Option.some.injEq, Prod.mk.injEq] at H
  obtain ⟨rfl, rfl⟩ := H
  go_enter Try.func52, Try.ntmps52
  go_wp2_with (first | ((with_reducible refine gate_dst (N := 1) rfl ?_); refine box_event ?hg (N := 1) ?hd (cs := #[.int .i64 a0_0, .int .u64 a0_1, .int .u64 a0_2]) (t := 76) ?hr ?_; (case hd => rfl); (case hg => rfl); (case hr => first | (go_simp; done) | (go_simp; rfl)); intro gb336 hg w5 hbox hb; have BK336 := zK (hbox); have GW336 := zK ((by rw [hg]; exact (below_size (zo HB)) : w.heap.size ≤ gb336)); have GE336 := zK ((by rw [hg]; exact (below_size (zo HB)) : w.heap.size ≤ gb336)); replace HB := zK (below_step (zo HB) hb); clear hb hbox hg; have hcz6_0 : w5.cell? ⟨gb336, 0, none⟩ = some (.int .i64 a0_0) := (blk_cell BK336.out 0).trans rfl; have hcz6_1 : w5.cell? ⟨gb336, 1, none⟩ = some (.int .u64 a0_1) := (blk_cell BK336.out 1).trans rfl; have hcz6_2 : w5.cell? ⟨gb336, 2, none⟩ = some (.int .u64 a0_2) := (blk_cell BK336.out 2).trans rfl; have hfz6_0 := blk_frozen BK336.out 0; have hfz6_1 := blk_frozen BK336.out 1; have hfz6_2 := blk_frozen BK336.out 2) | ((with_reducible refine zC (f := 67) rfl ?_); refine goesL_ (some 9) rfl rfl Try.func67 (by kernel_rfl) rfl #[.agg #[.int .i64 a0_0, .int .u64 a0_1]] rfl (by (try simp only [List.map_toArray, List.map_cons, List.map_nil]); first | done | rfl | (simp only [List.length_drop, List.length_take]; rfl)) ?_; (with_reducible refine (sequiturref01_Fits.calls a0_0 a0_1 t337 true _ A2.out).mono ?_); rintro e w7 ⟨rfl, hb⟩; refine ⟨_, rfl, ?_⟩; replace BK336 := zK (blk_below (g := gb336) (o := .cells #[.int .i64 a0_0, .int .u64 a0_1, .int .u64 a0_2] 76 (0, 0)) (zb BK336) hb); replace HB := zK (below_step (zo HB) hb); (try clear hb); (try clear hb2); (try clear hk); (try clear hi); have hcz8_0 : w7.cell? ⟨gb336, 0, none⟩ = some (.int .i64 a0_0) := (blk_cell BK336.out 0).trans rfl; have hcz8_1 : w7.cell? ⟨gb336, 1, none⟩ = some (.int .u64 a0_1) := (blk_cell BK336.out 1).trans rfl; have hcz8_2 : w7.cell? ⟨gb336, 2, none⟩ = some (.int .u64 a0_2) := (blk_cell BK336.out 2).trans rfl; have hfz8_0 := blk_frozen BK336.out 0; have hfz8_1 := blk_frozen BK336.out 1; have hfz8_2 := blk_frozen BK336.out 2) | ((with_reducible refine zC (f := 67) rfl ?_); refine goesL_ (some 18) rfl rfl Try.func67 (by kernel_rfl) rfl #[.agg #[.int .i64 t337, .int .u64 a0_2]] rfl (by (try simp only [List.map_toArray, List.map_cons, List.map_nil]); first | done | rfl | (simp only [List.length_drop, List.length_take]; rfl)) ?_; (with_reducible refine (sequiturref01_Fits.calls t337 a0_2 t339 t340 _ A4.out).mono ?_); rintro e w9 ⟨rfl, hb⟩; refine ⟨_, rfl, ?_⟩; replace BK336 := zK (blk_below (g := gb336) (o := .cells #[.int .i64 a0_0, .int .u64 a0_1, .int .u64 a0_2] 76 (0, 0)) (zb BK336) hb); replace HB := zK (below_step (zo HB) hb); (try clear hb); (try clear hb2); (try clear hk); (try clear hi)))
  go_ret2
  exact ⟨by first | rfl | (simp [errW_none, errW_some] <;> rfl) | (simp [*, errW_none, errW_some] <;> rfl), zo HB⟩
 ·replace c3 := Bool.eq_false_iff.mpr c3
  subst c3
  have H1 : (some (0, false)) = some (r1, r2) := by rw [if_neg (show ¬ (false = true) by decide)] at H; exact H
  clear H
  have H := H1
  clear H1
  simp only [Option.some.injEq, Prod.mk.injEq] at H
  obtain ⟨rfl, rfl⟩ := H
  go_enter Try.func52, Try.ntmps52
  go_wp2_with (first | ((with_reducible refine gate_dst (N := 1) rfl ?_); refine box_event ?hg (N := 1) ?hd (cs := #[.int .i64 a0_0, .int .u64 a0_1, .int .u64 a0_2]) (t := 76) ?hr ?_; (case hd => rfl); (case hg => rfl); (case hr => first | (go_simp; done) | (go_simp; rfl)); intro gb336 hg w10 hbox hb; have BK336 := zK (hbox); have GW336 := zK ((by rw [hg]; exact (below_size (zo HB)) : w.heap.size ≤ gb336)); have GE336 := zK ((by rw [hg]; exact (below_size (zo HB)) : w.heap.size ≤ gb336)); replace HB := zK (below_step (zo HB) hb); clear hb hbox hg; have hcz11_0 : w10.cell? ⟨gb336, 0, none⟩ = some (.int .i64 a0_0) := (blk_cell BK336.out 0).trans rfl; have hcz11_1 : w10.cell? ⟨gb336, 1, none⟩ = some (.int .u64 a0_1) := (blk_cell BK336.out 1).trans rfl; have hcz11_2 : w10.cell? ⟨gb336, 2, none⟩ = some (.int .u64 a0_2) := (blk_cell BK336.out 2).trans rfl; have hfz11_0 := blk_frozen BK336.out 0; have hfz11_1 := blk_frozen BK336.out 1; have hfz11_2 := blk_frozen BK336.out 2) | ((with_reducible refine zC (f := 67) rfl ?_); refine goesL_ (some 9) rfl rfl Try.func67 (by kernel_rfl) rfl #[.agg #[.int .i64 a0_0, .int .u64 a0_1]] rfl (by (try simp only [List.map_toArray, List.map_cons, List.map_nil]); first | done | rfl | (simp only [List.length_drop, List.length_take]; rfl)) ?_; (with_reducible refine (sequiturref01_Fits.calls a0_0 a0_1 t337 false _ A2.out).mono ?_); rintro e w12 ⟨rfl, hb⟩; refine ⟨_, rfl, ?_⟩; replace BK336 := zK (blk_below (g := gb336) (o := .cells #[.int .i64 a0_0, .int .u64 a0_1, .int .u64 a0_2] 76 (0, 0)) (zb BK336) hb); replace HB := zK (below_step (zo HB) hb); (try clear hb); (try clear hb2); (try clear hk); (try clear hi)))
  go_ret2
  exact ⟨by first | rfl | (simp [errW_none, errW_some] <;> rfl) | (simp [*, errW_none, errW_some] <;> rfl), zo HB⟩

/-! ### sequiturref28_By: function 53 -/
def sequiturref28_By.l0 : Nat → Int → Int → Int → List (S47) → Option (Int)
 | 0, _, _, _, _ => none
 | k + 1, x1, x5, x342000, x342001 => if x5 < (x342001.length : Int) then (if 0 ≤ x5 then (if ((rd_T47 x342001 x5).f0) = x1 then (some ((rd_T47 x342001 x5).f1)) else (sequiturref28_By.l0 k x1 (wrap64 (x5 + 1)) x342000 x342001)) else (none)) else (some 0)
def sequiturref28_By.f (k : Nat) (a0_0 : Int) (l0_1 : List (S47)) (a1 : Int) : Option (Int) := sequiturref28_By.l0 k a1 0 a0_0 l0_1
theorem sequiturref28_By.mono_l : ∀ k, (∀ y0 y1 y2 y3, LeO (sequiturref28_By.l0 k y0 y1 y2 y3) (sequiturref28_By.l0 (k + 1) y0 y1 y2 y3))
 | 0 => fun _ _ _ _ r h => by simp [sequiturref28_By.l0] at h
 | k + 1 => by
  have ih0 := sequiturref28_By.mono_l k
  ·intro y0 y1 y2 y3
   unfold sequiturref28_By.l0
   repeat' first
   | (with_reducible exact ih0 _ _ _ _)
   | (with_reducible exact LeO.refl _)
   | (with_reducible exact LeO.none _)
   | (with_reducible refine LeO.ite ?_ ?_)
   | (with_reducible refine LeO.bind ?_ (fun _ => ?_))
   | exact ih0 _ _ _ _
   | exact LeO.none _
   | refine LeO.ite ?_ ?_
   | refine LeO.bind ?_ (fun _ => ?_)
theorem sequiturref28_By.mono : ∀ a0 a1 a2 k, LeO (sequiturref28_By.f k a0 a1 a2) (sequiturref28_By.f (k + 1) a0 a1 a2) := by
 intro a0 a1 a2 k
 have ih0 := sequiturref28_By.mono_l k
 unfold sequiturref28_By.f
 repeat' first
   | (with_reducible exact ih0 _ _ _ _)
   | (with_reducible exact LeO.refl _)
   | (with_reducible exact LeO.none _)
   | (with_reducible refine LeO.ite ?_ ?_)
   | (with_reducible refine LeO.bind ?_ (fun _ => ?_))
   | exact ih0 _ _ _ _
   | exact LeO.none _
   | refine LeO.ite ?_ ?_
   | refine LeO.bind ?_ (fun _ => ?_)
set_option maxHeartbeats 8000000 in
set_option maxRecDepth 100000 in
theorem sequiturref28_By.calls (k : Nat) (a0_0 : Int) (A0_1 : Option Addr) (c0_1 : Nat) (l0_1 : List (S47)) (a1 : Int) (r : Int) (w : World) (hr0_1 : Kd.C k47 w A0_1 l0_1.length l0_1) (hc0_1 : l0_1.length ≤ c0_1) (h : sequiturref28_By.f k a0_0 l0_1 a1 = some r) :
  Calls Try.prog 53 #[.agg #[.int .i64 a0_0, .slice A0_1 l0_1.length c0_1], .int .i64 a1] w fun e w' => e = .returned (.int .i64 r) ∧ Below w.heap.size w w' := by
 have hu28 := Try.underlying28
 have HR0_1 := zK hr0_1
 have HC0_1 := zK hc0_1
 clear hr0_1 hc0_1
 have HB := zK (Below.refl w.heap.size w)
 have H : (sequiturref28_By.l0 k a1 0 a0_0 l0_1) = some r := h
 clear h
 have H' := zK H
 clear H
 go_enter Try.func53, Try.ntmps53
 go_wp2_with (first | ((with_reducible refine gate_dst (N := 2) rfl ?_); refine box_event ?hg (N := 2) ?hd (cs := #[.int .i64 a0_0, .slice A0_1 l0_1.length c0_1]) (t := 28) ?hr ?_; (case hd => rfl); (case hg => rfl); (case hr => first | (go_simp; done) | (go_simp; rfl)); intro gb341 hg w3 hbox hb; have BK341 := zK (hbox); have GW341 := zK ((by rw [hg]; exact (below_size (zo HB)) : w.heap.size ≤ gb341)); have GE341 := zK ((by rw [hg]; exact (below_size (zo HB)) : w.heap.size ≤ gb341)); replace HB := zK (below_step (zo HB) hb); clear hb hbox hg))
 go_loopg [5] k (fun kq v5 w' => ∃ (x5_1 : Int), v5 = .int .i64 x5_1 ∧ Aside0 (sequiturref28_By.l0 kq a1 x5_1 a0_0 l0_1 = some r) ∧ Aside0 (kq ≤ k) ∧ Aside0 (w'.heap[gb341]? = some (.cells #[.int .i64 a0_0, (.slice A0_1 l0_1.length c0_1)] 28 (0, 0))) ∧ Aside0 (Below w.heap.size w w'))
 case atStart => exact ⟨(0), (by first | rfl | (simp; done) | (simp [*]; done)), H', ⟨Nat.le_refl _⟩, ⟨zb BK341⟩, ⟨zo HB⟩⟩
 case round =>
  clear H'
  try clear p2
  obtain ⟨x5_1, rfl, HA, HK1, BK341, HB⟩ := hrel
  cases gk with
  | zero => exact absurd HA.out (by simp [sequiturref28_By.l0])
  | succ k1 =>
   have H := HA.out
   clear HA
   simp only [sequiturref28_By.l0] at H
   by_cases c4 : x5_1 < (l0_1.length : Int)
   ·rw [if_pos c4] at H
    have c4b0 : decide (x5_1 < (l0_1.length : Int)) = true := decide_eq_true c4
    clear c4
    by_cases c5 : 0 ≤ x5_1
    ·rw [if_pos c5] at H
     have c5b0 : decide (0 ≤ x5_1) = true := decide_eq_true c5
     clear c5
     by_cases c6 : ((rd_T47 l0_1 x5_1).f0) = a1
     ·rw [if_pos c6] at H
      have c6b0 : (((rd_T47 l0_1 x5_1).f0) == a1) = true := beq_iff_eq.mpr c6
      have c6b1 : (((rd_T47 l0_1 x5_1).f0) != a1) = false := bne_eq_false_iff_eq.mpr c6
      clear c6
      obtain rfl := Option.some.inj H
      have hcz7_0 : wr.cell? ⟨gb341, 0, none⟩ = some (.int .i64 a0_0) := (blk_cell BK341.out 0).trans rfl
      have hcz7_1 : wr.cell? ⟨gb341, 1, none⟩ = some (.slice A0_1 l0_1.length c0_1) := (blk_cell BK341.out 1).trans rfl
      have hfz7_0 := blk_frozen BK341.out 0
      have hfz7_1 := blk_frozen BK341.out 1
      have p342 : 0 ≤ (x5_1 : Int) := of_decide_eq_true (by first | (with_reducible assumption) | assumption)
      have q342 : x5_1 < (l0_1.length : Int) := of_decide_eq_true (by first | (with_reducible assumption) | assumption)
      obtain ⟨ad342, e342, hx342_0, hx342_1⟩ := at_T47 HR0_1.out x5_1 p342 q342
      cases e342
      replace hx342_0 := (HB.out.cell (World.block_lt_of_cell? w _ hx342_0)).trans hx342_0
      replace hx342_1 := (HB.out.cell (World.block_lt_of_cell? w _ hx342_1)).trans hx342_1
      replace p342 := eq_true p342
      replace q342 := eq_true q342
      have p343 : 0 ≤ (x5_1 : Int) := of_decide_eq_true (by first | (with_reducible assumption) | assumption)
      have q343 : x5_1 < (l0_1.length : Int) := of_decide_eq_true (by first | (with_reducible assumption) | assumption)
      obtain ⟨ad343, e343, hx343_0, hx343_1⟩ := at_T47 HR0_1.out x5_1 p343 q343
      obtain rfl : ad342 = ad343 := (by injection e343)
      replace hx343_0 := (HB.out.cell (World.block_lt_of_cell? w _ hx343_0)).trans hx343_0
      replace hx343_1 := (HB.out.cell (World.block_lt_of_cell? w _ hx343_1)).trans hx343_1
      replace p343 := eq_true p343
      replace q343 := eq_true q343
      go_wp2
      go_ret
      exact ⟨by first | rfl | (simp [errW_none, errW_some] <;> rfl) | (simp [*, errW_none, errW_some] <;> rfl), zo HB⟩
     ·rw [if_neg c6] at H
      have c6b0 : (((rd_T47 l0_1 x5_1).f0) == a1) = false := beq_eq_false_iff_ne.mpr c6
      have c6b1 : (((rd_T47 l0_1 x5_1).f0) != a1) = true := bne_iff_ne.mpr c6
      have H' := zK H
      clear H
      have hcz8_0 : wr.cell? ⟨gb341, 0, none⟩ = some (.int .i64 a0_0) := (blk_cell BK341.out 0).trans rfl
      have hcz8_1 : wr.cell? ⟨gb341, 1, none⟩ = some (.slice A0_1 l0_1.length c0_1) := (blk_cell BK341.out 1).trans rfl
      have hfz8_0 := blk_frozen BK341.out 0
      have hfz8_1 := blk_frozen BK341.out 1
      have p342 : 0 ≤ (x5_1 : Int) := of_decide_eq_true (by first | (with_reducible assumption) | assumption)
      have q342 : x5_1 < (l0_1.length : Int) := of_decide_eq_true (by first | (with_reducible assumption) | assumption)
      obtain ⟨ad342, e342, hx342_0, hx342_1⟩ := at_T47 HR0_1.out x5_1 p342 q342
      cases e342
      replace hx342_0 := (HB.out.cell (World.block_lt_of_cell? w _ hx342_0)).trans hx342_0
      replace hx342_1 := (HB.out.cell (World.block_lt_of_cell? w _ hx342_1)).trans hx342_1
      replace p342 := eq_true p342
      replace q342 := eq_true q342
      go_wp2
      go_roundg k1
      case measure => have := HK1.out; omega
      case rel => exact ⟨(wrap64 (x5_1 + 1)), (by first | rfl | (simp; done) | (simp [*]; done)), H', ⟨by have := HK1.out; omega⟩, ⟨zb BK341⟩, ⟨zo HB⟩⟩
    ·rw [if_neg c5] at H
     exact absurd H (by simp)
   ·rw [if_neg c4] at H
    have c4b0 : decide (x5_1 < (l0_1.length : Int)) = false := decide_eq_false c4
    clear c4
    obtain rfl := Option.some.inj H
    have hcz9_0 : wr.cell? ⟨gb341, 0, none⟩ = some (.int .i64 a0_0) := (blk_cell BK341.out 0).trans rfl
    have hcz9_1 : wr.cell? ⟨gb341, 1, none⟩ = some (.slice A0_1 l0_1.length c0_1) := (blk_cell BK341.out 1).trans rfl
    have hfz9_0 := blk_frozen BK341.out 0
    have hfz9_1 := blk_frozen BK341.out 1
    go_wp2
    go_ret
    exact ⟨by first | rfl | (simp [errW_none, errW_some] <;> rfl) | (simp [*, errW_none, errW_some] <;> rfl), zo HB⟩

end Go.Proofs.Ytmedciidghmkkaa.PIneqTurns
