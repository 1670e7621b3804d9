/- What the call of each function that the law reaches comes to: it answers as the plain function of the same name does, wherever that one answers; and the law itself out of its plain form. Written by a program of this session (an extended copy of the printer); no condition but what stands in each theorem. -/
import Derived.Test.YtkfbfgkdabljiaaPShadowHoldsx0
namespace Go.Proofs.Ytkfbfgkdabljiaa.PShadowHolds
open Go.RowKit Go.Proofs.YtkfbfgkdabljiaaW.PrintWords Go.Proofs.YtkfbfgkdabljiaaW.PrintLast Go.Proofs.YtkfbfgkdabljiaaW.PrintMore
open Go.Proofs.YtkfbfgkdabljiaaW.PrintWords renaming blk_drewN → zN, blk_drew → zD, blk_alloc → zA, below_alloc → yA, pw_below_drewN → yN, below_drew1 → yD, below_set → yS, gate_callee → zC
open Go.Proofs.YtkfbfgkdabljiaaW.PrintWords.Aside0 renaming mk → zK
open Bool renaming true → T_, false → F_
open List renaming setIfInBounds_toArray → zt, set_cons_zero → zz, set_cons_succ → zs
attribute [local go_sem] max2_int min2_int max_two min_two max_three min_three max_four min_four   -- for this text's walks alone
set_option linter.unusedVariables false
set_option linter.unusedSimpArgs false

/-! ### sequiturref01_Plus: function 79 -/
def sequiturref01_Plus.f (a0_0 : Int) (a0_1 : Int) (a1_0 : Int) (a1_1 : Int) : Option (Int × Int) := if (IntKind.u64.wrap (a0_1 + a1_1)) < a0_1 then (some (wrap64 ((wrap64 (a0_0 + a1_0)) + 1), IntKind.u64.wrap (a0_1 + a1_1))) else (some (wrap64 (a0_0 + a1_0), IntKind.u64.wrap (a0_1 + a1_1)))
set_option maxHeartbeats 8000000 in
set_option maxRecDepth 100000 in
theorem sequiturref01_Plus.calls (a0_0 : Int) (a0_1 : Int) (a1_0 : Int) (a1_1 : Int) (r1 : Int) (r2 : Int) (w : World) (h : sequiturref01_Plus.f a0_0 a0_1 a1_0 a1_1 = some (r1, r2)) :
  Calls Try.prog 79 #[.agg #[.int .i64 a0_0, .int .u64 a0_1], .agg #[.int .i64 a1_0, .int .u64 a1_1]] w fun e w' => e = .returned (.agg #[.int .i64 r1, .int .u64 r2]) ∧ Below w.heap.size w w' := by
 have hu107 := Try.underlying107
 have HB := zK (Below.refl w.heap.size w)
 have H : (if (IntKind.u64.wrap (a0_1 + a1_1)) < a0_1 then (some (wrap64 ((wrap64 (a0_0 + a1_0)) + 1), IntKind.u64.wrap (a0_1 + a1_1))) else (some (wrap64 (a0_0 + a1_0), IntKind.u64.wrap (a0_1 + a1_1)))) = some (r1, r2) := h
 clear h
 by_cases c3 : (IntKind.u64.wrap (a0_1 + a1_1)) < a0_1
 ·rw [if_pos c3] at H
  have c3b0 : decide ((IntKind.u64.wrap (a0_1 + a1_1)) < a0_1) = true := decide_eq_true c3
  clear c3
  simp only [Option.some.injEq, Prod.mk.injEq] at H
  obtain ⟨rfl, rfl⟩ := H
  go_enter Try.func79, Try.ntmps79
  go_wp2_with (first | ((with_reducible refine gate_dst (N := 2) rfl ?_); refine box_event ?hg (N := 2) ?hd (cs := #[.int .i64 a0_0, .int .u64 a0_1]) (t := 107) ?hr ?_; (case hd => rfl); (case hg => rfl); (case hr => first | (go_simp; done) | (go_simp; rfl)); intro gb293 hg w4 hbox hb; have BK293 := zK (hbox); have GW293 := zK ((by rw [hg]; exact (below_size (zo HB)) : w.heap.size ≤ gb293)); have GE293 := zK ((by rw [hg]; exact (below_size (zo HB)) : w.heap.size ≤ gb293)); replace HB := zK (below_step (zo HB) hb); clear hb hbox hg) | ((with_reducible refine gate_dst (N := 3) rfl ?_); refine box_event ?hg (N := 3) ?hd (cs := #[.int .i64 a1_0, .int .u64 a1_1]) (t := 107) ?hr ?_; (case hd => rfl); (case hg => rfl); (case hr => first | (go_simp; done) | (go_simp; rfl)); intro gb294 hg w5 hbox hb; have BK294 := zK (hbox); have GW294 := zK ((by rw [hg]; exact (below_size (zo HB)) : w.heap.size ≤ gb294)); have GE294 := zK ((by rw [hg]; exact (below_size (zo HB)) : w.heap.size ≤ gb294)); replace HB := zK (below_step (zo HB) hb); have NB293_294 := zK ((by rw [hg]; exact Nat.ne_of_lt (blk_lt (g := gb293) (o := .cells #[.int .i64 a0_0, .int .u64 a0_1] 107 (0, 0)) (zb BK293)) : gb293 ≠ gb294)); have NB294_293 := zK ((by rw [hg]; exact Nat.ne_of_gt (blk_lt (g := gb293) (o := .cells #[.int .i64 a0_0, .int .u64 a0_1] 107 (0, 0)) (zb BK293)) : gb294 ≠ gb293)); replace BK293 := zK (blk_below (g := gb293) (o := .cells #[.int .i64 a0_0, .int .u64 a0_1] 107 (0, 0)) (zb BK293) hb); clear hb hbox hg) | ((with_reducible refine gate_dst (N := 4) rfl ?_); refine box_event ?hg (N := 4) ?hd (cs := #[.int .i64 0, .int .u64 0]) (t := 107) ?hr ?_; (case hd => rfl); (case hg => rfl); (case hr => first | (go_simp; done) | (go_simp; rfl)); intro gb295 hg w6 hbox hb; have BK295 := zK (hbox); have GW295 := zK ((by rw [hg]; exact (below_size (zo HB)) : w.heap.size ≤ gb295)); have GE295 := zK ((by rw [hg]; exact (below_size (zo HB)) : w.heap.size ≤ gb295)); replace HB := zK (below_step (zo HB) hb); have NB293_295 := zK ((by rw [hg]; exact Nat.ne_of_lt (blk_lt (g := gb293) (o := .cells #[.int .i64 a0_0, .int .u64 a0_1] 107 (0, 0)) (zb BK293)) : gb293 ≠ gb295)); have NB295_293 := zK ((by rw [hg]; exact Nat.ne_of_gt (blk_lt (g := gb293) (o := .cells #[.int .i64 a0_0, .int .u64 a0_1] 107 (0, 0)) (zb BK293)) : gb295 ≠ gb293)); replace BK293 := zK (blk_below (g := gb293) (o := .cells #[.int .i64 a0_0, .int .u64 a0_1] 107 (0, 0)) (zb BK293) hb); have NB294_295 := zK ((by rw [hg]; exact Nat.ne_of_lt (blk_lt (g := gb294) (o := .cells #[.int .i64 a1_0, .int .u64 a1_1] 107 (0, 0)) (zb BK294)) : gb294 ≠ gb295)); have NB295_294 := zK ((by rw [hg]; exact Nat.ne_of_gt (blk_lt (g := gb294) (o := .cells #[.int .i64 a1_0, .int .u64 a1_1] 107 (0, 0)) (zb BK294)) : gb295 ≠ gb294)); replace BK294 := zK (blk_below (g := gb294) (o := .cells #[.int .i64 a1_0, .int .u64 a1_1] 107 (0, 0)) (zb BK294) hb); clear hb hbox hg; have hnb7 := NB293_294.out; have hnc7 := NB294_293.out; have hnb8 := NB293_295.out; have hnc8 := NB295_293.out; have hcz9_0 : w6.cell? ⟨gb293, 0, none⟩ = some (.int .i64 a0_0) := (blk_cell BK293.out 0).trans rfl; have hcz9_1 : w6.cell? ⟨gb293, 1, none⟩ = some (.int .u64 a0_1) := (blk_cell BK293.out 1).trans rfl; have hfz9_0 := blk_frozen BK293.out 0; have hfz9_1 := blk_frozen BK293.out 1; have hnb10 := NB294_295.out; have hnc10 := NB295_294.out; have hcz11_0 : w6.cell? ⟨gb294, 0, none⟩ = some (.int .i64 a1_0) := (blk_cell BK294.out 0).trans rfl; have hcz11_1 : w6.cell? ⟨gb294, 1, none⟩ = some (.int .u64 a1_1) := (blk_cell BK294.out 1).trans rfl; have hfz11_0 := blk_frozen BK294.out 0; have hfz11_1 := blk_frozen BK294.out 1; have hcz12_0 : w6.cell? ⟨gb295, 0, none⟩ = some (.int .i64 0) := (blk_cell BK295.out 0).trans rfl; have hcz12_1 : w6.cell? ⟨gb295, 1, none⟩ = some (.int .u64 0) := (blk_cell BK295.out 1).trans rfl; have hfz12_0 := blk_frozen BK295.out 0; have hfz12_1 := blk_frozen BK295.out 1))
  refine bodyPost_ret (results_cell_row rfl _ _ gb295 107 #[.int .i64 (wrap64 ((wrap64 (a0_0 + a1_0)) + 1)), .int .u64 (IntKind.u64.wrap (a0_1 + a1_1))] (0, 0) _ rfl (by refine zM ?_; refine blk_put (cs := #[.int .i64 (wrap64 ((wrap64 (a0_0 + a1_0)) + 1)), .int .u64 0]) ?_ 1 _ rfl; refine zM ?_; refine blk_put (cs := #[.int .i64 0, .int .u64 0]) ?_ 0 _ rfl; refine zM ?_; exact BK295.out) Try.underlying107 rfl (by kernel_rfl)) rfl ?_
  exact ⟨by first | rfl | (simp [errW_none, errW_some] <;> rfl) | (simp [*, errW_none, errW_some] <;> rfl), zo HB⟩
 ·rw [if_neg c3] at H
  have c3b0 : decide ((IntKind.u64.wrap (a0_1 + a1_1)) < a0_1) = false := decide_eq_false c3
  clear c3
  simp only [Option.some.injEq, Prod.mk.injEq] at H
  obtain ⟨rfl, rfl⟩ := H
  go_enter Try.func79, Try.ntmps79
  go_wp2_with (first | ((with_reducible refine gate_dst (N := 2) rfl ?_); refine box_event ?hg (N := 2) ?hd (cs := #[.int .i64 a0_0, .int .u64 a0_1]) (t := 107) ?hr ?_; (case hd => rfl); (case hg => rfl); (case hr => first | (go_simp; done) | (go_simp; rfl)); intro gb293 hg w13 hbox hb; have BK293 := zK (hbox); have GW293 := zK ((by rw [hg]; exact (below_size (zo HB)) : w.heap.size ≤ gb293)); have GE293 := zK ((by rw [hg]; exact (below_size (zo HB)) : w.heap.size ≤ gb293)); replace HB := zK (below_step (zo HB) hb); clear hb hbox hg) | ((with_reducible refine gate_dst (N := 3) rfl ?_); refine box_event ?hg (N := 3) ?hd (cs := #[.int .i64 a1_0, .int .u64 a1_1]) (t := 107) ?hr ?_; (case hd => rfl); (case hg => rfl); (case hr => first | (go_simp; done) | (go_simp; rfl)); intro gb294 hg w14 hbox hb; have BK294 := zK (hbox); have GW294 := zK ((by rw [hg]; exact (below_size (zo HB)) : w.heap.size ≤ gb294)); have GE294 := zK ((by rw [hg]; exact (below_size (zo HB)) : w.heap.size ≤ gb294)); replace HB := zK (below_step (zo HB) hb); have NB293_294 := zK ((by rw [hg]; exact Nat.ne_of_lt (blk_lt (g := gb293) (o := .cells #[.int .i64 a0_0, .int .u64 a0_1] 107 (0, 0)) (zb BK293)) : gb293 ≠ gb294)); have NB294_293 := zK ((by rw [hg]; exact Nat.ne_of_gt (blk_lt (g := gb293) (o := .cells #[.int .i64 a0_0, .int .u64 a0_1] 107 (0, 0)) (zb BK293)) : gb294 ≠ gb293)); replace BK293 := zK (blk_below (g := gb293) (o := .cells #[.int .i64 a0_0, .int .u64 a0_1] 107 (0, 0)) (zb BK293) hb); clear hb hbox hg) | ((with_reducible refine gate_dst (N := 4) rfl ?_); refine box_event ?hg (N := 4) ?hd (cs := #[.int .i64 0, .int .u64 0]) (t := 107) ?hr ?_; (case hd => rfl); (case hg => rfl); (case hr => first | (go_simp; done) | (go_simp; rfl)); intro gb295 hg w15 hbox hb; have BK295 := zK (hbox); have GW295 := zK ((by rw [hg]; exact (below_size (zo HB)) : w.heap.size ≤ gb295)); have GE295 := zK ((by rw [hg]; exact (below_size (zo HB)) : w.heap.size ≤ gb295)); replace HB := zK (below_step (zo HB) hb); have NB293_295 := zK ((by rw [hg]; exact Nat.ne_of_lt (blk_lt (g := gb293) (o := .cells #[.int .i64 a0_0, .int .u64 a0_1] 107 (0, 0)) (zb BK293)) : gb293 ≠ gb295)); have NB295_293 := zK ((by rw [hg]; exact Nat.ne_of_gt (blk_lt (g := gb293) (o := .cells #[.int .i64 a0_0, .int .u64 a0_1] 107 (0, 0)) (zb BK293)) : gb295 ≠ gb293)); replace BK293 := zK (blk_below (g := gb293) (o := .cells #[.int .i64 a0_0, .int .u64 a0_1] 107 (0, 0)) (zb BK293) hb); have NB294_295 := zK ((by rw [hg]; exact Nat.ne_of_lt (blk_lt (g := gb294) (o := .cells #[.int .i64 a1_0, .int .u64 a1_1] 107 (0, 0)) (zb BK294)) : gb294 ≠ gb295)); have NB295_294 := zK ((by rw [hg]; exact Nat.ne_of_gt (blk_lt (g := gb294) (o := .cells #[.int .i64 a1_0, .int .u64 a1_1] 107 (0, 0)) (zb BK294)) : gb295 ≠ gb294)); replace BK294 := zK (blk_below (g := gb294) (o := .cells #[.int .i64 a1_0, .int .u64 a1_1] 107 (0, 0)) (zb BK294) hb); clear hb hbox hg; have hnb16 := NB293_294.out; have hnc16 := NB294_293.out; have hnb17 := NB293_295.out; have hnc17 := NB295_293.out; have hcz18_0 : w15.cell? ⟨gb293, 0, none⟩ = some (.int .i64 a0_0) := (blk_cell BK293.out 0).trans rfl; have hcz18_1 : w15.cell? ⟨gb293, 1, none⟩ = some (.int .u64 a0_1) := (blk_cell BK293.out 1).trans rfl; have hfz18_0 := blk_frozen BK293.out 0; have hfz18_1 := blk_frozen BK293.out 1; have hnb19 := NB294_295.out; have hnc19 := NB295_294.out; have hcz20_0 : w15.cell? ⟨gb294, 0, none⟩ = some (.int .i64 a1_0) := (blk_cell BK294.out 0).trans rfl; have hcz20_1 : w15.cell? ⟨gb294, 1, none⟩ = some (.int .u64 a1_1) := (blk_cell BK294.out 1).trans rfl; have hfz20_0 := blk_frozen BK294.out 0; have hfz20_1 := blk_frozen BK294.out 1; have hcz21_0 : w15.cell? ⟨gb295, 0, none⟩ = some (.int .i64 0) := (blk_cell BK295.out 0).trans rfl; have hcz21_1 : w15.cell? ⟨gb295, 1, none⟩ = some (.int .u64 0) := (blk_cell BK295.out 1).trans rfl; have hfz21_0 := blk_frozen BK295.out 0; have hfz21_1 := blk_frozen BK295.out 1))
  refine bodyPost_ret (results_cell_row rfl _ _ gb295 107 #[.int .i64 (wrap64 (a0_0 + a1_0)), .int .u64 (IntKind.u64.wrap (a0_1 + a1_1))] (0, 0) _ rfl (by refine zM ?_; refine blk_put (cs := #[.int .i64 (wrap64 (a0_0 + a1_0)), .int .u64 0]) ?_ 1 _ rfl; refine zM ?_; refine blk_put (cs := #[.int .i64 0, .int .u64 0]) ?_ 0 _ rfl; refine zM ?_; exact BK295.out) Try.underlying107 rfl (by kernel_rfl)) rfl ?_
  exact ⟨by first | rfl | (simp [errW_none, errW_some] <;> rfl) | (simp [*, errW_none, errW_some] <;> rfl), zo HB⟩

/-! ### sequiturref01_Minus: function 80 -/
def sequiturref01_Minus.f (a0_0 : Int) (a0_1 : Int) : Option (Int × Int) := (sequiturref01_Plus.f (wrap64 ((-1) - a0_0)) (Go.bits .xor .u64 18446744073709551615 a0_1) 0 1).bind fun bt298 => (some (bt298.1, bt298.2))
set_option maxHeartbeats 8000000 in
set_option maxRecDepth 100000 in
theorem sequiturref01_Minus.calls (a0_0 : Int) (a0_1 : Int) (r1 : Int) (r2 : Int) (w : World) (h : sequiturref01_Minus.f a0_0 a0_1 = some (r1, r2)) :
  Calls Try.prog 80 #[.agg #[.int .i64 a0_0, .int .u64 a0_1]] w fun e w' => e = .returned (.agg #[.int .i64 r1, .int .u64 r2]) ∧ Below w.heap.size w w' := by
 have hu107 := Try.underlying107
 have HB := zK (Below.refl w.heap.size w)
 have H : ((sequiturref01_Plus.f (wrap64 ((-1) - a0_0)) (Go.bits .xor .u64 18446744073709551615 a0_1) 0 1).bind fun bt298 => (some (bt298.1, bt298.2))) = some (r1, r2) := h
 clear h; replace H := Option.bind_eq_some_iff.mp H
 obtain ⟨⟨t298, t299⟩, A20, H⟩ := H
 replace H : (some (t298, t299)) = some (r1, r2) := H
 have A2 := zK A20; clear A20
 simp only [Option.some.injEq, Prod.mk.injEq] at H
 obtain ⟨rfl, rfl⟩ := H
 go_enter Try.func80, Try.ntmps80
 go_wp2_with (first | ((with_reducible refine gate_dst (N := 1) rfl ?_); refine box_event ?hg (N := 1) ?hd (cs := #[.int .i64 a0_0, .int .u64 a0_1]) (t := 107) ?hr ?_; (case hd => rfl); (case hg => rfl); (case hr => first | (go_simp; done) | (go_simp; rfl)); intro gb296 hg w3 hbox hb; have BK296 := zK (hbox); have GW296 := zK ((by rw [hg]; exact (below_size (zo HB)) : w.heap.size ≤ gb296)); have GE296 := zK ((by rw [hg]; exact (below_size (zo HB)) : w.heap.size ≤ gb296)); replace HB := zK (below_step (zo HB) hb); clear hb hbox hg) | ((with_reducible refine gate_dst (N := 2) rfl ?_); refine box_event ?hg (N := 2) ?hd (cs := #[.int .i64 0, .int .u64 0]) (t := 107) ?hr ?_; (case hd => rfl); (case hg => rfl); (case hr => first | (go_simp; done) | (go_simp; rfl)); intro gb297 hg w4 hbox hb; have BK297 := zK (hbox); have GW297 := zK ((by rw [hg]; exact (below_size (zo HB)) : w.heap.size ≤ gb297)); have GE297 := zK ((by rw [hg]; exact (below_size (zo HB)) : w.heap.size ≤ gb297)); replace HB := zK (below_step (zo HB) hb); have NB296_297 := zK ((by rw [hg]; exact Nat.ne_of_lt (blk_lt (g := gb296) (o := .cells #[.int .i64 a0_0, .int .u64 a0_1] 107 (0, 0)) (zb BK296)) : gb296 ≠ gb297)); have NB297_296 := zK ((by rw [hg]; exact Nat.ne_of_gt (blk_lt (g := gb296) (o := .cells #[.int .i64 a0_0, .int .u64 a0_1] 107 (0, 0)) (zb BK296)) : gb297 ≠ gb296)); replace BK296 := zK (blk_below (g := gb296) (o := .cells #[.int .i64 a0_0, .int .u64 a0_1] 107 (0, 0)) (zb BK296) hb); clear hb hbox hg; have hnb5 := NB296_297.out; have hnc5 := NB297_296.out; have hcz6_0 : w4.cell? ⟨gb296, 0, none⟩ = some (.int .i64 a0_0) := (blk_cell BK296.out 0).trans rfl; have hcz6_1 : w4.cell? ⟨gb296, 1, none⟩ = some (.int .u64 a0_1) := (blk_cell BK296.out 1).trans rfl; have hfz6_0 := blk_frozen BK296.out 0; have hfz6_1 := blk_frozen BK296.out 1) | ((with_reducible refine zC (f := 79) rfl ?_); refine goesL_ (some 11) rfl rfl Try.func79 (by kernel_rfl) rfl #[.agg #[.int .i64 (wrap64 ((-1) - a0_0)), .int .u64 (Go.bits .xor .u64 18446744073709551615 a0_1)], .agg #[.int .i64 0, .int .u64 1]] rfl (by (try simp only [List.map_toArray, List.map_cons, List.map_nil]); first | done | rfl | (simp only [List.length_drop, List.length_take]; rfl)) ?_; (with_reducible refine (sequiturref01_Plus.calls (wrap64 ((-1) - a0_0)) (Go.bits .xor .u64 18446744073709551615 a0_1) 0 1 t298 t299 _ A2.out).mono ?_); rintro e w7 ⟨rfl, hb⟩; refine ⟨_, rfl, ?_⟩; replace BK296 := zK (blk_below (g := gb296) (o := .cells #[.int .i64 a0_0, .int .u64 a0_1] 107 (0, 0)) (zb BK296) hb); replace BK297 := zK (blk_below (g := gb297) (o := .cells #[.int .i64 0, .int .u64 0] 107 (0, 0)) (zb BK297) hb); replace HB := zK (below_step (zo HB) hb); (try clear hb); (try clear hb2); (try clear hk); (try clear hi); have hcz8_0 : w7.cell? ⟨gb297, 0, none⟩ = some (.int .i64 0) := (blk_cell BK297.out 0).trans rfl; have hcz8_1 : w7.cell? ⟨gb297, 1, none⟩ = some (.int .u64 0) := (blk_cell BK297.out 1).trans rfl; have hfz8_0 := blk_frozen BK297.out 0; have hfz8_1 := blk_frozen BK297.out 1))
 refine bodyPost_ret (results_cell_row rfl _ _ gb297 107 #[.int .i64 t298, .int .u64 t299] (0, 0) _ rfl (by refine zM ?_; refine blk_put (cs := #[.int .i64 t298, .int .u64 0]) ?_ 1 _ rfl; refine zM ?_; refine blk_put (cs := #[.int .i64 0, .int .u64 0]) ?_ 0 _ rfl; refine zM ?_; exact BK297.out) Try.underlying107 rfl (by kernel_rfl)) rfl ?_
 exact ⟨by first | rfl | (simp [errW_none, errW_some] <;> rfl) | (simp [*, errW_none, errW_some] <;> rfl), zo HB⟩

/-! ### sequiturref01_Of: function 81 -/
def sequiturref01_Of.f (a0 : Int) : Option (Int × Int) := if a0 < 0 then (some ((-1), IntKind.u64.wrap (a0))) else (some (0, IntKind.u64.wrap (a0)))
set_option maxHeartbeats 8000000 in
set_option maxRecDepth 100000 in
theorem sequiturref01_Of.calls (a0 : Int) (r1 : Int) (r2 : Int) (w : World) (h : sequiturref01_Of.f a0 = some (r1, r2)) :
  Calls Try.prog 81 #[.int .i64 a0] w fun e w' => e = .returned (.agg #[.int .i64 r1, .int .u64 r2]) ∧ Below w.heap.size w w' := by
 have hu107 := Try.underlying107
 have HB := zK (Below.refl w.heap.size w)
 have H : (if a0 < 0 then (some ((-1), IntKind.u64.wrap (a0))) else (some (0, IntKind.u64.wrap (a0)))) = some (r1, r2) := h
 clear h
 by_cases c2 : a0 < 0
 ·rw [if_pos c2] at H
  have c2b0 : decide (a0 < 0) = true := decide_eq_true c2; clear c2
  simp only [Option.some.injEq, Prod.mk.injEq] at H
  obtain ⟨rfl, rfl⟩ := H
  go_enter Try.func81, Try.ntmps81
  go_wp2_with (first | ((with_reducible refine gate_dst (N := 2) rfl ?_); refine box_event ?hg (N := 2) ?hd (cs := #[.int .i64 0, .int .u64 0]) (t := 107) ?hr ?_; (case hd => rfl); (case hg => rfl); (case hr => first | (go_simp; done) | (go_simp; rfl)); intro gb300 hg w3 hbox hb; have BK300 := zK (hbox); have GW300 := zK ((by rw [hg]; exact (below_size (zo HB)) : w.heap.size ≤ gb300)); have GE300 := zK ((by rw [hg]; exact (below_size (zo HB)) : w.heap.size ≤ gb300)); replace HB := zK (below_step (zo HB) hb); clear hb hbox hg; have hcz4_0 : w3.cell? ⟨gb300, 0, none⟩ = some (.int .i64 0) := (blk_cell BK300.out 0).trans rfl; have hcz4_1 : w3.cell? ⟨gb300, 1, none⟩ = some (.int .u64 0) := (blk_cell BK300.out 1).trans rfl; have hfz4_0 := blk_frozen BK300.out 0; have hfz4_1 := blk_frozen BK300.out 1))
  refine bodyPost_ret (results_cell_row rfl _ _ gb300 107 #[.int .i64 (-1), .int .u64 (IntKind.u64.wrap (a0))] (0, 0) _ rfl (by refine zM ?_; refine blk_put (cs := #[.int .i64 (-1), .int .u64 0]) ?_ 1 _ rfl; refine zM ?_; refine blk_put (cs := #[.int .i64 0, .int .u64 0]) ?_ 0 _ rfl; refine zM ?_; exact BK300.out) Try.underlying107 rfl (by kernel_rfl)) rfl ?_
  exact ⟨by first | rfl | (simp [errW_none, errW_some] <;> rfl) | (simp [*, errW_none, errW_some] <;> rfl), zo HB⟩
 ·rw [if_neg c2] at H
  have c2b0 : decide (a0 < 0) = false := decide_eq_false c2; clear c2
  simp only [Option.some.injEq, Prod.mk.injEq] at H
  obtain ⟨rfl, rfl⟩ := H
  go_enter Try.func81, Try.ntmps81
  go_wp2_with (first | ((with_reducible refine gate_dst (N := 2) rfl ?_); refine box_event ?hg (N := 2) ?hd (cs := #[.int .i64 0, .int .u64 0]) (t := 107) ?hr ?_; (case hd => rfl); (case hg => rfl); (case hr => first | (go_simp; done) | (go_simp; rfl)); intro gb300 hg w5 hbox hb; have BK300 := zK (hbox); have GW300 := zK ((by rw [hg]; exact (below_size (zo HB)) : w.heap.size ≤ gb300)); have GE300 := zK ((by rw [hg]; exact (below_size (zo HB)) : w.heap.size ≤ gb300)); replace HB := zK (below_step (zo HB) hb); clear hb hbox hg; have hcz6_0 : w5.cell? ⟨gb300, 0, none⟩ = some (.int .i64 0) := (blk_cell BK300.out 0).trans rfl; have hcz6_1 : w5.cell? ⟨gb300, 1, none⟩ = some (.int .u64 0) := (blk_cell BK300.out 1).trans rfl; have hfz6_0 := blk_frozen BK300.out 0; have hfz6_1 := blk_frozen BK300.out 1))
  refine bodyPost_ret (results_cell_row rfl _ _ gb300 107 #[.int .i64 0, .int .u64 (IntKind.u64.wrap (a0))] (0, 0) _ rfl (by refine zM ?_; refine blk_put (cs := #[.int .i64 0, .int .u64 0]) ?_ 1 _ rfl; refine zM ?_; refine blk_put (cs := #[.int .i64 0, .int .u64 0]) ?_ 0 _ rfl; refine zM ?_; exact BK300.out) Try.underlying107 rfl (by kernel_rfl)) rfl ?_
  exact ⟨by first | rfl | (simp [errW_none, errW_some] <;> rfl) | (simp [*, errW_none, errW_some] <;> rfl), zo HB⟩

/-! ### sequiturref01_Far: function 102 -/
def sequiturref01_Far.f (a0 : Int) : Option (Int) := if a0 < 0 then (some (IntKind.u64.wrap (-(IntKind.u64.wrap (a0))))) else (some (IntKind.u64.wrap (a0)))
set_option maxHeartbeats 8000000 in
set_option maxRecDepth 100000 in
theorem sequiturref01_Far.calls (a0 : Int) (r : Int) (w : World) (h : sequiturref01_Far.f a0 = some r) :
  Calls Try.prog 102 #[.int .i64 a0] w fun e w' => e = .returned (.int .u64 r) ∧ Drawn0 w w' := by
 have H : (if a0 < 0 then (some (IntKind.u64.wrap (-(IntKind.u64.wrap (a0))))) else (some (IntKind.u64.wrap (a0)))) = some r := h
 clear h
 by_cases c2 : a0 < 0
 ·rw [if_pos c2] at H
  have c2b0 : decide (a0 < 0) = true := decide_eq_true c2; clear c2
  obtain rfl := Option.some.inj H
  go_enter Try.func102, Try.ntmps102
  go_wp2
  go_ret
  exact ⟨by first | rfl | (simp; done) | (simp [*]; done), by repeat (first | exact Drawn0.refl _ | apply Drawn0.step)⟩
 ·rw [if_neg c2] at H
  have c2b0 : decide (a0 < 0) = false := decide_eq_false c2; clear c2
  obtain rfl := Option.some.inj H
  go_enter Try.func102, Try.ntmps102
  go_wp2
  go_ret
  exact ⟨by first | rfl | (simp; done) | (simp [*]; done), by repeat (first | exact Drawn0.refl _ | apply Drawn0.step)⟩

/-! ### sequiturref01_Times: function 78 -/
mutual
def sequiturref01_Times.j0 : Nat → Int → Int → Int → Option (Int × Int)
 | 0, _, _, _ => none
 | k + 1, x1, x305000, x305001 => (sequiturref01_Far.f x1).bind fun t308 => (sequiturref01_Times.l0 k t308 x305000 x305001 0 0)
def sequiturref01_Times.l0 : Nat → Int → Int → Int → Int → Int → Option (Int × Int)
 | 0, _, _, _, _, _ => none
 | k + 1, x7, x305000, x305001, x308000, x308001 => if x7 > 0 then (if (Int.tmod x7 2) = 1 then ((sequiturref01_Plus.f x308000 x308001 x305000 x305001).bind fun bt309 => ((sequiturref01_Plus.f x305000 x305001 x305000 x305001).bind fun bt311 => (sequiturref01_Times.l0 k (IntKind.u64.wrap (Int.tdiv x7 2)) bt311.1 bt311.2 bt309.1 bt309.2))) else ((sequiturref01_Plus.f x305000 x305001 x305000 x305001).bind fun bt313 => (sequiturref01_Times.l0 k (IntKind.u64.wrap (Int.tdiv x7 2)) bt313.1 bt313.2 x308000 x308001))) else (some (x308000, x308001))
end
def sequiturref01_Times.f (k : Nat) (a0 : Int) (a1 : Int) : Option (Int × Int) := (sequiturref01_Of.f a0).bind fun bt302 => (if a1 < 0 then ((sequiturref01_Minus.f bt302.1 bt302.2).bind fun bt305 => (sequiturref01_Times.j0 k a1 bt305.1 bt305.2)) else (sequiturref01_Times.j0 k a1 bt302.1 bt302.2))
theorem sequiturref01_Times.mono_l : ∀ k, (∀ y0 y1 y2, LeO (sequiturref01_Times.j0 k y0 y1 y2) (sequiturref01_Times.j0 (k + 1) y0 y1 y2)) ∧ (∀ y0 y1 y2 y3 y4, LeO (sequiturref01_Times.l0 k y0 y1 y2 y3 y4) (sequiturref01_Times.l0 (k + 1) y0 y1 y2 y3 y4))
 | 0 => ⟨fun _ _ _ r h => by simp [sequiturref01_Times.j0] at h, fun _ _ _ _ _ r h => by simp [sequiturref01_Times.l0] at h⟩
 | k + 1 => by
  obtain ⟨ih0, ih1⟩ := sequiturref01_Times.mono_l k
  refine ⟨?_, ?_⟩
  ·intro y0 y1 y2
   unfold sequiturref01_Times.j0
   repeat' first
   | (with_reducible exact ih0 _ _ _)
   | (with_reducible exact ih1 _ _ _ _ _)
   | (with_reducible exact LeO.refl _)
   | (with_reducible exact LeO.none _)
   | (with_reducible refine LeO.ite ?_ ?_)
   | (with_reducible refine LeO.bind ?_ (fun _ => ?_))
   | exact ih0 _ _ _
   | exact ih1 _ _ _ _ _
   | exact LeO.none _
   | refine LeO.ite ?_ ?_
   | refine LeO.bind ?_ (fun _ => ?_)
  ·intro y0 y1 y2 y3 y4
   unfold sequiturref01_Times.l0
   repeat' first
   | (with_reducible exact ih0 _ _ _)
   | (with_reducible exact ih1 _ _ _ _ _)
   | (with_reducible exact LeO.refl _)
   | (with_reducible exact LeO.none _)
   | (with_reducible refine LeO.ite ?_ ?_)
   | (with_reducible refine LeO.bind ?_ (fun _ => ?_))
   | exact ih0 _ _ _
   | exact ih1 _ _ _ _ _
   | exact LeO.none _
   | refine LeO.ite ?_ ?_
   | refine LeO.bind ?_ (fun _ => ?_)
theorem sequiturref01_Times.mono : ∀ a0 a1 k, LeO (sequiturref01_Times.f k a0 a1) (sequiturref01_Times.f (k + 1) a0 a1) := by
 intro a0 a1 k
 obtain ⟨ih0, ih1⟩ := sequiturref01_Times.mono_l k
 unfold sequiturref01_Times.f
 repeat' first
   | (with_reducible exact ih0 _ _ _)
   | (with_reducible exact ih1 _ _ _ _ _)
   | (with_reducible exact LeO.refl _)
   | (with_reducible exact LeO.none _)
   | (with_reducible refine LeO.ite ?_ ?_)
   | (with_reducible refine LeO.bind ?_ (fun _ => ?_))
   | exact ih0 _ _ _
   | exact ih1 _ _ _ _ _
   | exact LeO.none _
   | refine LeO.ite ?_ ?_
   | refine LeO.bind ?_ (fun _ => ?_)
set_option maxHeartbeats 8000000 in
set_option maxRecDepth 100000 in
theorem sequiturref01_Times.calls (k : Nat) (a0 : Int) (a1 : Int) (r1 : Int) (r2 : Int) (w : World) (h : sequiturref01_Times.f k a0 a1 = some (r1, r2)) :
  Calls Try.prog 78 #[.int .i64 a0, .int .i64 a1] w fun e w' => e = .returned (.agg #[.int .i64 r1, .int .u64 r2]) ∧ Below w.heap.size w w' := by
 have hu107 := Try.underlying107
 have HB := zK (Below.refl w.heap.size w)
 have H : ((sequiturref01_Of.f a0).bind fun bt302 => (if a1 < 0 then ((sequiturref01_Minus.f bt302.1 bt302.2).bind fun bt305 => (sequiturref01_Times.j0 k a1 bt305.1 bt305.2)) else (sequiturref01_Times.j0 k a1 bt302.1 bt302.2))) = some (r1, r2) := h
 clear h; replace H := Option.bind_eq_some_iff.mp H
 obtain ⟨⟨t302, t303⟩, A30, H⟩ := H
 replace H : (if a1 < 0 then ((sequiturref01_Minus.f t302 t303).bind fun bt305 => (sequiturref01_Times.j0 k a1 bt305.1 bt305.2)) else (sequiturref01_Times.j0 k a1 t302 t303)) = some (r1, r2) := H
 have A3 := zK A30; clear A30
 have HC4 := zK H; clear H
 go_enter Try.func78, Try.ntmps78
 go_upto_if 11 with (first | ((with_reducible refine gate_dst (N := 4) rfl ?_); refine box_event ?hg (N := 4) ?hd (cs := #[.int .i64 0, .int .u64 0]) (t := 107) ?hr ?_; (case hd => rfl); (case hg => rfl); (case hr => first | (go_simp; done) | (go_simp; rfl)); intro gb301 hg w5 hbox hb; have BK301 := zK (hbox); have GW301 := zK ((by rw [hg]; exact (below_size (zo HB)) : w.heap.size ≤ gb301)); have GE301 := zK ((by rw [hg]; exact (below_size (zo HB)) : w.heap.size ≤ gb301)); replace HB := zK (below_step (zo HB) hb); clear hb hbox hg) | ((with_reducible refine zC (f := 81) rfl ?_); refine goesL_ (some 9) rfl rfl Try.func81 (by kernel_rfl) rfl #[.int .i64 a0] rfl (by (try simp only [List.map_toArray, List.map_cons, List.map_nil]); first | done | rfl | (simp only [List.length_drop, List.length_take]; rfl)) ?_; (with_reducible refine (sequiturref01_Of.calls a0 t302 t303 _ A3.out).mono ?_); rintro e w6 ⟨rfl, hb⟩; refine ⟨_, rfl, ?_⟩; replace BK301 := zK (blk_below (g := gb301) (o := .cells #[.int .i64 0, .int .u64 0] 107 (0, 0)) (zb BK301) hb); replace HB := zK (below_step (zo HB) hb); (try clear hb); (try clear hb2); (try clear hk); (try clear hi)) | ((with_reducible refine gate_dst (N := 5) rfl ?_); refine box_event ?hg (N := 5) ?hd (cs := #[.int .i64 0, .int .u64 0]) (t := 107) ?hr ?_; (case hd => rfl); (case hg => rfl); (case hr => first | (go_simp; done) | (go_simp; rfl)); intro gb304 hg w7 hbox hb; have BK304 := zK (hbox); have GW304 := zK ((by rw [hg]; exact (below_size (zo HB)) : w.heap.size ≤ gb304)); have GE304 := zK ((by rw [hg]; exact (below_size (zo HB)) : w.heap.size ≤ gb304)); replace HB := zK (below_step (zo HB) hb); have NB301_304 := zK ((by rw [hg]; exact Nat.ne_of_lt (blk_lt (g := gb301) (o := .cells #[.int .i64 0, .int .u64 0] 107 (0, 0)) (zb BK301)) : gb301 ≠ gb304)); have NB304_301 := zK ((by rw [hg]; exact Nat.ne_of_gt (blk_lt (g := gb301) (o := .cells #[.int .i64 0, .int .u64 0] 107 (0, 0)) (zb BK301)) : gb304 ≠ gb301)); replace BK301 := zK (blk_below (g := gb301) (o := .cells #[.int .i64 0, .int .u64 0] 107 (0, 0)) (zb BK301) hb); clear hb hbox hg; have hnb8 := NB304_301.out; have hnc8 := NB301_304.out; have hcz9_0 : w7.cell? ⟨gb304, 0, none⟩ = some (.int .i64 0) := (blk_cell BK304.out 0).trans rfl; have hcz9_1 : w7.cell? ⟨gb304, 1, none⟩ = some (.int .u64 0) := (blk_cell BK304.out 1).trans rfl; have hfz9_0 := blk_frozen BK304.out 0; have hfz9_1 := blk_frozen BK304.out 1))
 (try simp only [Act.put, zt, zz, zs])
 go_cut [] (fun wc => ∃ (kq : Nat) (x305000_3 : Int) (x305001_3 : Int), Aside0 (sequiturref01_Times.j0 kq a1 x305000_3 x305001_3 = some (r1, r2)) ∧ Aside0 (kq ≤ k) ∧ Aside0 (wc.heap[gb301]? = some (.cells #[.int .i64 0, .int .u64 0] 107 (0, 0))) ∧ Aside0 (wc.heap[gb304]? = some (.cells #[.int .i64 x305000_3, .int .u64 x305001_3] 107 (0, 0))) ∧ Aside0 (Below w.heap.size w wc))
 case first =>
  have H := HC4.out; clear HC4
  by_cases c10 : a1 < 0
  ·rw [if_pos c10] at H
   have c10b0 : decide (a1 < 0) = true := decide_eq_true c10; clear c10
   (first | rw [c10b0] | (simp only [i64_w, i32_w]; rw [c10b0]) | skip)
   replace H := Option.bind_eq_some_iff.mp H
   obtain ⟨⟨t305, t306⟩, A110, H⟩ := H
   replace H : (sequiturref01_Times.j0 k a1 t305 t306) = some (r1, r2) := H
   have A11 := zK A110; clear A110
   have H' := zK H; clear H
   have hnb12 := NB304_301.out
   have hnc12 := NB301_304.out
   have hcz13_0 : w7.cell? ⟨gb304, 0, none⟩ = some (.int .i64 0) := (blk_cell BK304.out 0).trans rfl
   have hcz13_1 : w7.cell? ⟨gb304, 1, none⟩ = some (.int .u64 0) := (blk_cell BK304.out 1).trans rfl
   have hfz13_0 := blk_frozen BK304.out 0
   have hfz13_1 := blk_frozen BK304.out 1
   go_wp2_with (first | ((with_reducible refine zC (f := 80) rfl ?_); refine goesL_ (some 13) rfl rfl Try.func80 (by kernel_rfl) rfl #[.agg #[.int .i64 t302, .int .u64 t303]] rfl (by (try simp only [List.map_toArray, List.map_cons, List.map_nil]); first | done | rfl | (simp only [List.length_drop, List.length_take]; rfl)) ?_; (with_reducible refine (sequiturref01_Minus.calls t302 t303 t305 t306 _ A11.out).mono ?_); rintro e w14 ⟨rfl, hb⟩; refine ⟨_, rfl, ?_⟩; replace BK301 := zK (blk_below (g := gb301) (o := .cells #[.int .i64 0, .int .u64 0] 107 (0, 0)) (zb BK301) hb); replace BK304 := zK (blk_below (g := gb304) (o := .cells #[.int .i64 t302, .int .u64 t303] 107 (0, 0)) (by refine zM ?_; refine blk_put (cs := #[.int .i64 t302, .int .u64 0]) ?_ 1 _ rfl; refine zM ?_; refine blk_put (cs := #[.int .i64 0, .int .u64 0]) ?_ 0 _ rfl; refine zM ?_; exact BK304.out) hb); replace HB := zK (below_step (zo HB) hb); (try clear hb); (try clear hb2); (try clear hk); (try clear hi); have hcz15_0 : w14.cell? ⟨gb304, 0, none⟩ = some (.int .i64 t302) := (blk_cell BK304.out 0).trans rfl; have hcz15_1 : w14.cell? ⟨gb304, 1, none⟩ = some (.int .u64 t303) := (blk_cell BK304.out 1).trans rfl; have hfz15_0 := blk_frozen BK304.out 0; have hfz15_1 := blk_frozen BK304.out 1))
   go_meet
   case rel => exact ⟨_, (t305), (t306), H', ⟨by first | omega | exact Nat.le_refl _⟩, ⟨zb BK301⟩, ⟨by refine zM ?_; refine blk_put (cs := #[.int .i64 t305, .int .u64 t303]) ?_ 1 _ rfl; refine zM ?_; refine blk_put (cs := #[.int .i64 t302, .int .u64 t303]) ?_ 0 _ rfl; refine zM ?_; exact BK304.out⟩, ⟨zo HB⟩⟩
  ·rw [if_neg c10] at H
   have c10b0 : decide (a1 < 0) = false := decide_eq_false c10; clear c10
   (first | rw [c10b0] | (simp only [i64_w, i32_w]; rw [c10b0]) | skip)
   have H' := zK H; clear H
   go_wp2
   go_meet
   case rel => exact ⟨_, (t302), (t303), H', ⟨by first | omega | exact Nat.le_refl _⟩, ⟨zb BK301⟩, ⟨by refine zM ?_; refine blk_put (cs := #[.int .i64 t302, .int .u64 0]) ?_ 1 _ rfl; refine zM ?_; refine blk_put (cs := #[.int .i64 0, .int .u64 0]) ?_ 0 _ rfl; refine zM ?_; exact BK304.out⟩, ⟨zo HB⟩⟩
 case rest =>
  clear HC4; try clear c1; try clear p2; try clear c7
  try clear c8; try clear c10; try clear c10b0; try clear c12
  try clear hcz13_0; try clear hcz13_1; try clear hcz15_0; try clear hcz15_1
  try clear hcz9_0; try clear hcz9_1; try clear hfz13_0; try clear hfz13_1
  try clear hfz15_0; try clear hfz15_1; try clear hfz9_0; try clear hfz9_1
  obtain ⟨kq, x305000_3, x305001_3, HA, HJ3, BK301, BK304, HB⟩ := hcut
  cases kq with
  | zero => exact absurd HA.out (by simp [sequiturref01_Times.j0])
  | succ kj3 =>
   have H := HA.out; clear HA
   simp only [sequiturref01_Times.j0] at H
   replace H := Option.bind_eq_some_iff.mp H
   obtain ⟨t308, A160, H⟩ := H
   replace H : (sequiturref01_Times.l0 kj3 t308 x305000_3 x305001_3 0 0) = some (r1, r2) := H
   have A16 := zK A160; clear A160
   have H' := zK H; clear H
   go_wp2_with (first | ((with_reducible refine gate_dst (N := 6) rfl ?_); refine box_event ?hg (N := 6) ?hd (cs := #[.int .i64 0, .int .u64 0]) (t := 107) ?hr ?_; (case hd => rfl); (case hg => rfl); (case hr => first | (go_simp; done) | (go_simp; rfl)); intro gb307 hg w17 hbox hb; have BK307 := zK (hbox); have GW307 := zK ((by rw [hg]; exact (below_size (zo HB)) : w.heap.size ≤ gb307)); have GE307 := zK ((by rw [hg]; exact (below_size (zo HB)) : w.heap.size ≤ gb307)); replace HB := zK (below_step (zo HB) hb); have NB301_307 := zK ((by rw [hg]; exact Nat.ne_of_lt (blk_lt (g := gb301) (o := .cells #[.int .i64 0, .int .u64 0] 107 (0, 0)) (zb BK301)) : gb301 ≠ gb307)); have NB307_301 := zK ((by rw [hg]; exact Nat.ne_of_gt (blk_lt (g := gb301) (o := .cells #[.int .i64 0, .int .u64 0] 107 (0, 0)) (zb BK301)) : gb307 ≠ gb301)); replace BK301 := zK (blk_below (g := gb301) (o := .cells #[.int .i64 0, .int .u64 0] 107 (0, 0)) (zb BK301) hb); have NB304_307 := zK ((by rw [hg]; exact Nat.ne_of_lt (blk_lt (g := gb304) (o := .cells #[.int .i64 x305000_3, .int .u64 x305001_3] 107 (0, 0)) (zb BK304)) : gb304 ≠ gb307)); have NB307_304 := zK ((by rw [hg]; exact Nat.ne_of_gt (blk_lt (g := gb304) (o := .cells #[.int .i64 x305000_3, .int .u64 x305001_3] 107 (0, 0)) (zb BK304)) : gb307 ≠ gb304)); replace BK304 := zK (blk_below (g := gb304) (o := .cells #[.int .i64 x305000_3, .int .u64 x305001_3] 107 (0, 0)) (zb BK304) hb); clear hb hbox hg; have hnb18 := NB307_301.out; have hnc18 := NB301_307.out; have hnb19 := NB307_304.out; have hnc19 := NB304_307.out; have hcz20_0 : w17.cell? ⟨gb307, 0, none⟩ = some (.int .i64 0) := (blk_cell BK307.out 0).trans rfl; have hcz20_1 : w17.cell? ⟨gb307, 1, none⟩ = some (.int .u64 0) := (blk_cell BK307.out 1).trans rfl; have hfz20_0 := blk_frozen BK307.out 0; have hfz20_1 := blk_frozen BK307.out 1) | ((with_reducible refine zC (f := 102) rfl ?_); refine goesL_ (some 16) rfl rfl Try.func102 (by kernel_rfl) rfl #[.int .i64 a1] rfl (by (try simp only [List.map_toArray, List.map_cons, List.map_nil]); first | done | rfl | (simp only [List.length_drop, List.length_take]; rfl)) ?_; (with_reducible refine (sequiturref01_Far.calls a1 t308 _ A16.out).mono ?_); rintro e w' ⟨rfl, ⟨nd, rfl⟩⟩; refine ⟨_, rfl, ?_⟩))
   go_loopg [7] kj3 (fun kq v7 w' => ∃ (x7_2 : Int) (x305000_2 : Int) (x305001_2 : Int) (x308000_2 : Int) (x308001_2 : Int), v7 = .int .u64 x7_2 ∧ Aside0 (sequiturref01_Times.l0 kq x7_2 x305000_2 x305001_2 x308000_2 x308001_2 = some (r1, r2)) ∧ Aside0 (kq ≤ kj3) ∧ Aside0 (w'.heap[gb301]? = some (.cells #[.int .i64 0, .int .u64 0] 107 (0, 0))) ∧ Aside0 (w'.heap[gb304]? = some (.cells #[.int .i64 x305000_2, .int .u64 x305001_2] 107 (0, 0))) ∧ Aside0 (w'.heap[gb307]? = some (.cells #[.int .i64 x308000_2, .int .u64 x308001_2] 107 (0, 0))) ∧ Aside0 (Below w.heap.size w w'))
   case atStart => exact ⟨(t308), (x305000_3), (x305001_3), (0), (0), (by first | rfl | (simp; done) | (simp [*]; done)), H', ⟨Nat.le_refl _⟩, ⟨zb BK301⟩, ⟨zb BK304⟩, ⟨by refine zM ?_; refine blk_put (cs := #[.int .i64 0, .int .u64 0]) ?_ 1 _ rfl; refine zM ?_; refine blk_put (cs := #[.int .i64 0, .int .u64 0]) ?_ 0 _ rfl; refine zM ?_; exact BK307.out⟩, ⟨zo HB⟩⟩
   case round =>
    clear H'; try clear c1; try clear p2; try clear c7
    try clear c8; try clear c10; try clear c10b0; try clear c12
    try clear c18; try clear c19; try clear hcz13_0; try clear hcz13_1
    try clear hcz15_0; try clear hcz15_1; try clear hcz20_0; try clear hcz20_1
    try clear hcz9_0; try clear hcz9_1; try clear hfz13_0; try clear hfz13_1
    try clear hfz15_0; try clear hfz15_1; try clear hfz20_0; try clear hfz20_1
    try clear hfz9_0; try clear hfz9_1; try clear p2
    obtain ⟨x7_2, x305000_2, x305001_2, x308000_2, x308001_2, rfl, HA, HK2, BK301, BK304, BK307, HB⟩ := hrel
    cases gk with
    | zero => exact absurd HA.out (by simp [sequiturref01_Times.l0])
    | succ k2 =>
     have H := HA.out; clear HA
     simp only [sequiturref01_Times.l0] at H
     by_cases c21 : x7_2 > 0
     ·rw [if_pos c21] at H
      have c21b0 : decide (0 < x7_2) = true := decide_eq_true c21; clear c21
      by_cases c22 : (Int.tmod x7_2 2) = 1
      ·rw [if_pos c22] at H
       have c22b0 : ((Int.tmod x7_2 2) == 1) = true := beq_iff_eq.mpr c22
       have c22b1 : ((Int.tmod x7_2 2) != 1) = false := bne_eq_false_iff_eq.mpr c22
       clear c22; replace H := Option.bind_eq_some_iff.mp H
       obtain ⟨⟨t309, t310⟩, A230, H⟩ := H
       replace H : ((sequiturref01_Plus.f x305000_2 x305001_2 x305000_2 x305001_2).bind fun bt311 => (sequiturref01_Times.l0 k2 (IntKind.u64.wrap (Int.tdiv x7_2 2)) bt311.1 bt311.2 t309 t310)) = some (r1, r2) := H
       have A23 := zK A230; clear A230; replace H := Option.bind_eq_some_iff.mp H
       obtain ⟨⟨t311, t312⟩, A240, H⟩ := H
       replace H : (sequiturref01_Times.l0 k2 (IntKind.u64.wrap (Int.tdiv x7_2 2)) t311 t312 t309 t310) = some (r1, r2) := H
       have A24 := zK A240; clear A240
       have H' := zK H; clear H
       have hnb25 := NB307_301.out
       have hnc25 := NB301_307.out
       have hnb26 := NB307_304.out
       have hnc26 := NB304_307.out
       have hcz27_0 : wr.cell? ⟨gb307, 0, none⟩ = some (.int .i64 x308000_2) := (blk_cell BK307.out 0).trans rfl
       have hcz27_1 : wr.cell? ⟨gb307, 1, none⟩ = some (.int .u64 x308001_2) := (blk_cell BK307.out 1).trans rfl
       have hfz27_0 := blk_frozen BK307.out 0
       have hfz27_1 := blk_frozen BK307.out 1
       have hnb28 := NB304_301.out
       have hnc28 := NB301_304.out
       have hcz29_0 : wr.cell? ⟨gb304, 0, none⟩ = some (.int .i64 x305000_2) := (blk_cell BK304.out 0).trans rfl
       have hcz29_1 : wr.cell? ⟨gb304, 1, none⟩ = some (.int .u64 x305001_2) := (blk_cell BK304.out 1).trans rfl
       have hfz29_0 := blk_frozen BK304.out 0
       have hfz29_1 := blk_frozen BK304.out 1
       go_wp2_with (first | ((with_reducible refine zC (f := 79) rfl ?_); refine goesL_ (some 26) rfl rfl Try.func79 (by kernel_rfl) rfl #[.agg #[.int .i64 x308000_2, .int .u64 x308001_2], .agg #[.int .i64 x305000_2, .int .u64 x305001_2]] rfl (by (try simp only [List.map_toArray, List.map_cons, List.map_nil]); first | done | rfl | (simp only [List.length_drop, List.length_take]; rfl)) ?_; (with_reducible refine (sequiturref01_Plus.calls x308000_2 x308001_2 x305000_2 x305001_2 t309 t310 _ A23.out).mono ?_); rintro e w30 ⟨rfl, hb⟩; refine ⟨_, rfl, ?_⟩; replace BK301 := zK (blk_below (g := gb301) (o := .cells #[.int .i64 0, .int .u64 0] 107 (0, 0)) (zb BK301) hb); replace BK304 := zK (blk_below (g := gb304) (o := .cells #[.int .i64 x305000_2, .int .u64 x305001_2] 107 (0, 0)) (zb BK304) hb); replace BK307 := zK (blk_below (g := gb307) (o := .cells #[.int .i64 x308000_2, .int .u64 x308001_2] 107 (0, 0)) (zb BK307) hb); replace HB := zK (below_step (zo HB) hb); (try clear hb); (try clear hb2); (try clear hk); (try clear hi); have hcz31_0 : w30.cell? ⟨gb307, 0, none⟩ = some (.int .i64 x308000_2) := (blk_cell BK307.out 0).trans rfl; have hcz31_1 : w30.cell? ⟨gb307, 1, none⟩ = some (.int .u64 x308001_2) := (blk_cell BK307.out 1).trans rfl; have hfz31_0 := blk_frozen BK307.out 0; have hfz31_1 := blk_frozen BK307.out 1; have hcz32_0 : w30.cell? ⟨gb304, 0, none⟩ = some (.int .i64 x305000_2) := (blk_cell BK304.out 0).trans rfl; have hcz32_1 : w30.cell? ⟨gb304, 1, none⟩ = some (.int .u64 x305001_2) := (blk_cell BK304.out 1).trans rfl; have hfz32_0 := blk_frozen BK304.out 0; have hfz32_1 := blk_frozen BK304.out 1) | ((with_reducible refine zC (f := 79) rfl ?_); refine goesL_ (some 29) rfl rfl Try.func79 (by kernel_rfl) rfl #[.agg #[.int .i64 x305000_2, .int .u64 x305001_2], .agg #[.int .i64 x305000_2, .int .u64 x305001_2]] rfl (by (try simp only [List.map_toArray, List.map_cons, List.map_nil]); first | done | rfl | (simp only [List.length_drop, List.length_take]; rfl)) ?_; (with_reducible refine (sequiturref01_Plus.calls x305000_2 x305001_2 x305000_2 x305001_2 t311 t312 _ A24.out).mono ?_); rintro e w33 ⟨rfl, hb⟩; refine ⟨_, rfl, ?_⟩; replace BK301 := zK (blk_below (g := gb301) (o := .cells #[.int .i64 0, .int .u64 0] 107 (0, 0)) (zb BK301) hb); replace BK304 := zK (blk_below (g := gb304) (o := .cells #[.int .i64 x305000_2, .int .u64 x305001_2] 107 (0, 0)) (zb BK304) hb); replace BK307 := zK (blk_below (g := gb307) (o := .cells #[.int .i64 t309, .int .u64 t310] 107 (0, 0)) (by refine zM ?_; refine blk_put (cs := #[.int .i64 t309, .int .u64 x308001_2]) ?_ 1 _ rfl; refine zM ?_; refine blk_put (cs := #[.int .i64 x308000_2, .int .u64 x308001_2]) ?_ 0 _ rfl; refine zM ?_; exact BK307.out) hb); replace HB := zK (below_step (zo HB) hb); (try clear hb); (try clear hb2); (try clear hk); (try clear hi); have hcz34_0 : w33.cell? ⟨gb304, 0, none⟩ = some (.int .i64 x305000_2) := (blk_cell BK304.out 0).trans rfl; have hcz34_1 : w33.cell? ⟨gb304, 1, none⟩ = some (.int .u64 x305001_2) := (blk_cell BK304.out 1).trans rfl; have hfz34_0 := blk_frozen BK304.out 0; have hfz34_1 := blk_frozen BK304.out 1))
       go_roundg k2
       case measure => have := HJ3.out; have := HK2.out; omega
       case rel => exact ⟨(IntKind.u64.wrap (Int.tdiv x7_2 2)), (t311), (t312), (t309), (t310), (by first | rfl | (simp; done) | (simp [*]; done)), H', ⟨by have := HJ3.out; have := HK2.out; omega⟩, ⟨zb BK301⟩, ⟨by refine zM ?_; refine blk_put (cs := #[.int .i64 t311, .int .u64 x305001_2]) ?_ 1 _ rfl; refine zM ?_; refine blk_put (cs := #[.int .i64 x305000_2, .int .u64 x305001_2]) ?_ 0 _ rfl; refine zM ?_; exact BK304.out⟩, ⟨zb BK307⟩, ⟨zo HB⟩⟩
      ·rw [if_neg c22] at H
       have c22b0 : ((Int.tmod x7_2 2) == 1) = false := beq_eq_false_iff_ne.mpr c22
       have c22b1 : ((Int.tmod x7_2 2) != 1) = true := bne_iff_ne.mpr c22
       replace H := Option.bind_eq_some_iff.mp H
       obtain ⟨⟨t313, t314⟩, A350, H⟩ := H
       replace H : (sequiturref01_Times.l0 k2 (IntKind.u64.wrap (Int.tdiv x7_2 2)) t313 t314 x308000_2 x308001_2) = some (r1, r2) := H
       have A35 := zK A350; clear A350
       have H' := zK H; clear H
       have hnb36 := NB304_301.out
       have hnc36 := NB301_304.out
       have hnb37 := NB304_307.out
       have hnc37 := NB307_304.out
       have hcz38_0 : wr.cell? ⟨gb304, 0, none⟩ = some (.int .i64 x305000_2) := (blk_cell BK304.out 0).trans rfl
       have hcz38_1 : wr.cell? ⟨gb304, 1, none⟩ = some (.int .u64 x305001_2) := (blk_cell BK304.out 1).trans rfl
       have hfz38_0 := blk_frozen BK304.out 0
       have hfz38_1 := blk_frozen BK304.out 1
       go_wp2_with (first | ((with_reducible refine zC (f := 79) rfl ?_); refine goesL_ (some 29) rfl rfl Try.func79 (by kernel_rfl) rfl #[.agg #[.int .i64 x305000_2, .int .u64 x305001_2], .agg #[.int .i64 x305000_2, .int .u64 x305001_2]] rfl (by (try simp only [List.map_toArray, List.map_cons, List.map_nil]); first | done | rfl | (simp only [List.length_drop, List.length_take]; rfl)) ?_; (with_reducible refine (sequiturref01_Plus.calls x305000_2 x305001_2 x305000_2 x305001_2 t313 t314 _ A35.out).mono ?_); rintro e w39 ⟨rfl, hb⟩; refine ⟨_, rfl, ?_⟩; replace BK301 := zK (blk_below (g := gb301) (o := .cells #[.int .i64 0, .int .u64 0] 107 (0, 0)) (zb BK301) hb); replace BK304 := zK (blk_below (g := gb304) (o := .cells #[.int .i64 x305000_2, .int .u64 x305001_2] 107 (0, 0)) (zb BK304) hb); replace BK307 := zK (blk_below (g := gb307) (o := .cells #[.int .i64 x308000_2, .int .u64 x308001_2] 107 (0, 0)) (zb BK307) hb); replace HB := zK (below_step (zo HB) hb); (try clear hb); (try clear hb2); (try clear hk); (try clear hi); have hcz40_0 : w39.cell? ⟨gb304, 0, none⟩ = some (.int .i64 x305000_2) := (blk_cell BK304.out 0).trans rfl; have hcz40_1 : w39.cell? ⟨gb304, 1, none⟩ = some (.int .u64 x305001_2) := (blk_cell BK304.out 1).trans rfl; have hfz40_0 := blk_frozen BK304.out 0; have hfz40_1 := blk_frozen BK304.out 1))
       go_roundg k2
       case measure => have := HJ3.out; have := HK2.out; omega
       case rel => exact ⟨(IntKind.u64.wrap (Int.tdiv x7_2 2)), (t313), (t314), (x308000_2), (x308001_2), (by first | rfl | (simp; done) | (simp [*]; done)), H', ⟨by have := HJ3.out; have := HK2.out; omega⟩, ⟨zb BK301⟩, ⟨by refine zM ?_; refine blk_put (cs := #[.int .i64 t313, .int .u64 x305001_2]) ?_ 1 _ rfl; refine zM ?_; refine blk_put (cs := #[.int .i64 x305000_2, .int .u64 x305001_2]) ?_ 0 _ rfl; refine zM ?_; exact BK304.out⟩, ⟨zb BK307⟩, ⟨zo HB⟩⟩
     ·rw [if_neg c21] at H
      have c21b0 : decide (0 < x7_2) = false := decide_eq_false c21; clear c21
      simp only [Option.some.injEq, Prod.mk.injEq] at H
      obtain ⟨rfl, rfl⟩ := H
      have hnb41 := NB307_301.out
      have hnc41 := NB301_307.out
      have hnb42 := NB307_304.out
      have hnc42 := NB304_307.out
      have hcz43_0 : wr.cell? ⟨gb307, 0, none⟩ = some (.int .i64 x308000_2) := (blk_cell BK307.out 0).trans rfl
      have hcz43_1 : wr.cell? ⟨gb307, 1, none⟩ = some (.int .u64 x308001_2) := (blk_cell BK307.out 1).trans rfl
      have hfz43_0 := blk_frozen BK307.out 0
      have hfz43_1 := blk_frozen BK307.out 1
      have hnb44 := NB301_304.out
      have hnc44 := NB304_301.out
      have hcz45_0 : wr.cell? ⟨gb301, 0, none⟩ = some (.int .i64 0) := (blk_cell BK301.out 0).trans rfl
      have hcz45_1 : wr.cell? ⟨gb301, 1, none⟩ = some (.int .u64 0) := (blk_cell BK301.out 1).trans rfl
      have hfz45_0 := blk_frozen BK301.out 0
      have hfz45_1 := blk_frozen BK301.out 1
      go_wp2
      refine bodyPost_ret (results_cell_row rfl _ _ gb301 107 #[.int .i64 x308000_2, .int .u64 x308001_2] (0, 0) _ rfl (by refine zM ?_; refine blk_put (cs := #[.int .i64 x308000_2, .int .u64 0]) ?_ 1 _ rfl; refine zM ?_; refine blk_put (cs := #[.int .i64 0, .int .u64 0]) ?_ 0 _ rfl; refine zM ?_; exact BK301.out) Try.underlying107 rfl (by kernel_rfl)) rfl ?_
      exact ⟨by first | rfl | (simp [errW_none, errW_some] <;> rfl) | (simp [*, errW_none, errW_some] <;> rfl), zo HB⟩

/-! ### sequiturref27_More: function 71 -/
def sequiturref27_More.f (k : Nat) (a0_0 : Int) (a0_1 : Int) (a0_2 : Int) (a0_3 : Int) (a1 : Int) (a2 : Int) : Option (Int × Int × Int × Int) := (sequiturref01_Times.f k a1 a2).bind fun bt317 => ((sequiturref01_Of.f bt317.1).bind fun bt320 => ((sequiturref01_Plus.f a0_0 a0_1 bt320.1 bt320.2).bind fun bt322 => ((sequiturref01_Plus.f a0_2 a0_3 0 bt317.2).bind fun bt324 => (some (bt322.1, bt322.2, bt324.1, bt324.2)))))
theorem sequiturref27_More.mono : ∀ a0 a1 a2 a3 a4 a5 k, LeO (sequiturref27_More.f k a0 a1 a2 a3 a4 a5) (sequiturref27_More.f (k + 1) a0 a1 a2 a3 a4 a5) := by
 intro a0 a1 a2 a3 a4 a5 k
 unfold sequiturref27_More.f
 repeat' first
   | (with_reducible exact sequiturref01_Times.mono _ _ _)
   | (with_reducible exact LeO.refl _)
   | (with_reducible exact LeO.none _)
   | (with_reducible refine LeO.ite ?_ ?_)
   | (with_reducible refine LeO.bind ?_ (fun _ => ?_))
   | exact sequiturref01_Times.mono _ _ _
   | exact LeO.none _
   | refine LeO.ite ?_ ?_
   | refine LeO.bind ?_ (fun _ => ?_)
def sequiturref27_More.T2 : Bool × List (List Nat × List Nat) := (true, [([], []), ([0], [0]), ([], []), ([2], [2]), ([3], [3]), ([1, 4, 4], [1, 4]), ([0, 1, 2, 3, 4, 5], []), ([6, 5, 5, 0, 1, 2, 3, 4, 5], [5, 6])])
def sequiturref27_More.B2 : List Nat := [0, 1, 0, 4, 12, 31, 63, 127]
theorem sequiturref27_More.tab2 : rtab .any (opsOf Try.f71 2) = sequiturref27_More.T2 := by kernel_rfl
theorem sequiturref27_More.bits2 : waitsOk sequiturref27_More.T2.2 sequiturref27_More.B2 = true := by kernel_rfl
set_option maxHeartbeats 8000000 in
set_option maxRecDepth 100000 in
theorem sequiturref27_More.calls (k : Nat) (a0_0 : Int) (a0_1 : Int) (a0_2 : Int) (a0_3 : Int) (a1 : Int) (a2 : Int) (r1 : Int) (r2 : Int) (r3 : Int) (r4 : Int) (w : World) (h : sequiturref27_More.f k a0_0 a0_1 a0_2 a0_3 a1 a2 = some (r1, r2, r3, r4)) :
  Calls Try.prog 71 #[.agg #[.int .i64 a0_0, .int .u64 a0_1, .int .i64 a0_2, .int .u64 a0_3], .int .i64 a1, .int .i64 a2] w fun e w' => e = .returned (.agg #[.int .i64 r1, .int .u64 r2, .int .i64 r3, .int .u64 r4]) ∧ Below w.heap.size w w' := by
 have hu109 := Try.underlying109
 have hu107 := Try.underlying107
 have HB := zK (Below.refl w.heap.size w)
 have H : ((sequiturref01_Times.f k a1 a2).bind fun bt317 => ((sequiturref01_Of.f bt317.1).bind fun bt320 => ((sequiturref01_Plus.f a0_0 a0_1 bt320.1 bt320.2).bind fun bt322 => ((sequiturref01_Plus.f a0_2 a0_3 0 bt317.2).bind fun bt324 => (some (bt322.1, bt322.2, bt324.1, bt324.2)))))) = some (r1, r2, r3, r4) := h
 clear h; replace H := Option.bind_eq_some_iff.mp H
 obtain ⟨⟨t317, t318⟩, A40, H⟩ := H
 replace H : ((sequiturref01_Of.f t317).bind fun bt320 => ((sequiturref01_Plus.f a0_0 a0_1 bt320.1 bt320.2).bind fun bt322 => ((sequiturref01_Plus.f a0_2 a0_3 0 t318).bind fun bt324 => (some (bt322.1, bt322.2, bt324.1, bt324.2))))) = some (r1, r2, r3, r4) := H
 have A4 := zK A40; clear A40; replace H := Option.bind_eq_some_iff.mp H
 obtain ⟨⟨t320, t321⟩, A50, H⟩ := H
 replace H : ((sequiturref01_Plus.f a0_0 a0_1 t320 t321).bind fun bt322 => ((sequiturref01_Plus.f a0_2 a0_3 0 t318).bind fun bt324 => (some (bt322.1, bt322.2, bt324.1, bt324.2)))) = some (r1, r2, r3, r4) := H
 have A5 := zK A50; clear A50; replace H := Option.bind_eq_some_iff.mp H
 obtain ⟨⟨t322, t323⟩, A60, H⟩ := H
 replace H : ((sequiturref01_Plus.f a0_2 a0_3 0 t318).bind fun bt324 => (some (t322, t323, bt324.1, bt324.2))) = some (r1, r2, r3, r4) := H
 have A6 := zK A60; clear A60; replace H := Option.bind_eq_some_iff.mp H
 obtain ⟨⟨t324, t325⟩, A70, H⟩ := H
 replace H : (some (t322, t323, t324, t325)) = some (r1, r2, r3, r4) := H
 have A7 := zK A70; clear A70
 simp only [Option.some.injEq, Prod.mk.injEq] at H
 obtain ⟨rfl, rfl, rfl, rfl⟩ := H
 go_enter Try.func71, Try.ntmps71
 try go_wp2_with (first | ((with_reducible refine gate_dst (N := 3) rfl ?_); refine box_event ?hg (N := 3) ?hd (cs := #[.int .i64 a0_0, .int .u64 a0_1, .int .i64 a0_2, .int .u64 a0_3]) (t := 109) ?hr ?_; (case hd => rfl); (case hg => rfl); (case hr => first | (go_simp; done) | (go_simp; rfl)); intro gb315 hg w8 hbox hb; have BK315 := zK (hbox); have GW315 := zK ((by rw [hg]; exact (below_size (zo HB)) : w.heap.size ≤ gb315)); have GE315 := zK ((by rw [hg]; exact (below_size (zo HB)) : w.heap.size ≤ gb315)); replace HB := zK (below_step (zo HB) hb); clear hb hbox hg) | ((with_reducible refine gate_dst (N := 6) rfl ?_); refine box_event ?hg (N := 6) ?hd (cs := #[.int .i64 0, .int .u64 0, .int .i64 0, .int .u64 0]) (t := 109) ?hr ?_; (case hd => rfl); (case hg => rfl); (case hr => first | (go_simp; done) | (go_simp; rfl)); intro gb316 hg w9 hbox hb; have BK316 := zK (hbox); have GW316 := zK ((by rw [hg]; exact (below_size (zo HB)) : w.heap.size ≤ gb316)); have GE316 := zK ((by rw [hg]; exact (below_size (zo HB)) : w.heap.size ≤ gb316)); replace HB := zK (below_step (zo HB) hb); have NB315_316 := zK ((by rw [hg]; exact Nat.ne_of_lt (blk_lt (g := gb315) (o := .cells #[.int .i64 a0_0, .int .u64 a0_1, .int .i64 a0_2, .int .u64 a0_3] 109 (0, 0)) (zb BK315)) : gb315 ≠ gb316)); have NB316_315 := zK ((by rw [hg]; exact Nat.ne_of_gt (blk_lt (g := gb315) (o := .cells #[.int .i64 a0_0, .int .u64 a0_1, .int .i64 a0_2, .int .u64 a0_3] 109 (0, 0)) (zb BK315)) : gb316 ≠ gb315)); replace BK315 := zK (blk_below (g := gb315) (o := .cells #[.int .i64 a0_0, .int .u64 a0_1, .int .i64 a0_2, .int .u64 a0_3] 109 (0, 0)) (zb BK315) hb); clear hb hbox hg) | ((with_reducible refine zC (f := 78) rfl ?_); refine goesL_ (some 10) rfl rfl Try.func78 (by kernel_rfl) rfl #[.int .i64 a1, .int .i64 a2] rfl (by (try simp only [List.map_toArray, List.map_cons, List.map_nil]); first | done | rfl | (simp only [List.length_drop, List.length_take]; rfl)) ?_; (with_reducible refine (sequiturref01_Times.calls k a1 a2 t317 t318 _ A4.out).mono ?_); rintro e w10 ⟨rfl, hb⟩; refine ⟨_, rfl, ?_⟩; replace BK315 := zK (blk_below (g := gb315) (o := .cells #[.int .i64 a0_0, .int .u64 a0_1, .int .i64 a0_2, .int .u64 a0_3] 109 (0, 0)) (zb BK315) hb); replace BK316 := zK (blk_below (g := gb316) (o := .cells #[.int .i64 0, .int .u64 0, .int .i64 0, .int .u64 0] 109 (0, 0)) (zb BK316) hb); replace HB := zK (below_step (zo HB) hb); (try clear hb); (try clear hb2); (try clear hk); (try clear hi)) | ((with_reducible refine gate_dst (N := 7) rfl ?_); refine box_event ?hg (N := 7) ?hd (cs := #[.int .i64 0, .int .u64 0]) (t := 107) ?hr ?_; (case hd => rfl); (case hg => rfl); (case hr => first | (go_simp; done) | (go_simp; rfl)); intro gb319 hg w11 hbox hb; have BK319 := zK (hbox); have GW319 := zK ((by rw [hg]; exact (below_size (zo HB)) : w.heap.size ≤ gb319)); have GE319 := zK ((by rw [hg]; exact (below_size (zo HB)) : w.heap.size ≤ gb319)); replace HB := zK (below_step (zo HB) hb); have NB315_319 := zK ((by rw [hg]; exact Nat.ne_of_lt (blk_lt (g := gb315) (o := .cells #[.int .i64 a0_0, .int .u64 a0_1, .int .i64 a0_2, .int .u64 a0_3] 109 (0, 0)) (zb BK315)) : gb315 ≠ gb319)); have NB319_315 := zK ((by rw [hg]; exact Nat.ne_of_gt (blk_lt (g := gb315) (o := .cells #[.int .i64 a0_0, .int .u64 a0_1, .int .i64 a0_2, .int .u64 a0_3] 109 (0, 0)) (zb BK315)) : gb319 ≠ gb315)); replace BK315 := zK (blk_below (g := gb315) (o := .cells #[.int .i64 a0_0, .int .u64 a0_1, .int .i64 a0_2, .int .u64 a0_3] 109 (0, 0)) (zb BK315) hb); have NB316_319 := zK ((by rw [hg]; exact Nat.ne_of_lt (blk_lt (g := gb316) (o := .cells #[.int .i64 0, .int .u64 0, .int .i64 0, .int .u64 0] 109 (0, 0)) (zb BK316)) : gb316 ≠ gb319)); have NB319_316 := zK ((by rw [hg]; exact Nat.ne_of_gt (blk_lt (g := gb316) (o := .cells #[.int .i64 0, .int .u64 0, .int .i64 0, .int .u64 0] 109 (0, 0)) (zb BK316)) : gb319 ≠ gb316)); replace BK316 := zK (blk_below (g := gb316) (o := .cells #[.int .i64 0, .int .u64 0, .int .i64 0, .int .u64 0] 109 (0, 0)) (zb BK316) hb); clear hb hbox hg; have hnb12 := NB319_315.out; have hnc12 := NB315_319.out; have hnb13 := NB319_316.out; have hnc13 := NB316_319.out; have hcz14_0 : w11.cell? ⟨gb319, 0, none⟩ = some (.int .i64 0) := (blk_cell BK319.out 0).trans rfl; have hcz14_1 : w11.cell? ⟨gb319, 1, none⟩ = some (.int .u64 0) := (blk_cell BK319.out 1).trans rfl; have hfz14_0 := blk_frozen BK319.out 0; have hfz14_1 := blk_frozen BK319.out 1))
 have n0_ : Aside0 (((w11.setCell ⟨gb319, 0, none⟩ (.int .i64 t317)).setCell ⟨gb319, 1, none⟩ (.int .u64 t318)).heap[gb315]? = some (.cells #[.int .i64 a0_0, .int .u64 a0_1, .int .i64 a0_2, .int .u64 a0_3] 109 (0, 0))) := ⟨zb BK315⟩
 have n1_ : Aside0 (((w11.setCell ⟨gb319, 0, none⟩ (.int .i64 t317)).setCell ⟨gb319, 1, none⟩ (.int .u64 t318)).heap[gb316]? = some (.cells #[.int .i64 0, .int .u64 0, .int .i64 0, .int .u64 0] 109 (0, 0))) := ⟨zb BK316⟩
 have n2_ : Aside0 (((w11.setCell ⟨gb319, 0, none⟩ (.int .i64 t317)).setCell ⟨gb319, 1, none⟩ (.int .u64 t318)).heap[gb319]? = some (.cells #[.int .i64 t317, .int .u64 t318] 107 (0, 0))) := ⟨by refine zM ?_; refine blk_put (cs := #[.int .i64 t317, .int .u64 0]) ?_ 1 _ rfl; refine zM ?_; refine blk_put (cs := #[.int .i64 0, .int .u64 0]) ?_ 0 _ rfl; refine zM ?_; exact BK319.out⟩
 have n3_ : Aside0 (Below w.heap.size w ((w11.setCell ⟨gb319, 0, none⟩ (.int .i64 t317)).setCell ⟨gb319, 1, none⟩ (.int .u64 t318))) := ⟨zo HB⟩
 (try clear BK315)
 (try clear BK316)
 (try clear BK319)
 (try clear HB)
 generalize ((w11.setCell ⟨gb319, 0, none⟩ (.int .i64 t317)).setCell ⟨gb319, 1, none⟩ (.int .u64 t318)) = w15 at n0_ n1_ n2_ n3_ ⊢
 have BK315 := n0_
 have BK316 := n1_
 have BK319 := n2_
 have HB := n3_; clear n0_ n1_ n2_ n3_
 replace BK315 := zK (zD BK315.out)
 replace BK316 := zK (zD BK316.out)
 replace BK319 := zK (zD BK319.out)
 replace HB := zK (yD HB.out)
 refine start_ (n := 8) (S := fun w' => w'.cell? ⟨gb315, 0, none⟩ = some (.int .i64 a0_0) ∧ w'.cell? ⟨gb315, 1, none⟩ = some (.int .u64 a0_1) ∧ w'.cell? ⟨gb315, 2, none⟩ = some (.int .i64 a0_2) ∧ w'.cell? ⟨gb315, 3, none⟩ = some (.int .u64 a0_3) ∧ w'.cell? ⟨gb319, 0, none⟩ = some (.int .i64 t317) ∧ w'.cell? ⟨gb319, 1, none⟩ = some (.int .u64 t318)) (ds := [7]) #[F_,F_,F_,F_,F_,F_,F_,F_] (by kernel_rfl) rfl rfl ⟨(blk_cell BK315.out 0).trans rfl, (blk_cell BK315.out 1).trans rfl, (blk_cell BK315.out 2).trans rfl, (blk_cell BK315.out 3).trans rfl, (blk_cell BK319.out 0).trans rfl, (blk_cell BK319.out 1).trans rfl⟩ (fun hHeld => ?_); refine with_tabW sequiturref27_More.tab2 sequiturref27_More.bits2 (fun HT_ HW_ => ?_)
 generalize w15.drew = w16 at BK315 BK316 BK319 HB hHeld ⊢
 refine pure_ (i := 0) (N := some 11) (v := ?_) (a' := ?_) #[T_,F_,F_,F_,F_,F_,F_,F_] rfl rfl (any_of HT_.out (by kernel_rfl)) (fun _ _ _ h => h) (Or.inl ⟨by rfl, ?_⟩) ?_ ?_; rotate_left; (intro w'; go_simp; with_reducible rfl); rotate_left; (simp only [Act.put, zt, zz, zs, i64_w, i32_w]; rfl)
 refine pure_ (i := 2) (N := some 13) (v := ?_) (a' := ?_) #[T_,F_,T_,F_,F_,F_,F_,F_] rfl rfl (any_of HT_.out (by kernel_rfl)) (fun _ _ _ h => h) (Or.inl ⟨by rfl, ?_⟩) ?_ ?_; rotate_left; (intro w'; go_simp; with_reducible rfl); rotate_left; (simp only [Act.put, zt, zz, zs, i64_w, i32_w]; rfl)
 refine take_ (i := 1) (N := some 12) (v := ?_) (a' := ?_) #[T_,T_,T_,F_,F_,F_,F_,F_] rfl rfl (take_ofW HT_.out HW_.out (by kernel_rfl)) (fun _ _ _ h => h) (Or.inl ⟨by rfl, ?_⟩) hHeld ?_ ?_; rotate_left; (rintro w' ⟨s0, s1, s2, s3, s4, s5⟩; go_simp; with_reducible rfl); rotate_left; (simp only [Act.put, zt, zz, zs, i64_w, i32_w]; rfl)
 refine take_ (i := 3) (N := some 14) (v := ?_) (a' := ?_) #[T_,T_,T_,T_,F_,F_,F_,F_] rfl rfl (take_ofW HT_.out HW_.out (by kernel_rfl)) (fun _ _ _ h => h) (Or.inl ⟨by rfl, ?_⟩) hHeld ?_ ?_; rotate_left; (rintro w' ⟨s0, s1, s2, s3, s4, s5⟩; go_simp; with_reducible rfl); rotate_left; (simp only [Act.put, zt, zz, zs, i64_w, i32_w]; rfl)
 refine one_ (i := 4) (N := some 15) #[T_,T_,T_,T_,T_,F_,F_,F_] rfl rfl (one_of HT_.out (by kernel_rfl)) (by decide) (fun K hK => ?_)
 refine goes_ Try.func81 (by kernel_rfl) rfl #[.int .i64 t317] (by rfl) rfl rfl (by (try simp only [List.map_toArray, List.map_cons, List.map_nil]); first | done | rfl | (simp only [List.length_drop, List.length_take]; rfl)) ?_
 with_reducible refine (sequiturref01_Of.calls t317 t320 t321 _ A5.out).mono ?_
 rintro e w17 ⟨rfl, hb⟩
 refine ⟨_, rfl, ?_⟩
 replace BK315 := zK (blk_below (g := gb315) (o := .cells #[.int .i64 a0_0, .int .u64 a0_1, .int .i64 a0_2, .int .u64 a0_3] 109 (0, 0)) (zb BK315) hb)
 replace BK316 := zK (blk_below (g := gb316) (o := .cells #[.int .i64 0, .int .u64 0, .int .i64 0, .int .u64 0] 109 (0, 0)) (zb BK316) hb)
 replace BK319 := zK (blk_below (g := gb319) (o := .cells #[.int .i64 t317, .int .u64 t318] 107 (0, 0)) (zb BK319) hb)
 replace HB := zK (below_step (zo HB) hb)
 (try clear hb); (try clear hb2); (try clear hk); (try clear hi)
 refine hK.out _ _ ⟨(blk_cell BK315.out 0).trans rfl, (blk_cell BK315.out 1).trans rfl, (blk_cell BK315.out 2).trans rfl, (blk_cell BK315.out 3).trans rfl, (blk_cell BK319.out 0).trans rfl, (blk_cell BK319.out 1).trans rfl⟩ (fun hHeld => ?_)
 clear hK K
 refine norm_ (a' := ?_) ?_ ?_; rotate_left; (show Act.put _ (some 15) _ = _; simp only [Act.put, zt, zz, zs, i64_w, i32_w]; rfl)
 refine one_ (i := 5) (N := some 16) #[T_,T_,T_,T_,T_,T_,F_,F_] rfl rfl (one_of HT_.out (by kernel_rfl)) (by decide) (fun K hK => ?_)
 refine goes_ Try.func79 (by kernel_rfl) rfl #[.agg #[.int .i64 a0_0, .int .u64 a0_1], .agg #[.int .i64 t320, .int .u64 t321]] (by rfl) rfl rfl (by (try simp only [List.map_toArray, List.map_cons, List.map_nil]); first | done | rfl | (simp only [List.length_drop, List.length_take]; rfl)) ?_
 with_reducible refine (sequiturref01_Plus.calls a0_0 a0_1 t320 t321 t322 t323 _ A6.out).mono ?_
 rintro e w18 ⟨rfl, hb⟩
 refine ⟨_, rfl, ?_⟩
 replace BK315 := zK (blk_below (g := gb315) (o := .cells #[.int .i64 a0_0, .int .u64 a0_1, .int .i64 a0_2, .int .u64 a0_3] 109 (0, 0)) (zb BK315) hb)
 replace BK316 := zK (blk_below (g := gb316) (o := .cells #[.int .i64 0, .int .u64 0, .int .i64 0, .int .u64 0] 109 (0, 0)) (zb BK316) hb)
 replace BK319 := zK (blk_below (g := gb319) (o := .cells #[.int .i64 t317, .int .u64 t318] 107 (0, 0)) (zb BK319) hb)
 replace HB := zK (below_step (zo HB) hb)
 (try clear hb); (try clear hb2); (try clear hk); (try clear hi)
 refine hK.out _ _ ⟨(blk_cell BK315.out 0).trans rfl, (blk_cell BK315.out 1).trans rfl, (blk_cell BK315.out 2).trans rfl, (blk_cell BK315.out 3).trans rfl, (blk_cell BK319.out 0).trans rfl, (blk_cell BK319.out 1).trans rfl⟩ (fun hHeld => ?_)
 clear hK K
 refine norm_ (a' := ?_) ?_ ?_; rotate_left; (show Act.put _ (some 16) _ = _; simp only [Act.put, zt, zz, zs, i64_w, i32_w]; rfl)
 refine pure_ (i := 6) (N := some 17) (v := ?_) (a' := ?_) #[T_,T_,T_,T_,T_,T_,T_,F_] rfl rfl (any_of HT_.out (by kernel_rfl)) (fun _ _ _ h => h) (Or.inl ⟨by rfl, ?_⟩) ?_ ?_; rotate_left; (intro w'; go_simp; with_reducible rfl); rotate_left; (simp only [Act.put, zt, zz, zs, i64_w, i32_w]; rfl)
 refine last_ (i := 7) (N := none) #[T_,T_,T_,T_,T_,T_,T_,T_] rfl rfl (one_of HT_.out (by kernel_rfl)) (by decide) (fun K hK => ?_)
 have hs19 : w18.cell? ⟨gb315, 0, none⟩ = some (.int .i64 a0_0) := (blk_cell BK315.out 0).trans rfl
 have hfs19 := blk_frozen BK315.out 0
 have hns19_1 := NB316_315.out
 have hns19_2 := NB319_315.out
 have hms19_1 := NB315_316.out
 have hms19_2 := NB315_319.out
 have hs20 : w18.cell? ⟨gb315, 1, none⟩ = some (.int .u64 a0_1) := (blk_cell BK315.out 1).trans rfl
 have hfs20 := blk_frozen BK315.out 1
 have hns20_1 := NB316_315.out
 have hns20_2 := NB319_315.out
 have hms20_1 := NB315_316.out
 have hms20_2 := NB315_319.out
 refine skip_ (w1 := ?_) (by rfl) rfl ?_ ?_
 rotate_left
 ·go_simp
  rfl
 refine hK.out _ _ ?_
 clear hK K
 refine done_ (done_of HT_.out (by kernel_rfl)) ?_
 have hnb21 := NB315_316.out
 have hnc21 := NB316_315.out
 have hcz22_0 : w18.cell? ⟨gb315, 0, none⟩ = some (.int .i64 a0_0) := (blk_cell BK315.out 0).trans rfl
 have hcz22_1 : w18.cell? ⟨gb315, 1, none⟩ = some (.int .u64 a0_1) := (blk_cell BK315.out 1).trans rfl
 have hcz22_2 : w18.cell? ⟨gb315, 2, none⟩ = some (.int .i64 a0_2) := (blk_cell BK315.out 2).trans rfl
 have hcz22_3 : w18.cell? ⟨gb315, 3, none⟩ = some (.int .u64 a0_3) := (blk_cell BK315.out 3).trans rfl
 have hfz22_0 := blk_frozen BK315.out 0
 have hfz22_1 := blk_frozen BK315.out 1
 have hfz22_2 := blk_frozen BK315.out 2
 have hfz22_3 := blk_frozen BK315.out 3
 have hcz23_0 : w18.cell? ⟨gb319, 0, none⟩ = some (.int .i64 t317) := (blk_cell BK319.out 0).trans rfl
 have hcz23_1 : w18.cell? ⟨gb319, 1, none⟩ = some (.int .u64 t318) := (blk_cell BK319.out 1).trans rfl
 have hfz23_0 := blk_frozen BK319.out 0
 have hfz23_1 := blk_frozen BK319.out 1
 try go_wp2_with (first | ((with_reducible refine zC (f := 79) rfl ?_); refine goesL_ (some 23) rfl rfl Try.func79 (by kernel_rfl) rfl #[.agg #[.int .i64 a0_2, .int .u64 a0_3], .agg #[.int .i64 0, .int .u64 t318]] rfl (by (try simp only [List.map_toArray, List.map_cons, List.map_nil]); first | done | rfl | (simp only [List.length_drop, List.length_take]; rfl)) ?_; (with_reducible refine (sequiturref01_Plus.calls a0_2 a0_3 0 t318 t324 t325 _ A7.out).mono ?_); rintro e w24 ⟨rfl, hb⟩; refine ⟨_, rfl, ?_⟩; replace BK315 := zK (blk_below (g := gb315) (o := .cells #[.int .i64 t322, .int .u64 t323, .int .i64 a0_2, .int .u64 a0_3] 109 (0, 0)) (by refine zM ?_; refine blk_put (cs := #[.int .i64 t322, .int .u64 a0_1, .int .i64 a0_2, .int .u64 a0_3]) ?_ 1 _ rfl; refine zM ?_; refine blk_put (cs := #[.int .i64 a0_0, .int .u64 a0_1, .int .i64 a0_2, .int .u64 a0_3]) ?_ 0 _ rfl; refine zM ?_; exact BK315.out) hb); replace BK316 := zK (blk_below (g := gb316) (o := .cells #[.int .i64 0, .int .u64 0, .int .i64 0, .int .u64 0] 109 (0, 0)) (zb BK316) hb); replace BK319 := zK (blk_below (g := gb319) (o := .cells #[.int .i64 t317, .int .u64 t318] 107 (0, 0)) (zb BK319) hb); replace HB := zK (below_step (zo HB) hb); (try clear hb); (try clear hb2); (try clear hk); (try clear hi); have hcz25_0 : w24.cell? ⟨gb315, 0, none⟩ = some (.int .i64 t322) := (blk_cell BK315.out 0).trans rfl; have hcz25_1 : w24.cell? ⟨gb315, 1, none⟩ = some (.int .u64 t323) := (blk_cell BK315.out 1).trans rfl; have hcz25_2 : w24.cell? ⟨gb315, 2, none⟩ = some (.int .i64 a0_2) := (blk_cell BK315.out 2).trans rfl; have hcz25_3 : w24.cell? ⟨gb315, 3, none⟩ = some (.int .u64 a0_3) := (blk_cell BK315.out 3).trans rfl; have hfz25_0 := blk_frozen BK315.out 0; have hfz25_1 := blk_frozen BK315.out 1; have hfz25_2 := blk_frozen BK315.out 2; have hfz25_3 := blk_frozen BK315.out 3; have hcz26_0 : w24.cell? ⟨gb316, 0, none⟩ = some (.int .i64 0) := (blk_cell BK316.out 0).trans rfl; have hcz26_1 : w24.cell? ⟨gb316, 1, none⟩ = some (.int .u64 0) := (blk_cell BK316.out 1).trans rfl; have hcz26_2 : w24.cell? ⟨gb316, 2, none⟩ = some (.int .i64 0) := (blk_cell BK316.out 2).trans rfl; have hcz26_3 : w24.cell? ⟨gb316, 3, none⟩ = some (.int .u64 0) := (blk_cell BK316.out 3).trans rfl; have hfz26_0 := blk_frozen BK316.out 0; have hfz26_1 := blk_frozen BK316.out 1; have hfz26_2 := blk_frozen BK316.out 2; have hfz26_3 := blk_frozen BK316.out 3))
 refine bodyPost_ret (results_cell_row rfl _ _ gb316 109 #[.int .i64 t322, .int .u64 t323, .int .i64 t324, .int .u64 t325] (0, 0) _ rfl (by refine zM ?_; refine blk_put (cs := #[.int .i64 t322, .int .u64 t323, .int .i64 t324, .int .u64 0]) ?_ 3 _ rfl; refine zM ?_; refine blk_put (cs := #[.int .i64 t322, .int .u64 t323, .int .i64 0, .int .u64 0]) ?_ 2 _ rfl; refine zM ?_; refine blk_put (cs := #[.int .i64 t322, .int .u64 0, .int .i64 0, .int .u64 0]) ?_ 1 _ rfl; refine zM ?_; refine blk_put (cs := #[.int .i64 0, .int .u64 0, .int .i64 0, .int .u64 0]) ?_ 0 _ rfl; refine zM ?_; refine blk_far ?_ NB316_315.out _; refine zM ?_; refine blk_far ?_ NB316_315.out _; refine zM ?_; exact BK316.out) Try.underlying109 rfl (by kernel_rfl)) rfl ?_
 exact ⟨by first | rfl | (simp [errW_none, errW_some] <;> rfl) | (simp [*, errW_none, errW_some] <;> rfl), zo HB⟩

/-! ### sequiturref01_Fits: function 96 -/
def sequiturref01_Fits.f (a0_0 : Int) (a0_1 : Int) : Option (Int × Bool) := if a0_0 = 0 then (if (wrap64 (a0_1)) ≥ 0 then (some (wrap64 (a0_1), true)) else (if a0_0 = (-1) then (if (wrap64 (a0_1)) < 0 then (some (wrap64 (a0_1), true)) else (some (0, false))) else (some (0, false)))) else (if a0_0 = (-1) then (if (wrap64 (a0_1)) < 0 then (some (wrap64 (a0_1), true)) else (some (0, false))) else (some (0, false)))
set_option maxHeartbeats 8000000 in
set_option maxRecDepth 100000 in
theorem sequiturref01_Fits.calls (a0_0 : Int) (a0_1 : Int) (r1 : Int) (r2 : Bool) (w : World) (h : sequiturref01_Fits.f a0_0 a0_1 = some (r1, r2)) :
  Calls Try.prog 96 #[.agg #[.int .i64 a0_0, .int .u64 a0_1]] w fun e w' => e = .returned (.tuple #[.int .i64 r1, .bool r2]) ∧ Below w.heap.size w w' := by
 have hu107 := Try.underlying107
 have HB := zK (Below.refl w.heap.size w)
 have H : (if a0_0 = 0 then (if (wrap64 (a0_1)) ≥ 0 then (some (wrap64 (a0_1), true)) else (if a0_0 = (-1) then (if (wrap64 (a0_1)) < 0 then (some (wrap64 (a0_1), true)) else (some (0, false))) else (some (0, false)))) else (if a0_0 = (-1) then (if (wrap64 (a0_1)) < 0 then (some (wrap64 (a0_1), true)) else (some (0, false))) else (some (0, false)))) = some (r1, r2) := h
 clear h
 by_cases c2 : a0_0 = 0
 ·rw [if_pos c2] at H
  have c2b0 : (a0_0 == 0) = true := beq_iff_eq.mpr c2
  have c2b1 : (a0_0 != 0) = false := bne_eq_false_iff_eq.mpr c2; clear c2
  by_cases c3 : (wrap64 (a0_1)) ≥ 0
  ·rw [if_pos c3] at H
   have c3b0 : decide (0 ≤ (wrap64 (a0_1))) = true := decide_eq_true c3
   clear c3
   simp only [Option.some.injEq, Prod.mk.injEq] at H
   obtain ⟨rfl, rfl⟩ := H
   go_enter Try.func96, Try.ntmps96
   go_wp2_with (first | ((with_reducible refine gate_dst (N := 1) rfl ?_); refine box_event ?hg (N := 1) ?hd (cs := #[.int .i64 a0_0, .int .u64 a0_1]) (t := 107) ?hr ?_; (case hd => rfl); (case hg => rfl); (case hr => first | (go_simp; done) | (go_simp; rfl)); intro gb326 hg w4 hbox hb; have BK326 := zK (hbox); have GW326 := zK ((by rw [hg]; exact (below_size (zo HB)) : w.heap.size ≤ gb326)); have GE326 := zK ((by rw [hg]; exact (below_size (zo HB)) : w.heap.size ≤ gb326)); replace HB := zK (below_step (zo HB) hb); clear hb hbox hg; have hcz5_0 : w4.cell? ⟨gb326, 0, none⟩ = some (.int .i64 a0_0) := (blk_cell BK326.out 0).trans rfl; have hcz5_1 : w4.cell? ⟨gb326, 1, none⟩ = some (.int .u64 a0_1) := (blk_cell BK326.out 1).trans rfl; have hfz5_0 := blk_frozen BK326.out 0; have hfz5_1 := blk_frozen BK326.out 1))
   go_ret2
   exact ⟨by first | rfl | (simp [errW_none, errW_some] <;> rfl) | (simp [*, errW_none, errW_some] <;> rfl), zo HB⟩
  ·rw [if_neg c3] at H
   have c3b0 : decide (0 ≤ (wrap64 (a0_1))) = false := decide_eq_false c3
   clear c3
   by_cases c6 : a0_0 = (-1)
   ·rw [if_pos c6] at H
    have c6b0 : (a0_0 == (-1)) = true := beq_iff_eq.mpr c6
    have c6b1 : (a0_0 != (-1)) = false := bne_eq_false_iff_eq.mpr c6; clear c6
    by_cases c7 : (wrap64 (a0_1)) < 0
    ·rw [if_pos c7] at H
     have c7b0 : decide ((wrap64 (a0_1)) < 0) = true := decide_eq_true c7
     clear c7
     simp only [Option.some.injEq, Prod.mk.injEq] at H
     obtain ⟨rfl, rfl⟩ := H
     go_enter Try.func96, Try.ntmps96
     go_wp2_with (first | ((with_reducible refine gate_dst (N := 1) rfl ?_); refine box_event ?hg (N := 1) ?hd (cs := #[.int .i64 a0_0, .int .u64 a0_1]) (t := 107) ?hr ?_; (case hd => rfl); (case hg => rfl); (case hr => first | (go_simp; done) | (go_simp; rfl)); intro gb326 hg w8 hbox hb; have BK326 := zK (hbox); have GW326 := zK ((by rw [hg]; exact (below_size (zo HB)) : w.heap.size ≤ gb326)); have GE326 := zK ((by rw [hg]; exact (below_size (zo HB)) : w.heap.size ≤ gb326)); replace HB := zK (below_step (zo HB) hb); clear hb hbox hg; have hcz9_0 : w8.cell? ⟨gb326, 0, none⟩ = some (.int .i64 a0_0) := (blk_cell BK326.out 0).trans rfl; have hcz9_1 : w8.cell? ⟨gb326, 1, none⟩ = some (.int .u64 a0_1) := (blk_cell BK326.out 1).trans rfl; have hfz9_0 := blk_frozen BK326.out 0; have hfz9_1 := blk_frozen BK326.out 1))
     go_ret2
     exact ⟨by first | rfl | (simp [errW_none, errW_some] <;> rfl) | (simp [*, errW_none, errW_some] <;> rfl), zo HB⟩
    ·rw [if_neg c7] at H
     have c7b0 : decide ((wrap64 (a0_1)) < 0) = false := decide_eq_false c7
     clear c7
     simp only [Option.some.injEq, Prod.mk.injEq] at H
     obtain ⟨rfl, rfl⟩ := H
     go_enter Try.func96, Try.ntmps96
     go_wp2_with (first | ((with_reducible refine gate_dst (N := 1) rfl ?_); refine box_event ?hg (N := 1) ?hd (cs := #[.int .i64 a0_0, .int .u64 a0_1]) (t := 107) ?hr ?_; (case hd => rfl); (case hg => rfl); (case hr => first | (go_simp; done) | (go_simp; rfl)); intro gb326 hg w10 hbox hb; have BK326 := zK (hbox); have GW326 := zK ((by rw [hg]; exact (below_size (zo HB)) : w.heap.size ≤ gb326)); have GE326 := zK ((by rw [hg]; exact (below_size (zo HB)) : w.heap.size ≤ gb326)); replace HB := zK (below_step (zo HB) hb); clear hb hbox hg; have hcz11_0 : w10.cell? ⟨gb326, 0, none⟩ = some (.int .i64 a0_0) := (blk_cell BK326.out 0).trans rfl; have hcz11_1 : w10.cell? ⟨gb326, 1, none⟩ = some (.int .u64 a0_1) := (blk_cell BK326.out 1).trans rfl; have hfz11_0 := blk_frozen BK326.out 0; have hfz11_1 := blk_frozen BK326.out 1))
     go_ret2
     exact ⟨by first | rfl | (simp [errW_none, errW_some] <;> rfl) | (simp [*, errW_none, errW_some] <;> rfl), zo HB⟩
   ·rw [if_neg c6] at H
    have c6b0 : (a0_0 == (-1)) = false := beq_eq_false_iff_ne.mpr c6
    have c6b1 : (a0_0 != (-1)) = true := bne_iff_ne.mpr c6
    simp only [Option.some.injEq, Prod.mk.injEq] at H
    obtain ⟨rfl, rfl⟩ := H
    go_enter Try.func96, Try.ntmps96
    go_wp2_with (first | ((with_reducible refine gate_dst (N := 1) rfl ?_); refine box_event ?hg (N := 1) ?hd (cs := #[.int .i64 a0_0, .int .u64 a0_1]) (t := 107) ?hr ?_; (case hd => rfl); (case hg => rfl); (case hr => first | (go_simp; done) | (go_simp; rfl)); intro gb326 hg w12 hbox hb; have BK326 := zK (hbox); have GW326 := zK ((by rw [hg]; exact (below_size (zo HB)) : w.heap.size ≤ gb326)); have GE326 := zK ((by rw [hg]; exact (below_size (zo HB)) : w.heap.size ≤ gb326)); replace HB := zK (below_step (zo HB) hb); clear hb hbox hg; have hcz13_0 : w12.cell? ⟨gb326, 0, none⟩ = some (.int .i64 a0_0) := (blk_cell BK326.out 0).trans rfl; have hcz13_1 : w12.cell? ⟨gb326, 1, none⟩ = some (.int .u64 a0_1) := (blk_cell BK326.out 1).trans rfl; have hfz13_0 := blk_frozen BK326.out 0; have hfz13_1 := blk_frozen BK326.out 1))
    go_ret2
    exact ⟨by first | rfl | (simp [errW_none, errW_some] <;> rfl) | (simp [*, errW_none, errW_some] <;> rfl), zo HB⟩
 ·rw [if_neg c2] at H
  have c2b0 : (a0_0 == 0) = false := beq_eq_false_iff_ne.mpr c2
  have c2b1 : (a0_0 != 0) = true := bne_iff_ne.mpr c2
  by_cases c14 : a0_0 = (-1)
  ·rw [if_pos c14] at H
   have c14b0 : (a0_0 == (-1)) = true := beq_iff_eq.mpr c14
   have c14b1 : (a0_0 != (-1)) = false := bne_eq_false_iff_eq.mpr c14
   clear c14
   by_cases c15 : (wrap64 (a0_1)) < 0
   ·rw [if_pos c15] at H
    have c15b0 : decide ((wrap64 (a0_1)) < 0) = true := decide_eq_true c15
    clear c15
    simp only [Option.some.injEq, Prod.mk.injEq] at H
    obtain ⟨rfl, rfl⟩ := H
    go_enter Try.func96, Try.ntmps96
    go_wp2_with (first | ((with_reducible refine gate_dst (N := 1) rfl ?_); refine box_event ?hg (N := 1) ?hd (cs := #[.int .i64 a0_0, .int .u64 a0_1]) (t := 107) ?hr ?_; (case hd => rfl); (case hg => rfl); (case hr => first | (go_simp; done) | (go_simp; rfl)); intro gb326 hg w16 hbox hb; have BK326 := zK (hbox); have GW326 := zK ((by rw [hg]; exact (below_size (zo HB)) : w.heap.size ≤ gb326)); have GE326 := zK ((by rw [hg]; exact (below_size (zo HB)) : w.heap.size ≤ gb326)); replace HB := zK (below_step (zo HB) hb); clear hb hbox hg; have hcz17_0 : w16.cell? ⟨gb326, 0, none⟩ = some (.int .i64 a0_0) := (blk_cell BK326.out 0).trans rfl; have hcz17_1 : w16.cell? ⟨gb326, 1, none⟩ = some (.int .u64 a0_1) := (blk_cell BK326.out 1).trans rfl; have hfz17_0 := blk_frozen BK326.out 0; have hfz17_1 := blk_frozen BK326.out 1))
    go_ret2
    exact ⟨by first | rfl | (simp [errW_none, errW_some] <;> rfl) | (simp [*, errW_none, errW_some] <;> rfl), zo HB⟩
   ·rw [if_neg c15] at H
    have c15b0 : decide ((wrap64 (a0_1)) < 0) = false := decide_eq_false c15
    clear c15
    simp only [Option.some.injEq, Prod.mk.injEq] at H
    obtain ⟨rfl, rfl⟩ := H
    go_enter Try.func96, Try.ntmps96
    go_wp2_with (first | ((with_reducible refine gate_dst (N := 1) rfl ?_); refine box_event ?hg (N := 1) ?hd (cs := #[.int .i64 a0_0, .int .u64 a0_1]) (t := 107) ?hr ?_; (case hd => rfl); (case hg => rfl); (case hr => first | (go_simp; done) | (go_simp; rfl)); intro gb326 hg w18 hbox hb; have BK326 := zK (hbox); have GW326 := zK ((by rw [hg]; exact (below_size (zo HB)) : w.heap.size ≤ gb326)); have GE326 := zK ((by rw [hg]; exact (below_size (zo HB)) : w.heap.size ≤ gb326)); replace HB := zK (below_step (zo HB) hb); clear hb hbox hg; have hcz19_0 : w18.cell? ⟨gb326, 0, none⟩ = some (.int .i64 a0_0) := (blk_cell BK326.out 0).trans rfl; have hcz19_1 : w18.cell? ⟨gb326, 1, none⟩ = some (.int .u64 a0_1) := (blk_cell BK326.out 1).trans rfl; have hfz19_0 := blk_frozen BK326.out 0; have hfz19_1 := blk_frozen BK326.out 1))
    go_ret2
    exact ⟨by first | rfl | (simp [errW_none, errW_some] <;> rfl) | (simp [*, errW_none, errW_some] <;> rfl), zo HB⟩
  ·rw [if_neg c14] at H
   have c14b0 : (a0_0 == (-1)) = false := beq_eq_false_iff_ne.mpr c14
   have c14b1 : (a0_0 != (-1)) = true := bne_iff_ne.mpr c14
   simp only [Option.some.injEq, Prod.mk.injEq] at H
   obtain ⟨rfl, rfl⟩ := H
   go_enter Try.func96, Try.ntmps96
   go_wp2_with (first | ((with_reducible refine gate_dst (N := 1) rfl ?_); refine box_event ?hg (N := 1) ?hd (cs := #[.int .i64 a0_0, .int .u64 a0_1]) (t := 107) ?hr ?_; (case hd => rfl); (case hg => rfl); (case hr => first | (go_simp; done) | (go_simp; rfl)); intro gb326 hg w20 hbox hb; have BK326 := zK (hbox); have GW326 := zK ((by rw [hg]; exact (below_size (zo HB)) : w.heap.size ≤ gb326)); have GE326 := zK ((by rw [hg]; exact (below_size (zo HB)) : w.heap.size ≤ gb326)); replace HB := zK (below_step (zo HB) hb); clear hb hbox hg; have hcz21_0 : w20.cell? ⟨gb326, 0, none⟩ = some (.int .i64 a0_0) := (blk_cell BK326.out 0).trans rfl; have hcz21_1 : w20.cell? ⟨gb326, 1, none⟩ = some (.int .u64 a0_1) := (blk_cell BK326.out 1).trans rfl; have hfz21_0 := blk_frozen BK326.out 0; have hfz21_1 := blk_frozen BK326.out 1))
   go_ret2
   exact ⟨by first | rfl | (simp [errW_none, errW_some] <;> rfl) | (simp [*, errW_none, errW_some] <;> rfl), zo HB⟩

end Go.Proofs.Ytkfbfgkdabljiaa.PShadowHolds
