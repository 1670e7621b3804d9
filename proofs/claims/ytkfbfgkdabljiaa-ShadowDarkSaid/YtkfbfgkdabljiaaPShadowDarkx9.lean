/- What the call of each function that the law reaches comes to: it answers as the plain function of the same name does, wherever that one answers; and the law itself out of its plain form. Written by a program of this session (an extended copy of the printer); no condition but what stands in each theorem. -/
import Derived.Test.YtkfbfgkdabljiaaPShadowDarkx0
namespace Go.Proofs.Ytkfbfgkdabljiaa.PShadowDark
open Go.RowKit Go.Proofs.YtkfbfgkdabljiaaW.PrintWords Go.Proofs.YtkfbfgkdabljiaaW.PrintLast Go.Proofs.YtkfbfgkdabljiaaW.PrintMore
open Go.Proofs.YtkfbfgkdabljiaaW.PrintWords renaming blk_drewN → zN, blk_drew → zD, blk_alloc → zA, below_alloc → yA, pw_below_drewN → yN, below_drew1 → yD, below_set → yS, gate_callee → zC
open Go.Proofs.YtkfbfgkdabljiaaW.PrintWords.Aside0 renaming mk → zK
open Bool renaming true → T_, false → F_
open List renaming setIfInBounds_toArray → zt, set_cons_zero → zz, set_cons_succ → zs
attribute [local go_sem] max2_int min2_int max_two min_two max_three min_three max_four min_four   -- for this text's walks alone
set_option linter.unusedVariables false
set_option linter.unusedSimpArgs false

/-! ### sequiturref01_Plus: function 79 -/
def sequiturref01_Plus.f (a0_0 : Int) (a0_1 : Int) (a1_0 : Int) (a1_1 : Int) : Option (Int × Int) := if (IntKind.u64.wrap (a0_1 + a1_1)) < a0_1 then (some (wrap64 ((wrap64 (a0_0 + a1_0)) + 1), IntKind.u64.wrap (a0_1 + a1_1))) else (some (wrap64 (a0_0 + a1_0), IntKind.u64.wrap (a0_1 + a1_1)))
set_option maxHeartbeats 8000000 in
set_option maxRecDepth 100000 in
theorem sequiturref01_Plus.calls (a0_0 : Int) (a0_1 : Int) (a1_0 : Int) (a1_1 : Int) (r1 : Int) (r2 : Int) (w : World) (h : sequiturref01_Plus.f a0_0 a0_1 a1_0 a1_1 = some (r1, r2)) :
  Calls Try.prog 79 #[.agg #[.int .i64 a0_0, .int .u64 a0_1], .agg #[.int .i64 a1_0, .int .u64 a1_1]] w fun e w' => e = .returned (.agg #[.int .i64 r1, .int .u64 r2]) ∧ Below w.heap.size w w' := by
 have hu107 := Try.underlying107
 have HB := zK (Below.refl w.heap.size w)
 have H : (if (IntKind.u64.wrap (a0_1 + a1_1)) < a0_1 then (some (wrap64 ((wrap64 (a0_0 + a1_0)) + 1), IntKind.u64.wrap (a0_1 + a1_1))) else (some (wrap64 (a0_0 + a1_0), IntKind.u64.wrap (a0_1 + a1_1)))) = some (r1, r2) := h
 clear h
 by_cases c3 : (IntKind.u64.wrap (a0_1 + a1_1)) < a0_1
 ·rw [if_pos c3] at H
  have c3b0 : decide ((IntKind.u64.wrap (a0_1 + a1_1)) < a0_1) = true := decide_eq_true c3
  clear c3
  simp only [Option.some.injEq, Prod.mk.injEq] at H
  obtain ⟨rfl, rfl⟩ := H
  go_enter Try.func79, Try.ntmps79
  go_wp2_with (first | ((with_reducible refine gate_dst (N := 2) rfl ?_); refine box_event ?hg (N := 2) ?hd (cs := #[.int .i64 a0_0, .int .u64 a0_1]) (t := 107) ?hr ?_; (case hd => rfl); (case hg => rfl); (case hr => first | (go_simp; done) | (go_simp; rfl)); intro gb268 hg w4 hbox hb; have BK268 := zK (hbox); have GW268 := zK ((by rw [hg]; exact (below_size (zo HB)) : w.heap.size ≤ gb268)); have GE268 := zK ((by rw [hg]; exact (below_size (zo HB)) : w.heap.size ≤ gb268)); replace HB := zK (below_step (zo HB) hb); clear hb hbox hg) | ((with_reducible refine gate_dst (N := 3) rfl ?_); refine box_event ?hg (N := 3) ?hd (cs := #[.int .i64 a1_0, .int .u64 a1_1]) (t := 107) ?hr ?_; (case hd => rfl); (case hg => rfl); (case hr => first | (go_simp; done) | (go_simp; rfl)); intro gb269 hg w5 hbox hb; have BK269 := zK (hbox); have GW269 := zK ((by rw [hg]; exact (below_size (zo HB)) : w.heap.size ≤ gb269)); have GE269 := zK ((by rw [hg]; exact (below_size (zo HB)) : w.heap.size ≤ gb269)); replace HB := zK (below_step (zo HB) hb); have NB268_269 := zK ((by rw [hg]; exact Nat.ne_of_lt (blk_lt (g := gb268) (o := .cells #[.int .i64 a0_0, .int .u64 a0_1] 107 (0, 0)) (zb BK268)) : gb268 ≠ gb269)); have NB269_268 := zK ((by rw [hg]; exact Nat.ne_of_gt (blk_lt (g := gb268) (o := .cells #[.int .i64 a0_0, .int .u64 a0_1] 107 (0, 0)) (zb BK268)) : gb269 ≠ gb268)); replace BK268 := zK (blk_below (g := gb268) (o := .cells #[.int .i64 a0_0, .int .u64 a0_1] 107 (0, 0)) (zb BK268) hb); clear hb hbox hg) | ((with_reducible refine gate_dst (N := 4) rfl ?_); refine box_event ?hg (N := 4) ?hd (cs := #[.int .i64 0, .int .u64 0]) (t := 107) ?hr ?_; (case hd => rfl); (case hg => rfl); (case hr => first | (go_simp; done) | (go_simp; rfl)); intro gb270 hg w6 hbox hb; have BK270 := zK (hbox); have GW270 := zK ((by rw [hg]; exact (below_size (zo HB)) : w.heap.size ≤ gb270)); have GE270 := zK ((by rw [hg]; exact (below_size (zo HB)) : w.heap.size ≤ gb270)); replace HB := zK (below_step (zo HB) hb); have NB268_270 := zK ((by rw [hg]; exact Nat.ne_of_lt (blk_lt (g := gb268) (o := .cells #[.int .i64 a0_0, .int .u64 a0_1] 107 (0, 0)) (zb BK268)) : gb268 ≠ gb270)); have NB270_268 := zK ((by rw [hg]; exact Nat.ne_of_gt (blk_lt (g := gb268) (o := .cells #[.int .i64 a0_0, .int .u64 a0_1] 107 (0, 0)) (zb BK268)) : gb270 ≠ gb268)); replace BK268 := zK (blk_below (g := gb268) (o := .cells #[.int .i64 a0_0, .int .u64 a0_1] 107 (0, 0)) (zb BK268) hb); have NB269_270 := zK ((by rw [hg]; exact Nat.ne_of_lt (blk_lt (g := gb269) (o := .cells #[.int .i64 a1_0, .int .u64 a1_1] 107 (0, 0)) (zb BK269)) : gb269 ≠ gb270)); have NB270_269 := zK ((by rw [hg]; exact Nat.ne_of_gt (blk_lt (g := gb269) (o := .cells #[.int .i64 a1_0, .int .u64 a1_1] 107 (0, 0)) (zb BK269)) : gb270 ≠ gb269)); replace BK269 := zK (blk_below (g := gb269) (o := .cells #[.int .i64 a1_0, .int .u64 a1_1] 107 (0, 0)) (zb BK269) hb); clear hb hbox hg; have hnb7 := NB268_269.out; have hnc7 := NB269_268.out; have hnb8 := NB268_270.out; have hnc8 := NB270_268.out; have hcz9_0 : w6.cell? ⟨gb268, 0, none⟩ = some (.int .i64 a0_0) := (blk_cell BK268.out 0).trans rfl; have hcz9_1 : w6.cell? ⟨gb268, 1, none⟩ = some (.int .u64 a0_1) := (blk_cell BK268.out 1).trans rfl; have hfz9_0 := blk_frozen BK268.out 0; have hfz9_1 := blk_frozen BK268.out 1; have hnb10 := NB269_270.out; have hnc10 := NB270_269.out; have hcz11_0 : w6.cell? ⟨gb269, 0, none⟩ = some (.int .i64 a1_0) := (blk_cell BK269.out 0).trans rfl; have hcz11_1 : w6.cell? ⟨gb269, 1, none⟩ = some (.int .u64 a1_1) := (blk_cell BK269.out 1).trans rfl; have hfz11_0 := blk_frozen BK269.out 0; have hfz11_1 := blk_frozen BK269.out 1; have hcz12_0 : w6.cell? ⟨gb270, 0, none⟩ = some (.int .i64 0) := (blk_cell BK270.out 0).trans rfl; have hcz12_1 : w6.cell? ⟨gb270, 1, none⟩ = some (.int .u64 0) := (blk_cell BK270.out 1).trans rfl; have hfz12_0 := blk_frozen BK270.out 0; have hfz12_1 := blk_frozen BK270.out 1))
  refine bodyPost_ret (results_cell_row rfl _ _ gb270 107 #[.int .i64 (wrap64 ((wrap64 (a0_0 + a1_0)) + 1)), .int .u64 (IntKind.u64.wrap (a0_1 + a1_1))] (0, 0) _ rfl (by refine zM ?_; refine blk_put (cs := #[.int .i64 (wrap64 ((wrap64 (a0_0 + a1_0)) + 1)), .int .u64 0]) ?_ 1 _ rfl; refine zM ?_; refine blk_put (cs := #[.int .i64 0, .int .u64 0]) ?_ 0 _ rfl; refine zM ?_; exact BK270.out) Try.underlying107 rfl (by kernel_rfl)) rfl ?_
  exact ⟨by first | rfl | (simp [errW_none, errW_some] <;> rfl) | (simp [*, errW_none, errW_some] <;> rfl), zo HB⟩
 ·rw [if_neg c3] at H
  have c3b0 : decide ((IntKind.u64.wrap (a0_1 + a1_1)) < a0_1) = false := decide_eq_false c3
  clear c3
  simp only [Option.some.injEq, Prod.mk.injEq] at H
  obtain ⟨rfl, rfl⟩ := H
  go_enter Try.func79, Try.ntmps79
  go_wp2_with (first | ((with_reducible refine gate_dst (N := 2) rfl ?_); refine box_event ?hg (N := 2) ?hd (cs := #[.int .i64 a0_0, .int .u64 a0_1]) (t := 107) ?hr ?_; (case hd => rfl); (case hg => rfl); (case hr => first | (go_simp; done) | (go_simp; rfl)); intro gb268 hg w13 hbox hb; have BK268 := zK (hbox); have GW268 := zK ((by rw [hg]; exact (below_size (zo HB)) : w.heap.size ≤ gb268)); have GE268 := zK ((by rw [hg]; exact (below_size (zo HB)) : w.heap.size ≤ gb268)); replace HB := zK (below_step (zo HB) hb); clear hb hbox hg) | ((with_reducible refine gate_dst (N := 3) rfl ?_); refine box_event ?hg (N := 3) ?hd (cs := #[.int .i64 a1_0, .int .u64 a1_1]) (t := 107) ?hr ?_; (case hd => rfl); (case hg => rfl); (case hr => first | (go_simp; done) | (go_simp; rfl)); intro gb269 hg w14 hbox hb; have BK269 := zK (hbox); have GW269 := zK ((by rw [hg]; exact (below_size (zo HB)) : w.heap.size ≤ gb269)); have GE269 := zK ((by rw [hg]; exact (below_size (zo HB)) : w.heap.size ≤ gb269)); replace HB := zK (below_step (zo HB) hb); have NB268_269 := zK ((by rw [hg]; exact Nat.ne_of_lt (blk_lt (g := gb268) (o := .cells #[.int .i64 a0_0, .int .u64 a0_1] 107 (0, 0)) (zb BK268)) : gb268 ≠ gb269)); have NB269_268 := zK ((by rw [hg]; exact Nat.ne_of_gt (blk_lt (g := gb268) (o := .cells #[.int .i64 a0_0, .int .u64 a0_1] 107 (0, 0)) (zb BK268)) : gb269 ≠ gb268)); replace BK268 := zK (blk_below (g := gb268) (o := .cells #[.int .i64 a0_0, .int .u64 a0_1] 107 (0, 0)) (zb BK268) hb); clear hb hbox hg) | ((with_reducible refine gate_dst (N := 4) rfl ?_); refine box_event ?hg (N := 4) ?hd (cs := #[.int .i64 0, .int .u64 0]) (t := 107) ?hr ?_; (case hd => rfl); (case hg => rfl); (case hr => first | (go_simp; done) | (go_simp; rfl)); intro gb270 hg w15 hbox hb; have BK270 := zK (hbox); have GW270 := zK ((by rw [hg]; exact (below_size (zo HB)) : w.heap.size ≤ gb270)); have GE270 := zK ((by rw [hg]; exact (below_size (zo HB)) : w.heap.size ≤ gb270)); replace HB := zK (below_step (zo HB) hb); have NB268_270 := zK ((by rw [hg]; exact Nat.ne_of_lt (blk_lt (g := gb268) (o := .cells #[.int .i64 a0_0, .int .u64 a0_1] 107 (0, 0)) (zb BK268)) : gb268 ≠ gb270)); have NB270_268 := zK ((by rw [hg]; exact Nat.ne_of_gt (blk_lt (g := gb268) (o := .cells #[.int .i64 a0_0, .int .u64 a0_1] 107 (0, 0)) (zb BK268)) : gb270 ≠ gb268)); replace BK268 := zK (blk_below (g := gb268) (o := .cells #[.int .i64 a0_0, .int .u64 a0_1] 107 (0, 0)) (zb BK268) hb); have NB269_270 := zK ((by rw [hg]; exact Nat.ne_of_lt (blk_lt (g := gb269) (o := .cells #[.int .i64 a1_0, .int .u64 a1_1] 107 (0, 0)) (zb BK269)) : gb269 ≠ gb270)); have NB270_269 := zK ((by rw [hg]; exact Nat.ne_of_gt (blk_lt (g := gb269) (o := .cells #[.int .i64 a1_0, .int .u64 a1_1] 107 (0, 0)) (zb BK269)) : gb270 ≠ gb269)); replace BK269 := zK (blk_below (g := gb269) (o := .cells #[.int .i64 a1_0, .int .u64 a1_1] 107 (0, 0)) (zb BK269) hb); clear hb hbox hg; have hnb16 := NB268_269.out; have hnc16 := NB269_268.out; have hnb17 := NB268_270.out; have hnc17 := NB270_268.out; have hcz18_0 : w15.cell? ⟨gb268, 0, none⟩ = some (.int .i64 a0_0) := (blk_cell BK268.out 0).trans rfl; have hcz18_1 : w15.cell? ⟨gb268, 1, none⟩ = some (.int .u64 a0_1) := (blk_cell BK268.out 1).trans rfl; have hfz18_0 := blk_frozen BK268.out 0; have hfz18_1 := blk_frozen BK268.out 1; have hnb19 := NB269_270.out; have hnc19 := NB270_269.out; have hcz20_0 : w15.cell? ⟨gb269, 0, none⟩ = some (.int .i64 a1_0) := (blk_cell BK269.out 0).trans rfl; have hcz20_1 : w15.cell? ⟨gb269, 1, none⟩ = some (.int .u64 a1_1) := (blk_cell BK269.out 1).trans rfl; have hfz20_0 := blk_frozen BK269.out 0; have hfz20_1 := blk_frozen BK269.out 1; have hcz21_0 : w15.cell? ⟨gb270, 0, none⟩ = some (.int .i64 0) := (blk_cell BK270.out 0).trans rfl; have hcz21_1 : w15.cell? ⟨gb270, 1, none⟩ = some (.int .u64 0) := (blk_cell BK270.out 1).trans rfl; have hfz21_0 := blk_frozen BK270.out 0; have hfz21_1 := blk_frozen BK270.out 1))
  refine bodyPost_ret (results_cell_row rfl _ _ gb270 107 #[.int .i64 (wrap64 (a0_0 + a1_0)), .int .u64 (IntKind.u64.wrap (a0_1 + a1_1))] (0, 0) _ rfl (by refine zM ?_; refine blk_put (cs := #[.int .i64 (wrap64 (a0_0 + a1_0)), .int .u64 0]) ?_ 1 _ rfl; refine zM ?_; refine blk_put (cs := #[.int .i64 0, .int .u64 0]) ?_ 0 _ rfl; refine zM ?_; exact BK270.out) Try.underlying107 rfl (by kernel_rfl)) rfl ?_
  exact ⟨by first | rfl | (simp [errW_none, errW_some] <;> rfl) | (simp [*, errW_none, errW_some] <;> rfl), zo HB⟩

/-! ### sequiturref01_Minus: function 80 -/
def sequiturref01_Minus.f (a0_0 : Int) (a0_1 : Int) : Option (Int × Int) := (sequiturref01_Plus.f (wrap64 ((-1) - a0_0)) (Go.bits .xor .u64 18446744073709551615 a0_1) 0 1).bind fun bt273 => (some (bt273.1, bt273.2))
set_option maxHeartbeats 8000000 in
set_option maxRecDepth 100000 in
theorem sequiturref01_Minus.calls (a0_0 : Int) (a0_1 : Int) (r1 : Int) (r2 : Int) (w : World) (h : sequiturref01_Minus.f a0_0 a0_1 = some (r1, r2)) :
  Calls Try.prog 80 #[.agg #[.int .i64 a0_0, .int .u64 a0_1]] w fun e w' => e = .returned (.agg #[.int .i64 r1, .int .u64 r2]) ∧ Below w.heap.size w w' := by
 have hu107 := Try.underlying107
 have HB := zK (Below.refl w.heap.size w)
 have H : ((sequiturref01_Plus.f (wrap64 ((-1) - a0_0)) (Go.bits .xor .u64 18446744073709551615 a0_1) 0 1).bind fun bt273 => (some (bt273.1, bt273.2))) = some (r1, r2) := h
 clear h; replace H := Option.bind_eq_some_iff.mp H
 obtain ⟨⟨t273, t274⟩, A20, H⟩ := H
 replace H : (some (t273, t274)) = some (r1, r2) := H
 have A2 := zK A20; clear A20
 simp only [Option.some.injEq, Prod.mk.injEq] at H
 obtain ⟨rfl, rfl⟩ := H
 go_enter Try.func80, Try.ntmps80
 go_wp2_with (first | ((with_reducible refine gate_dst (N := 1) rfl ?_); refine box_event ?hg (N := 1) ?hd (cs := #[.int .i64 a0_0, .int .u64 a0_1]) (t := 107) ?hr ?_; (case hd => rfl); (case hg => rfl); (case hr => first | (go_simp; done) | (go_simp; rfl)); intro gb271 hg w3 hbox hb; have BK271 := zK (hbox); have GW271 := zK ((by rw [hg]; exact (below_size (zo HB)) : w.heap.size ≤ gb271)); have GE271 := zK ((by rw [hg]; exact (below_size (zo HB)) : w.heap.size ≤ gb271)); replace HB := zK (below_step (zo HB) hb); clear hb hbox hg) | ((with_reducible refine gate_dst (N := 2) rfl ?_); refine box_event ?hg (N := 2) ?hd (cs := #[.int .i64 0, .int .u64 0]) (t := 107) ?hr ?_; (case hd => rfl); (case hg => rfl); (case hr => first | (go_simp; done) | (go_simp; rfl)); intro gb272 hg w4 hbox hb; have BK272 := zK (hbox); have GW272 := zK ((by rw [hg]; exact (below_size (zo HB)) : w.heap.size ≤ gb272)); have GE272 := zK ((by rw [hg]; exact (below_size (zo HB)) : w.heap.size ≤ gb272)); replace HB := zK (below_step (zo HB) hb); have NB271_272 := zK ((by rw [hg]; exact Nat.ne_of_lt (blk_lt (g := gb271) (o := .cells #[.int .i64 a0_0, .int .u64 a0_1] 107 (0, 0)) (zb BK271)) : gb271 ≠ gb272)); have NB272_271 := zK ((by rw [hg]; exact Nat.ne_of_gt (blk_lt (g := gb271) (o := .cells #[.int .i64 a0_0, .int .u64 a0_1] 107 (0, 0)) (zb BK271)) : gb272 ≠ gb271)); replace BK271 := zK (blk_below (g := gb271) (o := .cells #[.int .i64 a0_0, .int .u64 a0_1] 107 (0, 0)) (zb BK271) hb); clear hb hbox hg; have hnb5 := NB271_272.out; have hnc5 := NB272_271.out; have hcz6_0 : w4.cell? ⟨gb271, 0, none⟩ = some (.int .i64 a0_0) := (blk_cell BK271.out 0).trans rfl; have hcz6_1 : w4.cell? ⟨gb271, 1, none⟩ = some (.int .u64 a0_1) := (blk_cell BK271.out 1).trans rfl; have hfz6_0 := blk_frozen BK271.out 0; have hfz6_1 := blk_frozen BK271.out 1) | ((with_reducible refine zC (f := 79) rfl ?_); refine goesL_ (some 11) rfl rfl Try.func79 (by kernel_rfl) rfl #[.agg #[.int .i64 (wrap64 ((-1) - a0_0)), .int .u64 (Go.bits .xor .u64 18446744073709551615 a0_1)], .agg #[.int .i64 0, .int .u64 1]] rfl (by (try simp only [List.map_toArray, List.map_cons, List.map_nil]); first | done | rfl | (simp only [List.length_drop, List.length_take]; rfl)) ?_; (with_reducible refine (sequiturref01_Plus.calls (wrap64 ((-1) - a0_0)) (Go.bits .xor .u64 18446744073709551615 a0_1) 0 1 t273 t274 _ A2.out).mono ?_); rintro e w7 ⟨rfl, hb⟩; refine ⟨_, rfl, ?_⟩; replace BK271 := zK (blk_below (g := gb271) (o := .cells #[.int .i64 a0_0, .int .u64 a0_1] 107 (0, 0)) (zb BK271) hb); replace BK272 := zK (blk_below (g := gb272) (o := .cells #[.int .i64 0, .int .u64 0] 107 (0, 0)) (zb BK272) hb); replace HB := zK (below_step (zo HB) hb); (try clear hb); (try clear hb2); (try clear hk); (try clear hi); have hcz8_0 : w7.cell? ⟨gb272, 0, none⟩ = some (.int .i64 0) := (blk_cell BK272.out 0).trans rfl; have hcz8_1 : w7.cell? ⟨gb272, 1, none⟩ = some (.int .u64 0) := (blk_cell BK272.out 1).trans rfl; have hfz8_0 := blk_frozen BK272.out 0; have hfz8_1 := blk_frozen BK272.out 1))
 refine bodyPost_ret (results_cell_row rfl _ _ gb272 107 #[.int .i64 t273, .int .u64 t274] (0, 0) _ rfl (by refine zM ?_; refine blk_put (cs := #[.int .i64 t273, .int .u64 0]) ?_ 1 _ rfl; refine zM ?_; refine blk_put (cs := #[.int .i64 0, .int .u64 0]) ?_ 0 _ rfl; refine zM ?_; exact BK272.out) Try.underlying107 rfl (by kernel_rfl)) rfl ?_
 exact ⟨by first | rfl | (simp [errW_none, errW_some] <;> rfl) | (simp [*, errW_none, errW_some] <;> rfl), zo HB⟩

/-! ### sequiturref01_Of: function 81 -/
def sequiturref01_Of.f (a0 : Int) : Option (Int × Int) := if a0 < 0 then (some ((-1), IntKind.u64.wrap (a0))) else (some (0, IntKind.u64.wrap (a0)))
set_option maxHeartbeats 8000000 in
set_option maxRecDepth 100000 in
theorem sequiturref01_Of.calls (a0 : Int) (r1 : Int) (r2 : Int) (w : World) (h : sequiturref01_Of.f a0 = some (r1, r2)) :
  Calls Try.prog 81 #[.int .i64 a0] w fun e w' => e = .returned (.agg #[.int .i64 r1, .int .u64 r2]) ∧ Below w.heap.size w w' := by
 have hu107 := Try.underlying107
 have HB := zK (Below.refl w.heap.size w)
 have H : (if a0 < 0 then (some ((-1), IntKind.u64.wrap (a0))) else (some (0, IntKind.u64.wrap (a0)))) = some (r1, r2) := h
 clear h
 by_cases c2 : a0 < 0
 ·rw [if_pos c2] at H
  have c2b0 : decide (a0 < 0) = true := decide_eq_true c2; clear c2
  simp only [Option.some.injEq, Prod.mk.injEq] at H
  obtain ⟨rfl, rfl⟩ := H
  go_enter Try.func81, Try.ntmps81
  go_wp2_with (first | ((with_reducible refine gate_dst (N := 2) rfl ?_); refine box_event ?hg (N := 2) ?hd (cs := #[.int .i64 0, .int .u64 0]) (t := 107) ?hr ?_; (case hd => rfl); (case hg => rfl); (case hr => first | (go_simp; done) | (go_simp; rfl)); intro gb275 hg w3 hbox hb; have BK275 := zK (hbox); have GW275 := zK ((by rw [hg]; exact (below_size (zo HB)) : w.heap.size ≤ gb275)); have GE275 := zK ((by rw [hg]; exact (below_size (zo HB)) : w.heap.size ≤ gb275)); replace HB := zK (below_step (zo HB) hb); clear hb hbox hg; have hcz4_0 : w3.cell? ⟨gb275, 0, none⟩ = some (.int .i64 0) := (blk_cell BK275.out 0).trans rfl; have hcz4_1 : w3.cell? ⟨gb275, 1, none⟩ = some (.int .u64 0) := (blk_cell BK275.out 1).trans rfl; have hfz4_0 := blk_frozen BK275.out 0; have hfz4_1 := blk_frozen BK275.out 1))
  refine bodyPost_ret (results_cell_row rfl _ _ gb275 107 #[.int .i64 (-1), .int .u64 (IntKind.u64.wrap (a0))] (0, 0) _ rfl (by refine zM ?_; refine blk_put (cs := #[.int .i64 (-1), .int .u64 0]) ?_ 1 _ rfl; refine zM ?_; refine blk_put (cs := #[.int .i64 0, .int .u64 0]) ?_ 0 _ rfl; refine zM ?_; exact BK275.out) Try.underlying107 rfl (by kernel_rfl)) rfl ?_
  exact ⟨by first | rfl | (simp [errW_none, errW_some] <;> rfl) | (simp [*, errW_none, errW_some] <;> rfl), zo HB⟩
 ·rw [if_neg c2] at H
  have c2b0 : decide (a0 < 0) = false := decide_eq_false c2; clear c2
  simp only [Option.some.injEq, Prod.mk.injEq] at H
  obtain ⟨rfl, rfl⟩ := H
  go_enter Try.func81, Try.ntmps81
  go_wp2_with (first | ((with_reducible refine gate_dst (N := 2) rfl ?_); refine box_event ?hg (N := 2) ?hd (cs := #[.int .i64 0, .int .u64 0]) (t := 107) ?hr ?_; (case hd => rfl); (case hg => rfl); (case hr => first | (go_simp; done) | (go_simp; rfl)); intro gb275 hg w5 hbox hb; have BK275 := zK (hbox); have GW275 := zK ((by rw [hg]; exact (below_size (zo HB)) : w.heap.size ≤ gb275)); have GE275 := zK ((by rw [hg]; exact (below_size (zo HB)) : w.heap.size ≤ gb275)); replace HB := zK (below_step (zo HB) hb); clear hb hbox hg; have hcz6_0 : w5.cell? ⟨gb275, 0, none⟩ = some (.int .i64 0) := (blk_cell BK275.out 0).trans rfl; have hcz6_1 : w5.cell? ⟨gb275, 1, none⟩ = some (.int .u64 0) := (blk_cell BK275.out 1).trans rfl; have hfz6_0 := blk_frozen BK275.out 0; have hfz6_1 := blk_frozen BK275.out 1))
  refine bodyPost_ret (results_cell_row rfl _ _ gb275 107 #[.int .i64 0, .int .u64 (IntKind.u64.wrap (a0))] (0, 0) _ rfl (by refine zM ?_; refine blk_put (cs := #[.int .i64 0, .int .u64 0]) ?_ 1 _ rfl; refine zM ?_; refine blk_put (cs := #[.int .i64 0, .int .u64 0]) ?_ 0 _ rfl; refine zM ?_; exact BK275.out) Try.underlying107 rfl (by kernel_rfl)) rfl ?_
  exact ⟨by first | rfl | (simp [errW_none, errW_some] <;> rfl) | (simp [*, errW_none, errW_some] <;> rfl), zo HB⟩

/-! ### sequiturref01_Far: function 102 -/
def sequiturref01_Far.f (a0 : Int) : Option (Int) := if a0 < 0 then (some (IntKind.u64.wrap (-(IntKind.u64.wrap (a0))))) else (some (IntKind.u64.wrap (a0)))
set_option maxHeartbeats 8000000 in
set_option maxRecDepth 100000 in
theorem sequiturref01_Far.calls (a0 : Int) (r : Int) (w : World) (h : sequiturref01_Far.f a0 = some r) :
  Calls Try.prog 102 #[.int .i64 a0] w fun e w' => e = .returned (.int .u64 r) ∧ Drawn0 w w' := by
 have H : (if a0 < 0 then (some (IntKind.u64.wrap (-(IntKind.u64.wrap (a0))))) else (some (IntKind.u64.wrap (a0)))) = some r := h
 clear h
 by_cases c2 : a0 < 0
 ·rw [if_pos c2] at H
  have c2b0 : decide (a0 < 0) = true := decide_eq_true c2; clear c2
  obtain rfl := Option.some.inj H
  go_enter Try.func102, Try.ntmps102
  go_wp2
  go_ret
  exact ⟨by first | rfl | (simp; done) | (simp [*]; done), by repeat (first | exact Drawn0.refl _ | apply Drawn0.step)⟩
 ·rw [if_neg c2] at H
  have c2b0 : decide (a0 < 0) = false := decide_eq_false c2; clear c2
  obtain rfl := Option.some.inj H
  go_enter Try.func102, Try.ntmps102
  go_wp2
  go_ret
  exact ⟨by first | rfl | (simp; done) | (simp [*]; done), by repeat (first | exact Drawn0.refl _ | apply Drawn0.step)⟩

/-! ### sequiturref01_Times: function 78 -/
mutual
def sequiturref01_Times.j0 : Nat → Int → Int → Int → Option (Int × Int)
 | 0, _, _, _ => none
 | k + 1, x1, x280000, x280001 => (sequiturref01_Far.f x1).bind fun t283 => (sequiturref01_Times.l0 k t283 x280000 x280001 0 0)
def sequiturref01_Times.l0 : Nat → Int → Int → Int → Int → Int → Option (Int × Int)
 | 0, _, _, _, _, _ => none
 | k + 1, x7, x280000, x280001, x283000, x283001 => if x7 > 0 then (if (Int.tmod x7 2) = 1 then ((sequiturref01_Plus.f x283000 x283001 x280000 x280001).bind fun bt284 => ((sequiturref01_Plus.f x280000 x280001 x280000 x280001).bind fun bt286 => (sequiturref01_Times.l0 k (IntKind.u64.wrap (Int.tdiv x7 2)) bt286.1 bt286.2 bt284.1 bt284.2))) else ((sequiturref01_Plus.f x280000 x280001 x280000 x280001).bind fun bt288 => (sequiturref01_Times.l0 k (IntKind.u64.wrap (Int.tdiv x7 2)) bt288.1 bt288.2 x283000 x283001))) else (some (x283000, x283001))
end
def sequiturref01_Times.f (k : Nat) (a0 : Int) (a1 : Int) : Option (Int × Int) := (sequiturref01_Of.f a0).bind fun bt277 => (if a1 < 0 then ((sequiturref01_Minus.f bt277.1 bt277.2).bind fun bt280 => (sequiturref01_Times.j0 k a1 bt280.1 bt280.2)) else (sequiturref01_Times.j0 k a1 bt277.1 bt277.2))
theorem sequiturref01_Times.mono_l : ∀ k, (∀ y0 y1 y2, LeO (sequiturref01_Times.j0 k y0 y1 y2) (sequiturref01_Times.j0 (k + 1) y0 y1 y2)) ∧ (∀ y0 y1 y2 y3 y4, LeO (sequiturref01_Times.l0 k y0 y1 y2 y3 y4) (sequiturref01_Times.l0 (k + 1) y0 y1 y2 y3 y4))
 | 0 => ⟨fun _ _ _ r h => by simp [sequiturref01_Times.j0] at h, fun _ _ _ _ _ r h => by simp [sequiturref01_Times.l0] at h⟩
 | k + 1 => by
  obtain ⟨ih0, ih1⟩ := sequiturref01_Times.mono_l k
  refine ⟨?_, ?_⟩
  ·intro y0 y1 y2
   unfold sequiturref01_Times.j0
   repeat' first
   | (with_reducible exact ih0 _ _ _)
   | (with_reducible exact ih1 _ _ _ _ _)
   | (with_reducible exact LeO.refl _)
   | (with_reducible exact LeO.none _)
   | (with_reducible refine LeO.ite ?_ ?_)
   | (with_reducible refine LeO.bind ?_ (fun _ => ?_))
   | exact ih0 _ _ _
   | exact ih1 _ _ _ _ _
   | exact LeO.none _
   | refine LeO.ite ?_ ?_
   | refine LeO.bind ?_ (fun _ => ?_)
  ·intro y0 y1 y2 y3 y4
   unfold sequiturref01_Times.l0
   repeat' first
   | (with_reducible exact ih0 _ _ _)
   | (with_reducible exact ih1 _ _ _ _ _)
   | (with_reducible exact LeO.refl _)
   | (with_reducible exact LeO.none _)
   | (with_reducible refine LeO.ite ?_ ?_)
   | (with_reducible refine LeO.bind ?_ (fun _ => ?_))
   | exact ih0 _ _ _
   | exact ih1 _ _ _ _ _
   | exact LeO.none _
   | refine LeO.ite ?_ ?_
   | refine LeO.bind ?_ (fun _ => ?_)
theorem sequiturref01_Times.mono : ∀ a0 a1 k, LeO (sequiturref01_Times.f k a0 a1) (sequiturref01_Times.f (k + 1) a0 a1) := by
 intro a0 a1 k
 obtain ⟨ih0, ih1⟩ := sequiturref01_Times.mono_l k
 unfold sequiturref01_Times.f
 repeat' first
   | (with_reducible exact ih0 _ _ _)
   | (with_reducible exact ih1 _ _ _ _ _)
   | (with_reducible exact LeO.refl _)
   | (with_reducible exact LeO.none _)
   | (with_reducible refine LeO.ite ?_ ?_)
   | (with_reducible refine LeO.bind ?_ (fun _ => ?_))
   | exact ih0 _ _ _
   | exact ih1 _ _ _ _ _
   | exact LeO.none _
   | refine LeO.ite ?_ ?_
   | refine LeO.bind ?_ (fun _ => ?_)
set_option maxHeartbeats 8000000 in
set_option maxRecDepth 100000 in
theorem sequiturref01_Times.calls (k : Nat) (a0 : Int) (a1 : Int) (r1 : Int) (r2 : Int) (w : World) (h : sequiturref01_Times.f k a0 a1 = some (r1, r2)) :
  Calls Try.prog 78 #[.int .i64 a0, .int .i64 a1] w fun e w' => e = .returned (.agg #[.int .i64 r1, .int .u64 r2]) ∧ Below w.heap.size w w' := by
 have hu107 := Try.underlying107
 have HB := zK (Below.refl w.heap.size w)
 have H : ((sequiturref01_Of.f a0).bind fun bt277 => (if a1 < 0 then ((sequiturref01_Minus.f bt277.1 bt277.2).bind fun bt280 => (sequiturref01_Times.j0 k a1 bt280.1 bt280.2)) else (sequiturref01_Times.j0 k a1 bt277.1 bt277.2))) = some (r1, r2) := h
 clear h; replace H := Option.bind_eq_some_iff.mp H
 obtain ⟨⟨t277, t278⟩, A30, H⟩ := H
 replace H : (if a1 < 0 then ((sequiturref01_Minus.f t277 t278).bind fun bt280 => (sequiturref01_Times.j0 k a1 bt280.1 bt280.2)) else (sequiturref01_Times.j0 k a1 t277 t278)) = some (r1, r2) := H
 have A3 := zK A30; clear A30
 have HC4 := zK H; clear H
 go_enter Try.func78, Try.ntmps78
 go_upto_if 11 with (first | ((with_reducible refine gate_dst (N := 4) rfl ?_); refine box_event ?hg (N := 4) ?hd (cs := #[.int .i64 0, .int .u64 0]) (t := 107) ?hr ?_; (case hd => rfl); (case hg => rfl); (case hr => first | (go_simp; done) | (go_simp; rfl)); intro gb276 hg w5 hbox hb; have BK276 := zK (hbox); have GW276 := zK ((by rw [hg]; exact (below_size (zo HB)) : w.heap.size ≤ gb276)); have GE276 := zK ((by rw [hg]; exact (below_size (zo HB)) : w.heap.size ≤ gb276)); replace HB := zK (below_step (zo HB) hb); clear hb hbox hg) | ((with_reducible refine zC (f := 81) rfl ?_); refine goesL_ (some 9) rfl rfl Try.func81 (by kernel_rfl) rfl #[.int .i64 a0] rfl (by (try simp only [List.map_toArray, List.map_cons, List.map_nil]); first | done | rfl | (simp only [List.length_drop, List.length_take]; rfl)) ?_; (with_reducible refine (sequiturref01_Of.calls a0 t277 t278 _ A3.out).mono ?_); rintro e w6 ⟨rfl, hb⟩; refine ⟨_, rfl, ?_⟩; replace BK276 := zK (blk_below (g := gb276) (o := .cells #[.int .i64 0, .int .u64 0] 107 (0, 0)) (zb BK276) hb); replace HB := zK (below_step (zo HB) hb); (try clear hb); (try clear hb2); (try clear hk); (try clear hi)) | ((with_reducible refine gate_dst (N := 5) rfl ?_); refine box_event ?hg (N := 5) ?hd (cs := #[.int .i64 0, .int .u64 0]) (t := 107) ?hr ?_; (case hd => rfl); (case hg => rfl); (case hr => first | (go_simp; done) | (go_simp; rfl)); intro gb279 hg w7 hbox hb; have BK279 := zK (hbox); have GW279 := zK ((by rw [hg]; exact (below_size (zo HB)) : w.heap.size ≤ gb279)); have GE279 := zK ((by rw [hg]; exact (below_size (zo HB)) : w.heap.size ≤ gb279)); replace HB := zK (below_step (zo HB) hb); have NB276_279 := zK ((by rw [hg]; exact Nat.ne_of_lt (blk_lt (g := gb276) (o := .cells #[.int .i64 0, .int .u64 0] 107 (0, 0)) (zb BK276)) : gb276 ≠ gb279)); have NB279_276 := zK ((by rw [hg]; exact Nat.ne_of_gt (blk_lt (g := gb276) (o := .cells #[.int .i64 0, .int .u64 0] 107 (0, 0)) (zb BK276)) : gb279 ≠ gb276)); replace BK276 := zK (blk_below (g := gb276) (o := .cells #[.int .i64 0, .int .u64 0] 107 (0, 0)) (zb BK276) hb); clear hb hbox hg; have hnb8 := NB279_276.out; have hnc8 := NB276_279.out; have hcz9_0 : w7.cell? ⟨gb279, 0, none⟩ = some (.int .i64 0) := (blk_cell BK279.out 0).trans rfl; have hcz9_1 : w7.cell? ⟨gb279, 1, none⟩ = some (.int .u64 0) := (blk_cell BK279.out 1).trans rfl; have hfz9_0 := blk_frozen BK279.out 0; have hfz9_1 := blk_frozen BK279.out 1))
 (try simp only [Act.put, zt, zz, zs])
 go_cut [] (fun wc => ∃ (kq : Nat) (x280000_3 : Int) (x280001_3 : Int), Aside0 (sequiturref01_Times.j0 kq a1 x280000_3 x280001_3 = some (r1, r2)) ∧ Aside0 (kq ≤ k) ∧ Aside0 (wc.heap[gb276]? = some (.cells #[.int .i64 0, .int .u64 0] 107 (0, 0))) ∧ Aside0 (wc.heap[gb279]? = some (.cells #[.int .i64 x280000_3, .int .u64 x280001_3] 107 (0, 0))) ∧ Aside0 (Below w.heap.size w wc))
 case first =>
  have H := HC4.out; clear HC4
  by_cases c10 : a1 < 0
  ·rw [if_pos c10] at H
   have c10b0 : decide (a1 < 0) = true := decide_eq_true c10; clear c10
   (first | rw [c10b0] | (simp only [i64_w, i32_w]; rw [c10b0]) | skip)
   replace H := Option.bind_eq_some_iff.mp H
   obtain ⟨⟨t280, t281⟩, A110, H⟩ := H
   replace H : (sequiturref01_Times.j0 k a1 t280 t281) = some (r1, r2) := H
   have A11 := zK A110; clear A110
   have H' := zK H; clear H
   have hnb12 := NB279_276.out
   have hnc12 := NB276_279.out
   have hcz13_0 : w7.cell? ⟨gb279, 0, none⟩ = some (.int .i64 0) := (blk_cell BK279.out 0).trans rfl
   have hcz13_1 : w7.cell? ⟨gb279, 1, none⟩ = some (.int .u64 0) := (blk_cell BK279.out 1).trans rfl
   have hfz13_0 := blk_frozen BK279.out 0
   have hfz13_1 := blk_frozen BK279.out 1
   go_wp2_with (first | ((with_reducible refine zC (f := 80) rfl ?_); refine goesL_ (some 13) rfl rfl Try.func80 (by kernel_rfl) rfl #[.agg #[.int .i64 t277, .int .u64 t278]] rfl (by (try simp only [List.map_toArray, List.map_cons, List.map_nil]); first | done | rfl | (simp only [List.length_drop, List.length_take]; rfl)) ?_; (with_reducible refine (sequiturref01_Minus.calls t277 t278 t280 t281 _ A11.out).mono ?_); rintro e w14 ⟨rfl, hb⟩; refine ⟨_, rfl, ?_⟩; replace BK276 := zK (blk_below (g := gb276) (o := .cells #[.int .i64 0, .int .u64 0] 107 (0, 0)) (zb BK276) hb); replace BK279 := zK (blk_below (g := gb279) (o := .cells #[.int .i64 t277, .int .u64 t278] 107 (0, 0)) (by refine zM ?_; refine blk_put (cs := #[.int .i64 t277, .int .u64 0]) ?_ 1 _ rfl; refine zM ?_; refine blk_put (cs := #[.int .i64 0, .int .u64 0]) ?_ 0 _ rfl; refine zM ?_; exact BK279.out) hb); replace HB := zK (below_step (zo HB) hb); (try clear hb); (try clear hb2); (try clear hk); (try clear hi); have hcz15_0 : w14.cell? ⟨gb279, 0, none⟩ = some (.int .i64 t277) := (blk_cell BK279.out 0).trans rfl; have hcz15_1 : w14.cell? ⟨gb279, 1, none⟩ = some (.int .u64 t278) := (blk_cell BK279.out 1).trans rfl; have hfz15_0 := blk_frozen BK279.out 0; have hfz15_1 := blk_frozen BK279.out 1))
   go_meet
   case rel => exact ⟨_, (t280), (t281), H', ⟨by first | omega | exact Nat.le_refl _⟩, ⟨zb BK276⟩, ⟨by refine zM ?_; refine blk_put (cs := #[.int .i64 t280, .int .u64 t278]) ?_ 1 _ rfl; refine zM ?_; refine blk_put (cs := #[.int .i64 t277, .int .u64 t278]) ?_ 0 _ rfl; refine zM ?_; exact BK279.out⟩, ⟨zo HB⟩⟩
  ·rw [if_neg c10] at H
   have c10b0 : decide (a1 < 0) = false := decide_eq_false c10; clear c10
   (first | rw [c10b0] | (simp only [i64_w, i32_w]; rw [c10b0]) | skip)
   have H' := zK H; clear H
   go_wp2
   go_meet
   case rel => exact ⟨_, (t277), (t278), H', ⟨by first | omega | exact Nat.le_refl _⟩, ⟨zb BK276⟩, ⟨by refine zM ?_; refine blk_put (cs := #[.int .i64 t277, .int .u64 0]) ?_ 1 _ rfl; refine zM ?_; refine blk_put (cs := #[.int .i64 0, .int .u64 0]) ?_ 0 _ rfl; refine zM ?_; exact BK279.out⟩, ⟨zo HB⟩⟩
 case rest =>
  clear HC4; try clear c1; try clear p2; try clear c7
  try clear c8; try clear c10; try clear c10b0; try clear c12
  try clear hcz13_0; try clear hcz13_1; try clear hcz15_0; try clear hcz15_1
  try clear hcz9_0; try clear hcz9_1; try clear hfz13_0; try clear hfz13_1
  try clear hfz15_0; try clear hfz15_1; try clear hfz9_0; try clear hfz9_1
  obtain ⟨kq, x280000_3, x280001_3, HA, HJ3, BK276, BK279, HB⟩ := hcut
  cases kq with
  | zero => exact absurd HA.out (by simp [sequiturref01_Times.j0])
  | succ kj3 =>
   have H := HA.out; clear HA
   simp only [sequiturref01_Times.j0] at H
   replace H := Option.bind_eq_some_iff.mp H
   obtain ⟨t283, A160, H⟩ := H
   replace H : (sequiturref01_Times.l0 kj3 t283 x280000_3 x280001_3 0 0) = some (r1, r2) := H
   have A16 := zK A160; clear A160
   have H' := zK H; clear H
   go_wp2_with (first | ((with_reducible refine gate_dst (N := 6) rfl ?_); refine box_event ?hg (N := 6) ?hd (cs := #[.int .i64 0, .int .u64 0]) (t := 107) ?hr ?_; (case hd => rfl); (case hg => rfl); (case hr => first | (go_simp; done) | (go_simp; rfl)); intro gb282 hg w17 hbox hb; have BK282 := zK (hbox); have GW282 := zK ((by rw [hg]; exact (below_size (zo HB)) : w.heap.size ≤ gb282)); have GE282 := zK ((by rw [hg]; exact (below_size (zo HB)) : w.heap.size ≤ gb282)); replace HB := zK (below_step (zo HB) hb); have NB276_282 := zK ((by rw [hg]; exact Nat.ne_of_lt (blk_lt (g := gb276) (o := .cells #[.int .i64 0, .int .u64 0] 107 (0, 0)) (zb BK276)) : gb276 ≠ gb282)); have NB282_276 := zK ((by rw [hg]; exact Nat.ne_of_gt (blk_lt (g := gb276) (o := .cells #[.int .i64 0, .int .u64 0] 107 (0, 0)) (zb BK276)) : gb282 ≠ gb276)); replace BK276 := zK (blk_below (g := gb276) (o := .cells #[.int .i64 0, .int .u64 0] 107 (0, 0)) (zb BK276) hb); have NB279_282 := zK ((by rw [hg]; exact Nat.ne_of_lt (blk_lt (g := gb279) (o := .cells #[.int .i64 x280000_3, .int .u64 x280001_3] 107 (0, 0)) (zb BK279)) : gb279 ≠ gb282)); have NB282_279 := zK ((by rw [hg]; exact Nat.ne_of_gt (blk_lt (g := gb279) (o := .cells #[.int .i64 x280000_3, .int .u64 x280001_3] 107 (0, 0)) (zb BK279)) : gb282 ≠ gb279)); replace BK279 := zK (blk_below (g := gb279) (o := .cells #[.int .i64 x280000_3, .int .u64 x280001_3] 107 (0, 0)) (zb BK279) hb); clear hb hbox hg; have hnb18 := NB282_276.out; have hnc18 := NB276_282.out; have hnb19 := NB282_279.out; have hnc19 := NB279_282.out; have hcz20_0 : w17.cell? ⟨gb282, 0, none⟩ = some (.int .i64 0) := (blk_cell BK282.out 0).trans rfl; have hcz20_1 : w17.cell? ⟨gb282, 1, none⟩ = some (.int .u64 0) := (blk_cell BK282.out 1).trans rfl; have hfz20_0 := blk_frozen BK282.out 0; have hfz20_1 := blk_frozen BK282.out 1) | ((with_reducible refine zC (f := 102) rfl ?_); refine goesL_ (some 16) rfl rfl Try.func102 (by kernel_rfl) rfl #[.int .i64 a1] rfl (by (try simp only [List.map_toArray, List.map_cons, List.map_nil]); first | done | rfl | (simp only [List.length_drop, List.length_take]; rfl)) ?_; (with_reducible refine (sequiturref01_Far.calls a1 t283 _ A16.out).mono ?_); rintro e w' ⟨rfl, ⟨nd, rfl⟩⟩; refine ⟨_, rfl, ?_⟩))
   go_loopg [7] kj3 (fun kq v7 w' => ∃ (x7_2 : Int) (x280000_2 : Int) (x280001_2 : Int) (x283000_2 : Int) (x283001_2 : Int), v7 = .int .u64 x7_2 ∧ Aside0 (sequiturref01_Times.l0 kq x7_2 x280000_2 x280001_2 x283000_2 x283001_2 = some (r1, r2)) ∧ Aside0 (kq ≤ kj3) ∧ Aside0 (w'.heap[gb276]? = some (.cells #[.int .i64 0, .int .u64 0] 107 (0, 0))) ∧ Aside0 (w'.heap[gb279]? = some (.cells #[.int .i64 x280000_2, .int .u64 x280001_2] 107 (0, 0))) ∧ Aside0 (w'.heap[gb282]? = some (.cells #[.int .i64 x283000_2, .int .u64 x283001_2] 107 (0, 0))) ∧ Aside0 (Below w.heap.size w w'))
   case atStart => exact ⟨(t283), (x280000_3), (x280001_3), (0), (0), (by first | rfl | (simp; done) | (simp [*]; done)), H', ⟨Nat.le_refl _⟩, ⟨zb BK276⟩, ⟨zb BK279⟩, ⟨by refine zM ?_; refine blk_put (cs := #[.int .i64 0, .int .u64 0]) ?_ 1 _ rfl; refine zM ?_; refine blk_put (cs := #[.int .i64 0, .int .u64 0]) ?_ 0 _ rfl; refine zM ?_; exact BK282.out⟩, ⟨zo HB⟩⟩
   case round =>
    clear H'; try clear c1; try clear p2; try clear c7
    try clear c8; try clear c10; try clear c10b0; try clear c12
    try clear c18; try clear c19; try clear hcz13_0; try clear hcz13_1
    try clear hcz15_0; try clear hcz15_1; try clear hcz20_0; try clear hcz20_1
    try clear hcz9_0; try clear hcz9_1; try clear hfz13_0; try clear hfz13_1
    try clear hfz15_0; try clear hfz15_1; try clear hfz20_0; try clear hfz20_1
    try clear hfz9_0; try clear hfz9_1; try clear p2
    obtain ⟨x7_2, x280000_2, x280001_2, x283000_2, x283001_2, rfl, HA, HK2, BK276, BK279, BK282, HB⟩ := hrel
    cases gk with
    | zero => exact absurd HA.out (by simp [sequiturref01_Times.l0])
    | succ k2 =>
     have H := HA.out; clear HA
     simp only [sequiturref01_Times.l0] at H
     by_cases c21 : x7_2 > 0
     ·rw [if_pos c21] at H
      have c21b0 : decide (0 < x7_2) = true := decide_eq_true c21; clear c21
      by_cases c22 : (Int.tmod x7_2 2) = 1
      ·rw [if_pos c22] at H
       have c22b0 : ((Int.tmod x7_2 2) == 1) = true := beq_iff_eq.mpr c22
       have c22b1 : ((Int.tmod x7_2 2) != 1) = false := bne_eq_false_iff_eq.mpr c22
       clear c22; replace H := Option.bind_eq_some_iff.mp H
       obtain ⟨⟨t284, t285⟩, A230, H⟩ := H
       replace H : ((sequiturref01_Plus.f x280000_2 x280001_2 x280000_2 x280001_2).bind fun bt286 => (sequiturref01_Times.l0 k2 (IntKind.u64.wrap (Int.tdiv x7_2 2)) bt286.1 bt286.2 t284 t285)) = some (r1, r2) := H
       have A23 := zK A230; clear A230; replace H := Option.bind_eq_some_iff.mp H
       obtain ⟨⟨t286, t287⟩, A240, H⟩ := H
       replace H : (sequiturref01_Times.l0 k2 (IntKind.u64.wrap (Int.tdiv x7_2 2)) t286 t287 t284 t285) = some (r1, r2) := H
       have A24 := zK A240; clear A240
       have H' := zK H; clear H
       have hnb25 := NB282_276.out
       have hnc25 := NB276_282.out
       have hnb26 := NB282_279.out
       have hnc26 := NB279_282.out
       have hcz27_0 : wr.cell? ⟨gb282, 0, none⟩ = some (.int .i64 x283000_2) := (blk_cell BK282.out 0).trans rfl
       have hcz27_1 : wr.cell? ⟨gb282, 1, none⟩ = some (.int .u64 x283001_2) := (blk_cell BK282.out 1).trans rfl
       have hfz27_0 := blk_frozen BK282.out 0
       have hfz27_1 := blk_frozen BK282.out 1
       have hnb28 := NB279_276.out
       have hnc28 := NB276_279.out
       have hcz29_0 : wr.cell? ⟨gb279, 0, none⟩ = some (.int .i64 x280000_2) := (blk_cell BK279.out 0).trans rfl
       have hcz29_1 : wr.cell? ⟨gb279, 1, none⟩ = some (.int .u64 x280001_2) := (blk_cell BK279.out 1).trans rfl
       have hfz29_0 := blk_frozen BK279.out 0
       have hfz29_1 := blk_frozen BK279.out 1
       go_wp2_with (first | ((with_reducible refine zC (f := 79) rfl ?_); refine goesL_ (some 26) rfl rfl Try.func79 (by kernel_rfl) rfl #[.agg #[.int .i64 x283000_2, .int .u64 x283001_2], .agg #[.int .i64 x280000_2, .int .u64 x280001_2]] rfl (by (try simp only [List.map_toArray, List.map_cons, List.map_nil]); first | done | rfl | (simp only [List.length_drop, List.length_take]; rfl)) ?_; (with_reducible refine (sequiturref01_Plus.calls x283000_2 x283001_2 x280000_2 x280001_2 t284 t285 _ A23.out).mono ?_); rintro e w30 ⟨rfl, hb⟩; refine ⟨_, rfl, ?_⟩; replace BK276 := zK (blk_below (g := gb276) (o := .cells #[.int .i64 0, .int .u64 0] 107 (0, 0)) (zb BK276) hb); replace BK279 := zK (blk_below (g := gb279) (o := .cells #[.int .i64 x280000_2, .int .u64 x280001_2] 107 (0, 0)) (zb BK279) hb); replace BK282 := zK (blk_below (g := gb282) (o := .cells #[.int .i64 x283000_2, .int .u64 x283001_2] 107 (0, 0)) (zb BK282) hb); replace HB := zK (below_step (zo HB) hb); (try clear hb); (try clear hb2); (try clear hk); (try clear hi); have hcz31_0 : w30.cell? ⟨gb282, 0, none⟩ = some (.int .i64 x283000_2) := (blk_cell BK282.out 0).trans rfl; have hcz31_1 : w30.cell? ⟨gb282, 1, none⟩ = some (.int .u64 x283001_2) := (blk_cell BK282.out 1).trans rfl; have hfz31_0 := blk_frozen BK282.out 0; have hfz31_1 := blk_frozen BK282.out 1; have hcz32_0 : w30.cell? ⟨gb279, 0, none⟩ = some (.int .i64 x280000_2) := (blk_cell BK279.out 0).trans rfl; have hcz32_1 : w30.cell? ⟨gb279, 1, none⟩ = some (.int .u64 x280001_2) := (blk_cell BK279.out 1).trans rfl; have hfz32_0 := blk_frozen BK279.out 0; have hfz32_1 := blk_frozen BK279.out 1) | ((with_reducible refine zC (f := 79) rfl ?_); refine goesL_ (some 29) rfl rfl Try.func79 (by kernel_rfl) rfl #[.agg #[.int .i64 x280000_2, .int .u64 x280001_2], .agg #[.int .i64 x280000_2, .int .u64 x280001_2]] rfl (by (try simp only [List.map_toArray, List.map_cons, List.map_nil]); first | done | rfl | (simp only [List.length_drop, List.length_take]; rfl)) ?_; (with_reducible refine (sequiturref01_Plus.calls x280000_2 x280001_2 x280000_2 x280001_2 t286 t287 _ A24.out).mono ?_); rintro e w33 ⟨rfl, hb⟩; refine ⟨_, rfl, ?_⟩; replace BK276 := zK (blk_below (g := gb276) (o := .cells #[.int .i64 0, .int .u64 0] 107 (0, 0)) (zb BK276) hb); replace BK279 := zK (blk_below (g := gb279) (o := .cells #[.int .i64 x280000_2, .int .u64 x280001_2] 107 (0, 0)) (zb BK279) hb); replace BK282 := zK (blk_below (g := gb282) (o := .cells #[.int .i64 t284, .int .u64 t285] 107 (0, 0)) (by refine zM ?_; refine blk_put (cs := #[.int .i64 t284, .int .u64 x283001_2]) ?_ 1 _ rfl; refine zM ?_; refine blk_put (cs := #[.int .i64 x283000_2, .int .u64 x283001_2]) ?_ 0 _ rfl; refine zM ?_; exact BK282.out) hb); replace HB := zK (below_step (zo HB) hb); (try clear hb); (try clear hb2); (try clear hk); (try clear hi); have hcz34_0 : w33.cell? ⟨gb279, 0, none⟩ = some (.int .i64 x280000_2) := (blk_cell BK279.out 0).trans rfl; have hcz34_1 : w33.cell? ⟨gb279, 1, none⟩ = some (.int .u64 x280001_2) := (blk_cell BK279.out 1).trans rfl; have hfz34_0 := blk_frozen BK279.out 0; have hfz34_1 := blk_frozen BK279.out 1))
       go_roundg k2
       case measure => have := HJ3.out; have := HK2.out; omega
       case rel => exact ⟨(IntKind.u64.wrap (Int.tdiv x7_2 2)), (t286), (t287), (t284), (t285), (by first | rfl | (simp; done) | (simp [*]; done)), H', ⟨by have := HJ3.out; have := HK2.out; omega⟩, ⟨zb BK276⟩, ⟨by refine zM ?_; refine blk_put (cs := #[.int .i64 t286, .int .u64 x280001_2]) ?_ 1 _ rfl; refine zM ?_; refine blk_put (cs := #[.int .i64 x280000_2, .int .u64 x280001_2]) ?_ 0 _ rfl; refine zM ?_; exact BK279.out⟩, ⟨zb BK282⟩, ⟨zo HB⟩⟩
      ·rw [if_neg c22] at H
       have c22b0 : ((Int.tmod x7_2 2) == 1) = false := beq_eq_false_iff_ne.mpr c22
       have c22b1 : ((Int.tmod x7_2 2) != 1) = true := bne_iff_ne.mpr c22
       replace H := Option.bind_eq_some_iff.mp H
       obtain ⟨⟨t288, t289⟩, A350, H⟩ := H
       replace H : (sequiturref01_Times.l0 k2 (IntKind.u64.wrap (Int.tdiv x7_2 2)) t288 t289 x283000_2 x283001_2) = some (r1, r2) := H
       have A35 := zK A350; clear A350
       have H' := zK H; clear H
       have hnb36 := NB279_276.out
       have hnc36 := NB276_279.out
       have hnb37 := NB279_282.out
       have hnc37 := NB282_279.out
       have hcz38_0 : wr.cell? ⟨gb279, 0, none⟩ = some (.int .i64 x280000_2) := (blk_cell BK279.out 0).trans rfl
       have hcz38_1 : wr.cell? ⟨gb279, 1, none⟩ = some (.int .u64 x280001_2) := (blk_cell BK279.out 1).trans rfl
       have hfz38_0 := blk_frozen BK279.out 0
       have hfz38_1 := blk_frozen BK279.out 1
       go_wp2_with (first | ((with_reducible refine zC (f := 79) rfl ?_); refine goesL_ (some 29) rfl rfl Try.func79 (by kernel_rfl) rfl #[.agg #[.int .i64 x280000_2, .int .u64 x280001_2], .agg #[.int .i64 x280000_2, .int .u64 x280001_2]] rfl (by (try simp only [List.map_toArray, List.map_cons, List.map_nil]); first | done | rfl | (simp only [List.length_drop, List.length_take]; rfl)) ?_; (with_reducible refine (sequiturref01_Plus.calls x280000_2 x280001_2 x280000_2 x280001_2 t288 t289 _ A35.out).mono ?_); rintro e w39 ⟨rfl, hb⟩; refine ⟨_, rfl, ?_⟩; replace BK276 := zK (blk_below (g := gb276) (o := .cells #[.int .i64 0, .int .u64 0] 107 (0, 0)) (zb BK276) hb); replace BK279 := zK (blk_below (g := gb279) (o := .cells #[.int .i64 x280000_2, .int .u64 x280001_2] 107 (0, 0)) (zb BK279) hb); replace BK282 := zK (blk_below (g := gb282) (o := .cells #[.int .i64 x283000_2, .int .u64 x283001_2] 107 (0, 0)) (zb BK282) hb); replace HB := zK (below_step (zo HB) hb); (try clear hb); (try clear hb2); (try clear hk); (try clear hi); have hcz40_0 : w39.cell? ⟨gb279, 0, none⟩ = some (.int .i64 x280000_2) := (blk_cell BK279.out 0).trans rfl; have hcz40_1 : w39.cell? ⟨gb279, 1, none⟩ = some (.int .u64 x280001_2) := (blk_cell BK279.out 1).trans rfl; have hfz40_0 := blk_frozen BK279.out 0; have hfz40_1 := blk_frozen BK279.out 1))
       go_roundg k2
       case measure => have := HJ3.out; have := HK2.out; omega
       case rel => exact ⟨(IntKind.u64.wrap (Int.tdiv x7_2 2)), (t288), (t289), (x283000_2), (x283001_2), (by first | rfl | (simp; done) | (simp [*]; done)), H', ⟨by have := HJ3.out; have := HK2.out; omega⟩, ⟨zb BK276⟩, ⟨by refine zM ?_; refine blk_put (cs := #[.int .i64 t288, .int .u64 x280001_2]) ?_ 1 _ rfl; refine zM ?_; refine blk_put (cs := #[.int .i64 x280000_2, .int .u64 x280001_2]) ?_ 0 _ rfl; refine zM ?_; exact BK279.out⟩, ⟨zb BK282⟩, ⟨zo HB⟩⟩
     ·rw [if_neg c21] at H
      have c21b0 : decide (0 < x7_2) = false := decide_eq_false c21; clear c21
      simp only [Option.some.injEq, Prod.mk.injEq] at H
      obtain ⟨rfl, rfl⟩ := H
      have hnb41 := NB282_276.out
      have hnc41 := NB276_282.out
      have hnb42 := NB282_279.out
      have hnc42 := NB279_282.out
      have hcz43_0 : wr.cell? ⟨gb282, 0, none⟩ = some (.int .i64 x283000_2) := (blk_cell BK282.out 0).trans rfl
      have hcz43_1 : wr.cell? ⟨gb282, 1, none⟩ = some (.int .u64 x283001_2) := (blk_cell BK282.out 1).trans rfl
      have hfz43_0 := blk_frozen BK282.out 0
      have hfz43_1 := blk_frozen BK282.out 1
      have hnb44 := NB276_279.out
      have hnc44 := NB279_276.out
      have hcz45_0 : wr.cell? ⟨gb276, 0, none⟩ = some (.int .i64 0) := (blk_cell BK276.out 0).trans rfl
      have hcz45_1 : wr.cell? ⟨gb276, 1, none⟩ = some (.int .u64 0) := (blk_cell BK276.out 1).trans rfl
      have hfz45_0 := blk_frozen BK276.out 0
      have hfz45_1 := blk_frozen BK276.out 1
      go_wp2
      refine bodyPost_ret (results_cell_row rfl _ _ gb276 107 #[.int .i64 x283000_2, .int .u64 x283001_2] (0, 0) _ rfl (by refine zM ?_; refine blk_put (cs := #[.int .i64 x283000_2, .int .u64 0]) ?_ 1 _ rfl; refine zM ?_; refine blk_put (cs := #[.int .i64 0, .int .u64 0]) ?_ 0 _ rfl; refine zM ?_; exact BK276.out) Try.underlying107 rfl (by kernel_rfl)) rfl ?_
      exact ⟨by first | rfl | (simp [errW_none, errW_some] <;> rfl) | (simp [*, errW_none, errW_some] <;> rfl), zo HB⟩

/-! ### sequiturref27_More: function 71 -/
def sequiturref27_More.f (k : Nat) (a0_0 : Int) (a0_1 : Int) (a0_2 : Int) (a0_3 : Int) (a1 : Int) (a2 : Int) : Option (Int × Int × Int × Int) := (sequiturref01_Times.f k a1 a2).bind fun bt292 => ((sequiturref01_Of.f bt292.1).bind fun bt295 => ((sequiturref01_Plus.f a0_0 a0_1 bt295.1 bt295.2).bind fun bt297 => ((sequiturref01_Plus.f a0_2 a0_3 0 bt292.2).bind fun bt299 => (some (bt297.1, bt297.2, bt299.1, bt299.2)))))
theorem sequiturref27_More.mono : ∀ a0 a1 a2 a3 a4 a5 k, LeO (sequiturref27_More.f k a0 a1 a2 a3 a4 a5) (sequiturref27_More.f (k + 1) a0 a1 a2 a3 a4 a5) := by
 intro a0 a1 a2 a3 a4 a5 k
 unfold sequiturref27_More.f
 repeat' first
   | (with_reducible exact sequiturref01_Times.mono _ _ _)
   | (with_reducible exact LeO.refl _)
   | (with_reducible exact LeO.none _)
   | (with_reducible refine LeO.ite ?_ ?_)
   | (with_reducible refine LeO.bind ?_ (fun _ => ?_))
   | exact sequiturref01_Times.mono _ _ _
   | exact LeO.none _
   | refine LeO.ite ?_ ?_
   | refine LeO.bind ?_ (fun _ => ?_)
def sequiturref27_More.T2 : Bool × List (List Nat × List Nat) := (true, [([], []), ([0], [0]), ([], []), ([2], [2]), ([3], [3]), ([1, 4, 4], [1, 4]), ([0, 1, 2, 3, 4, 5], []), ([6, 5, 5, 0, 1, 2, 3, 4, 5], [5, 6])])
def sequiturref27_More.B2 : List Nat := [0, 1, 0, 4, 12, 31, 63, 127]
theorem sequiturref27_More.tab2 : rtab .any (opsOf Try.f71 2) = sequiturref27_More.T2 := by kernel_rfl
theorem sequiturref27_More.bits2 : waitsOk sequiturref27_More.T2.2 sequiturref27_More.B2 = true := by kernel_rfl
set_option maxHeartbeats 8000000 in
set_option maxRecDepth 100000 in
theorem sequiturref27_More.calls (k : Nat) (a0_0 : Int) (a0_1 : Int) (a0_2 : Int) (a0_3 : Int) (a1 : Int) (a2 : Int) (r1 : Int) (r2 : Int) (r3 : Int) (r4 : Int) (w : World) (h : sequiturref27_More.f k a0_0 a0_1 a0_2 a0_3 a1 a2 = some (r1, r2, r3, r4)) :
  Calls Try.prog 71 #[.agg #[.int .i64 a0_0, .int .u64 a0_1, .int .i64 a0_2, .int .u64 a0_3], .int .i64 a1, .int .i64 a2] w fun e w' => e = .returned (.agg #[.int .i64 r1, .int .u64 r2, .int .i64 r3, .int .u64 r4]) ∧ Below w.heap.size w w' := by
 have hu109 := Try.underlying109
 have hu107 := Try.underlying107
 have HB := zK (Below.refl w.heap.size w)
 have H : ((sequiturref01_Times.f k a1 a2).bind fun bt292 => ((sequiturref01_Of.f bt292.1).bind fun bt295 => ((sequiturref01_Plus.f a0_0 a0_1 bt295.1 bt295.2).bind fun bt297 => ((sequiturref01_Plus.f a0_2 a0_3 0 bt292.2).bind fun bt299 => (some (bt297.1, bt297.2, bt299.1, bt299.2)))))) = some (r1, r2, r3, r4) := h
 clear h; replace H := Option.bind_eq_some_iff.mp H
 obtain ⟨⟨t292, t293⟩, A40, H⟩ := H
 replace H : ((sequiturref01_Of.f t292).bind fun bt295 => ((sequiturref01_Plus.f a0_0 a0_1 bt295.1 bt295.2).bind fun bt297 => ((sequiturref01_Plus.f a0_2 a0_3 0 t293).bind fun bt299 => (some (bt297.1, bt297.2, bt299.1, bt299.2))))) = some (r1, r2, r3, r4) := H
 have A4 := zK A40; clear A40; replace H := Option.bind_eq_some_iff.mp H
 obtain ⟨⟨t295, t296⟩, A50, H⟩ := H
 replace H : ((sequiturref01_Plus.f a0_0 a0_1 t295 t296).bind fun bt297 => ((sequiturref01_Plus.f a0_2 a0_3 0 t293).bind fun bt299 => (some (bt297.1, bt297.2, bt299.1, bt299.2)))) = some (r1, r2, r3, r4) := H
 have A5 := zK A50; clear A50; replace H := Option.bind_eq_some_iff.mp H
 obtain ⟨⟨t297, t298⟩, A60, H⟩ := H
 replace H : ((sequiturref01_Plus.f a0_2 a0_3 0 t293).bind fun bt299 => (some (t297, t298, bt299.1, bt299.2))) = some (r1, r2, r3, r4) := H
 have A6 := zK A60; clear A60; replace H := Option.bind_eq_some_iff.mp H
 obtain ⟨⟨t299, t300⟩, A70, H⟩ := H
 replace H : (some (t297, t298, t299, t300)) = some (r1, r2, r3, r4) := H
 have A7 := zK A70; clear A70
 simp only [Option.some.injEq, Prod.mk.injEq] at H
 obtain ⟨rfl, rfl, rfl, rfl⟩ := H
 go_enter Try.func71, Try.ntmps71
 try go_wp2_with (first | ((with_reducible refine gate_dst (N := 3) rfl ?_); refine box_event ?hg (N := 3) ?hd (cs := #[.int .i64 a0_0, .int .u64 a0_1, .int .i64 a0_2, .int .u64 a0_3]) (t := 109) ?hr ?_; (case hd => rfl); (case hg => rfl); (case hr => first | (go_simp; done) | (go_simp; rfl)); intro gb290 hg w8 hbox hb; have BK290 := zK (hbox); have GW290 := zK ((by rw [hg]; exact (below_size (zo HB)) : w.heap.size ≤ gb290)); have GE290 := zK ((by rw [hg]; exact (below_size (zo HB)) : w.heap.size ≤ gb290)); replace HB := zK (below_step (zo HB) hb); clear hb hbox hg) | ((with_reducible refine gate_dst (N := 6) rfl ?_); refine box_event ?hg (N := 6) ?hd (cs := #[.int .i64 0, .int .u64 0, .int .i64 0, .int .u64 0]) (t := 109) ?hr ?_; (case hd => rfl); (case hg => rfl); (case hr => first | (go_simp; done) | (go_simp; rfl)); intro gb291 hg w9 hbox hb; have BK291 := zK (hbox); have GW291 := zK ((by rw [hg]; exact (below_size (zo HB)) : w.heap.size ≤ gb291)); have GE291 := zK ((by rw [hg]; exact (below_size (zo HB)) : w.heap.size ≤ gb291)); replace HB := zK (below_step (zo HB) hb); have NB290_291 := zK ((by rw [hg]; exact Nat.ne_of_lt (blk_lt (g := gb290) (o := .cells #[.int .i64 a0_0, .int .u64 a0_1, .int .i64 a0_2, .int .u64 a0_3] 109 (0, 0)) (zb BK290)) : gb290 ≠ gb291)); have NB291_290 := zK ((by rw [hg]; exact Nat.ne_of_gt (blk_lt (g := gb290) (o := .cells #[.int .i64 a0_0, .int .u64 a0_1, .int .i64 a0_2, .int .u64 a0_3] 109 (0, 0)) (zb BK290)) : gb291 ≠ gb290)); replace BK290 := zK (blk_below (g := gb290) (o := .cells #[.int .i64 a0_0, .int .u64 a0_1, .int .i64 a0_2, .int .u64 a0_3] 109 (0, 0)) (zb BK290) hb); clear hb hbox hg) | ((with_reducible refine zC (f := 78) rfl ?_); refine goesL_ (some 10) rfl rfl Try.func78 (by kernel_rfl) rfl #[.int .i64 a1, .int .i64 a2] rfl (by (try simp only [List.map_toArray, List.map_cons, List.map_nil]); first | done | rfl | (simp only [List.length_drop, List.length_take]; rfl)) ?_; (with_reducible refine (sequiturref01_Times.calls k a1 a2 t292 t293 _ A4.out).mono ?_); rintro e w10 ⟨rfl, hb⟩; refine ⟨_, rfl, ?_⟩; replace BK290 := zK (blk_below (g := gb290) (o := .cells #[.int .i64 a0_0, .int .u64 a0_1, .int .i64 a0_2, .int .u64 a0_3] 109 (0, 0)) (zb BK290) hb); replace BK291 := zK (blk_below (g := gb291) (o := .cells #[.int .i64 0, .int .u64 0, .int .i64 0, .int .u64 0] 109 (0, 0)) (zb BK291) hb); replace HB := zK (below_step (zo HB) hb); (try clear hb); (try clear hb2); (try clear hk); (try clear hi)) | ((with_reducible refine gate_dst (N := 7) rfl ?_); refine box_event ?hg (N := 7) ?hd (cs := #[.int .i64 0, .int .u64 0]) (t := 107) ?hr ?_; (case hd => rfl); (case hg => rfl); (case hr => first | (go_simp; done) | (go_simp; rfl)); intro gb294 hg w11 hbox hb; have BK294 := zK (hbox); have GW294 := zK ((by rw [hg]; exact (below_size (zo HB)) : w.heap.size ≤ gb294)); have GE294 := zK ((by rw [hg]; exact (below_size (zo HB)) : w.heap.size ≤ gb294)); replace HB := zK (below_step (zo HB) hb); have NB290_294 := zK ((by rw [hg]; exact Nat.ne_of_lt (blk_lt (g := gb290) (o := .cells #[.int .i64 a0_0, .int .u64 a0_1, .int .i64 a0_2, .int .u64 a0_3] 109 (0, 0)) (zb BK290)) : gb290 ≠ gb294)); have NB294_290 := zK ((by rw [hg]; exact Nat.ne_of_gt (blk_lt (g := gb290) (o := .cells #[.int .i64 a0_0, .int .u64 a0_1, .int .i64 a0_2, .int .u64 a0_3] 109 (0, 0)) (zb BK290)) : gb294 ≠ gb290)); replace BK290 := zK (blk_below (g := gb290) (o := .cells #[.int .i64 a0_0, .int .u64 a0_1, .int .i64 a0_2, .int .u64 a0_3] 109 (0, 0)) (zb BK290) hb); have NB291_294 := zK ((by rw [hg]; exact Nat.ne_of_lt (blk_lt (g := gb291) (o := .cells #[.int .i64 0, .int .u64 0, .int .i64 0, .int .u64 0] 109 (0, 0)) (zb BK291)) : gb291 ≠ gb294)); have NB294_291 := zK ((by rw [hg]; exact Nat.ne_of_gt (blk_lt (g := gb291) (o := .cells #[.int .i64 0, .int .u64 0, .int .i64 0, .int .u64 0] 109 (0, 0)) (zb BK291)) : gb294 ≠ gb291)); replace BK291 := zK (blk_below (g := gb291) (o := .cells #[.int .i64 0, .int .u64 0, .int .i64 0, .int .u64 0] 109 (0, 0)) (zb BK291) hb); clear hb hbox hg; have hnb12 := NB294_290.out; have hnc12 := NB290_294.out; have hnb13 := NB294_291.out; have hnc13 := NB291_294.out; have hcz14_0 : w11.cell? ⟨gb294, 0, none⟩ = some (.int .i64 0) := (blk_cell BK294.out 0).trans rfl; have hcz14_1 : w11.cell? ⟨gb294, 1, none⟩ = some (.int .u64 0) := (blk_cell BK294.out 1).trans rfl; have hfz14_0 := blk_frozen BK294.out 0; have hfz14_1 := blk_frozen BK294.out 1))
 have n0_ : Aside0 (((w11.setCell ⟨gb294, 0, none⟩ (.int .i64 t292)).setCell ⟨gb294, 1, none⟩ (.int .u64 t293)).heap[gb290]? = some (.cells #[.int .i64 a0_0, .int .u64 a0_1, .int .i64 a0_2, .int .u64 a0_3] 109 (0, 0))) := ⟨zb BK290⟩
 have n1_ : Aside0 (((w11.setCell ⟨gb294, 0, none⟩ (.int .i64 t292)).setCell ⟨gb294, 1, none⟩ (.int .u64 t293)).heap[gb291]? = some (.cells #[.int .i64 0, .int .u64 0, .int .i64 0, .int .u64 0] 109 (0, 0))) := ⟨zb BK291⟩
 have n2_ : Aside0 (((w11.setCell ⟨gb294, 0, none⟩ (.int .i64 t292)).setCell ⟨gb294, 1, none⟩ (.int .u64 t293)).heap[gb294]? = some (.cells #[.int .i64 t292, .int .u64 t293] 107 (0, 0))) := ⟨by refine zM ?_; refine blk_put (cs := #[.int .i64 t292, .int .u64 0]) ?_ 1 _ rfl; refine zM ?_; refine blk_put (cs := #[.int .i64 0, .int .u64 0]) ?_ 0 _ rfl; refine zM ?_; exact BK294.out⟩
 have n3_ : Aside0 (Below w.heap.size w ((w11.setCell ⟨gb294, 0, none⟩ (.int .i64 t292)).setCell ⟨gb294, 1, none⟩ (.int .u64 t293))) := ⟨zo HB⟩
 (try clear BK290)
 (try clear BK291)
 (try clear BK294)
 (try clear HB)
 generalize ((w11.setCell ⟨gb294, 0, none⟩ (.int .i64 t292)).setCell ⟨gb294, 1, none⟩ (.int .u64 t293)) = w15 at n0_ n1_ n2_ n3_ ⊢
 have BK290 := n0_
 have BK291 := n1_
 have BK294 := n2_
 have HB := n3_; clear n0_ n1_ n2_ n3_
 replace BK290 := zK (zD BK290.out)
 replace BK291 := zK (zD BK291.out)
 replace BK294 := zK (zD BK294.out)
 replace HB := zK (yD HB.out)
 refine start_ (n := 8) (S := fun w' => w'.cell? ⟨gb290, 0, none⟩ = some (.int .i64 a0_0) ∧ w'.cell? ⟨gb290, 1, none⟩ = some (.int .u64 a0_1) ∧ w'.cell? ⟨gb290, 2, none⟩ = some (.int .i64 a0_2) ∧ w'.cell? ⟨gb290, 3, none⟩ = some (.int .u64 a0_3) ∧ w'.cell? ⟨gb294, 0, none⟩ = some (.int .i64 t292) ∧ w'.cell? ⟨gb294, 1, none⟩ = some (.int .u64 t293)) (ds := [7]) #[F_,F_,F_,F_,F_,F_,F_,F_] (by kernel_rfl) rfl rfl ⟨(blk_cell BK290.out 0).trans rfl, (blk_cell BK290.out 1).trans rfl, (blk_cell BK290.out 2).trans rfl, (blk_cell BK290.out 3).trans rfl, (blk_cell BK294.out 0).trans rfl, (blk_cell BK294.out 1).trans rfl⟩ (fun hHeld => ?_); refine with_tabW sequiturref27_More.tab2 sequiturref27_More.bits2 (fun HT_ HW_ => ?_)
 generalize w15.drew = w16 at BK290 BK291 BK294 HB hHeld ⊢
 refine pure_ (i := 0) (N := some 11) (v := ?_) (a' := ?_) #[T_,F_,F_,F_,F_,F_,F_,F_] rfl rfl (any_of HT_.out (by kernel_rfl)) (fun _ _ _ h => h) (Or.inl ⟨by rfl, ?_⟩) ?_ ?_; rotate_left; (intro w'; go_simp; with_reducible rfl); rotate_left; (simp only [Act.put, zt, zz, zs, i64_w, i32_w]; rfl)
 refine pure_ (i := 2) (N := some 13) (v := ?_) (a' := ?_) #[T_,F_,T_,F_,F_,F_,F_,F_] rfl rfl (any_of HT_.out (by kernel_rfl)) (fun _ _ _ h => h) (Or.inl ⟨by rfl, ?_⟩) ?_ ?_; rotate_left; (intro w'; go_simp; with_reducible rfl); rotate_left; (simp only [Act.put, zt, zz, zs, i64_w, i32_w]; rfl)
 refine take_ (i := 1) (N := some 12) (v := ?_) (a' := ?_) #[T_,T_,T_,F_,F_,F_,F_,F_] rfl rfl (take_ofW HT_.out HW_.out (by kernel_rfl)) (fun _ _ _ h => h) (Or.inl ⟨by rfl, ?_⟩) hHeld ?_ ?_; rotate_left; (rintro w' ⟨s0, s1, s2, s3, s4, s5⟩; go_simp; with_reducible rfl); rotate_left; (simp only [Act.put, zt, zz, zs, i64_w, i32_w]; rfl)
 refine take_ (i := 3) (N := some 14) (v := ?_) (a' := ?_) #[T_,T_,T_,T_,F_,F_,F_,F_] rfl rfl (take_ofW HT_.out HW_.out (by kernel_rfl)) (fun _ _ _ h => h) (Or.inl ⟨by rfl, ?_⟩) hHeld ?_ ?_; rotate_left; (rintro w' ⟨s0, s1, s2, s3, s4, s5⟩; go_simp; with_reducible rfl); rotate_left; (simp only [Act.put, zt, zz, zs, i64_w, i32_w]; rfl)
 refine one_ (i := 4) (N := some 15) #[T_,T_,T_,T_,T_,F_,F_,F_] rfl rfl (one_of HT_.out (by kernel_rfl)) (by decide) (fun K hK => ?_)
 refine goes_ Try.func81 (by kernel_rfl) rfl #[.int .i64 t292] (by rfl) rfl rfl (by (try simp only [List.map_toArray, List.map_cons, List.map_nil]); first | done | rfl | (simp only [List.length_drop, List.length_take]; rfl)) ?_
 with_reducible refine (sequiturref01_Of.calls t292 t295 t296 _ A5.out).mono ?_
 rintro e w17 ⟨rfl, hb⟩
 refine ⟨_, rfl, ?_⟩
 replace BK290 := zK (blk_below (g := gb290) (o := .cells #[.int .i64 a0_0, .int .u64 a0_1, .int .i64 a0_2, .int .u64 a0_3] 109 (0, 0)) (zb BK290) hb)
 replace BK291 := zK (blk_below (g := gb291) (o := .cells #[.int .i64 0, .int .u64 0, .int .i64 0, .int .u64 0] 109 (0, 0)) (zb BK291) hb)
 replace BK294 := zK (blk_below (g := gb294) (o := .cells #[.int .i64 t292, .int .u64 t293] 107 (0, 0)) (zb BK294) hb)
 replace HB := zK (below_step (zo HB) hb)
 (try clear hb); (try clear hb2); (try clear hk); (try clear hi)
 refine hK.out _ _ ⟨(blk_cell BK290.out 0).trans rfl, (blk_cell BK290.out 1).trans rfl, (blk_cell BK290.out 2).trans rfl, (blk_cell BK290.out 3).trans rfl, (blk_cell BK294.out 0).trans rfl, (blk_cell BK294.out 1).trans rfl⟩ (fun hHeld => ?_)
 clear hK K
 refine norm_ (a' := ?_) ?_ ?_; rotate_left; (show Act.put _ (some 15) _ = _; simp only [Act.put, zt, zz, zs, i64_w, i32_w]; rfl)
 refine one_ (i := 5) (N := some 16) #[T_,T_,T_,T_,T_,T_,F_,F_] rfl rfl (one_of HT_.out (by kernel_rfl)) (by decide) (fun K hK => ?_)
 refine goes_ Try.func79 (by kernel_rfl) rfl #[.agg #[.int .i64 a0_0, .int .u64 a0_1], .agg #[.int .i64 t295, .int .u64 t296]] (by rfl) rfl rfl (by (try simp only [List.map_toArray, List.map_cons, List.map_nil]); first | done | rfl | (simp only [List.length_drop, List.length_take]; rfl)) ?_
 with_reducible refine (sequiturref01_Plus.calls a0_0 a0_1 t295 t296 t297 t298 _ A6.out).mono ?_
 rintro e w18 ⟨rfl, hb⟩
 refine ⟨_, rfl, ?_⟩
 replace BK290 := zK (blk_below (g := gb290) (o := .cells #[.int .i64 a0_0, .int .u64 a0_1, .int .i64 a0_2, .int .u64 a0_3] 109 (0, 0)) (zb BK290) hb)
 replace BK291 := zK (blk_below (g := gb291) (o := .cells #[.int .i64 0, .int .u64 0, .int .i64 0, .int .u64 0] 109 (0, 0)) (zb BK291) hb)
 replace BK294 := zK (blk_below (g := gb294) (o := .cells #[.int .i64 t292, .int .u64 t293] 107 (0, 0)) (zb BK294) hb)
 replace HB := zK (below_step (zo HB) hb)
 (try clear hb); (try clear hb2); (try clear hk); (try clear hi)
 refine hK.out _ _ ⟨(blk_cell BK290.out 0).trans rfl, (blk_cell BK290.out 1).trans rfl, (blk_cell BK290.out 2).trans rfl, (blk_cell BK290.out 3).trans rfl, (blk_cell BK294.out 0).trans rfl, (blk_cell BK294.out 1).trans rfl⟩ (fun hHeld => ?_)
 clear hK K
 refine norm_ (a' := ?_) ?_ ?_; rotate_left; (show Act.put _ (some 16) _ = _; simp only [Act.put, zt, zz, zs, i64_w, i32_w]; rfl)
 refine pure_ (i := 6) (N := some 17) (v := ?_) (a' := ?_) #[T_,T_,T_,T_,T_,T_,T_,F_] rfl rfl (any_of HT_.out (by kernel_rfl)) (fun _ _ _ h => h) (Or.inl ⟨by rfl, ?_⟩) ?_ ?_; rotate_left; (intro w'; go_simp; with_reducible rfl); rotate_left; (simp only [Act.put, zt, zz, zs, i64_w, i32_w]; rfl)
 refine last_ (i := 7) (N := none) #[T_,T_,T_,T_,T_,T_,T_,T_] rfl rfl (one_of HT_.out (by kernel_rfl)) (by decide) (fun K hK => ?_)
 have hs19 : w18.cell? ⟨gb290, 0, none⟩ = some (.int .i64 a0_0) := (blk_cell BK290.out 0).trans rfl
 have hfs19 := blk_frozen BK290.out 0
 have hns19_1 := NB291_290.out
 have hns19_2 := NB294_290.out
 have hms19_1 := NB290_291.out
 have hms19_2 := NB290_294.out
 have hs20 : w18.cell? ⟨gb290, 1, none⟩ = some (.int .u64 a0_1) := (blk_cell BK290.out 1).trans rfl
 have hfs20 := blk_frozen BK290.out 1
 have hns20_1 := NB291_290.out
 have hns20_2 := NB294_290.out
 have hms20_1 := NB290_291.out
 have hms20_2 := NB290_294.out
 refine skip_ (w1 := ?_) (by rfl) rfl ?_ ?_
 rotate_left
 ·go_simp
  rfl
 refine hK.out _ _ ?_
 clear hK K
 refine done_ (done_of HT_.out (by kernel_rfl)) ?_
 have hnb21 := NB290_291.out
 have hnc21 := NB291_290.out
 have hcz22_0 : w18.cell? ⟨gb290, 0, none⟩ = some (.int .i64 a0_0) := (blk_cell BK290.out 0).trans rfl
 have hcz22_1 : w18.cell? ⟨gb290, 1, none⟩ = some (.int .u64 a0_1) := (blk_cell BK290.out 1).trans rfl
 have hcz22_2 : w18.cell? ⟨gb290, 2, none⟩ = some (.int .i64 a0_2) := (blk_cell BK290.out 2).trans rfl
 have hcz22_3 : w18.cell? ⟨gb290, 3, none⟩ = some (.int .u64 a0_3) := (blk_cell BK290.out 3).trans rfl
 have hfz22_0 := blk_frozen BK290.out 0
 have hfz22_1 := blk_frozen BK290.out 1
 have hfz22_2 := blk_frozen BK290.out 2
 have hfz22_3 := blk_frozen BK290.out 3
 have hcz23_0 : w18.cell? ⟨gb294, 0, none⟩ = some (.int .i64 t292) := (blk_cell BK294.out 0).trans rfl
 have hcz23_1 : w18.cell? ⟨gb294, 1, none⟩ = some (.int .u64 t293) := (blk_cell BK294.out 1).trans rfl
 have hfz23_0 := blk_frozen BK294.out 0
 have hfz23_1 := blk_frozen BK294.out 1
 try go_wp2_with (first | ((with_reducible refine zC (f := 79) rfl ?_); refine goesL_ (some 23) rfl rfl Try.func79 (by kernel_rfl) rfl #[.agg #[.int .i64 a0_2, .int .u64 a0_3], .agg #[.int .i64 0, .int .u64 t293]] rfl (by (try simp only [List.map_toArray, List.map_cons, List.map_nil]); first | done | rfl | (simp only [List.length_drop, List.length_take]; rfl)) ?_; (with_reducible refine (sequiturref01_Plus.calls a0_2 a0_3 0 t293 t299 t300 _ A7.out).mono ?_); rintro e w24 ⟨rfl, hb⟩; refine ⟨_, rfl, ?_⟩; replace BK290 := zK (blk_below (g := gb290) (o := .cells #[.int .i64 t297, .int .u64 t298, .int .i64 a0_2, .int .u64 a0_3] 109 (0, 0)) (by refine zM ?_; refine blk_put (cs := #[.int .i64 t297, .int .u64 a0_1, .int .i64 a0_2, .int .u64 a0_3]) ?_ 1 _ rfl; refine zM ?_; refine blk_put (cs := #[.int .i64 a0_0, .int .u64 a0_1, .int .i64 a0_2, .int .u64 a0_3]) ?_ 0 _ rfl; refine zM ?_; exact BK290.out) hb); replace BK291 := zK (blk_below (g := gb291) (o := .cells #[.int .i64 0, .int .u64 0, .int .i64 0, .int .u64 0] 109 (0, 0)) (zb BK291) hb); replace BK294 := zK (blk_below (g := gb294) (o := .cells #[.int .i64 t292, .int .u64 t293] 107 (0, 0)) (zb BK294) hb); replace HB := zK (below_step (zo HB) hb); (try clear hb); (try clear hb2); (try clear hk); (try clear hi); have hcz25_0 : w24.cell? ⟨gb290, 0, none⟩ = some (.int .i64 t297) := (blk_cell BK290.out 0).trans rfl; have hcz25_1 : w24.cell? ⟨gb290, 1, none⟩ = some (.int .u64 t298) := (blk_cell BK290.out 1).trans rfl; have hcz25_2 : w24.cell? ⟨gb290, 2, none⟩ = some (.int .i64 a0_2) := (blk_cell BK290.out 2).trans rfl; have hcz25_3 : w24.cell? ⟨gb290, 3, none⟩ = some (.int .u64 a0_3) := (blk_cell BK290.out 3).trans rfl; have hfz25_0 := blk_frozen BK290.out 0; have hfz25_1 := blk_frozen BK290.out 1; have hfz25_2 := blk_frozen BK290.out 2; have hfz25_3 := blk_frozen BK290.out 3; have hcz26_0 : w24.cell? ⟨gb291, 0, none⟩ = some (.int .i64 0) := (blk_cell BK291.out 0).trans rfl; have hcz26_1 : w24.cell? ⟨gb291, 1, none⟩ = some (.int .u64 0) := (blk_cell BK291.out 1).trans rfl; have hcz26_2 : w24.cell? ⟨gb291, 2, none⟩ = some (.int .i64 0) := (blk_cell BK291.out 2).trans rfl; have hcz26_3 : w24.cell? ⟨gb291, 3, none⟩ = some (.int .u64 0) := (blk_cell BK291.out 3).trans rfl; have hfz26_0 := blk_frozen BK291.out 0; have hfz26_1 := blk_frozen BK291.out 1; have hfz26_2 := blk_frozen BK291.out 2; have hfz26_3 := blk_frozen BK291.out 3))
 refine bodyPost_ret (results_cell_row rfl _ _ gb291 109 #[.int .i64 t297, .int .u64 t298, .int .i64 t299, .int .u64 t300] (0, 0) _ rfl (by refine zM ?_; refine blk_put (cs := #[.int .i64 t297, .int .u64 t298, .int .i64 t299, .int .u64 0]) ?_ 3 _ rfl; refine zM ?_; refine blk_put (cs := #[.int .i64 t297, .int .u64 t298, .int .i64 0, .int .u64 0]) ?_ 2 _ rfl; refine zM ?_; refine blk_put (cs := #[.int .i64 t297, .int .u64 0, .int .i64 0, .int .u64 0]) ?_ 1 _ rfl; refine zM ?_; refine blk_put (cs := #[.int .i64 0, .int .u64 0, .int .i64 0, .int .u64 0]) ?_ 0 _ rfl; refine zM ?_; refine blk_far ?_ NB291_290.out _; refine zM ?_; refine blk_far ?_ NB291_290.out _; refine zM ?_; exact BK291.out) Try.underlying109 rfl (by kernel_rfl)) rfl ?_
 exact ⟨by first | rfl | (simp [errW_none, errW_some] <;> rfl) | (simp [*, errW_none, errW_some] <;> rfl), zo HB⟩

/-! ### sequiturref01_Fits: function 96 -/
def sequiturref01_Fits.f (a0_0 : Int) (a0_1 : Int) : Option (Int × Bool) := if a0_0 = 0 then (if (wrap64 (a0_1)) ≥ 0 then (some (wrap64 (a0_1), true)) else (if a0_0 = (-1) then (if (wrap64 (a0_1)) < 0 then (some (wrap64 (a0_1), true)) else (some (0, false))) else (some (0, false)))) else (if a0_0 = (-1) then (if (wrap64 (a0_1)) < 0 then (some (wrap64 (a0_1), true)) else (some (0, false))) else (some (0, false)))
set_option maxHeartbeats 8000000 in
set_option maxRecDepth 100000 in
theorem sequiturref01_Fits.calls (a0_0 : Int) (a0_1 : Int) (r1 : Int) (r2 : Bool) (w : World) (h : sequiturref01_Fits.f a0_0 a0_1 = some (r1, r2)) :
  Calls Try.prog 96 #[.agg #[.int .i64 a0_0, .int .u64 a0_1]] w fun e w' => e = .returned (.tuple #[.int .i64 r1, .bool r2]) ∧ Below w.heap.size w w' := by
 have hu107 := Try.underlying107
 have HB := zK (Below.refl w.heap.size w)
 have H : (if a0_0 = 0 then (if (wrap64 (a0_1)) ≥ 0 then (some (wrap64 (a0_1), true)) else (if a0_0 = (-1) then (if (wrap64 (a0_1)) < 0 then (some (wrap64 (a0_1), true)) else (some (0, false))) else (some (0, false)))) else (if a0_0 = (-1) then (if (wrap64 (a0_1)) < 0 then (some (wrap64 (a0_1), true)) else (some (0, false))) else (some (0, false)))) = some (r1, r2) := h
 clear h
 by_cases c2 : a0_0 = 0
 ·rw [if_pos c2] at H
  have c2b0 : (a0_0 == 0) = true := beq_iff_eq.mpr c2
  have c2b1 : (a0_0 != 0) = false := bne_eq_false_iff_eq.mpr c2; clear c2
  by_cases c3 : (wrap64 (a0_1)) ≥ 0
  ·rw [if_pos c3] at H
   have c3b0 : decide (0 ≤ (wrap64 (a0_1))) = true := decide_eq_true c3
   clear c3
   simp only [Option.some.injEq, Prod.mk.injEq] at H
   obtain ⟨rfl, rfl⟩ := H
   go_enter Try.func96, Try.ntmps96
   go_wp2_with (first | ((with_reducible refine gate_dst (N := 1) rfl ?_); refine box_event ?hg (N := 1) ?hd (cs := #[.int .i64 a0_0, .int .u64 a0_1]) (t := 107) ?hr ?_; (case hd => rfl); (case hg => rfl); (case hr => first | (go_simp; done) | (go_simp; rfl)); intro gb301 hg w4 hbox hb; have BK301 := zK (hbox); have GW301 := zK ((by rw [hg]; exact (below_size (zo HB)) : w.heap.size ≤ gb301)); have GE301 := zK ((by rw [hg]; exact (below_size (zo HB)) : w.heap.size ≤ gb301)); replace HB := zK (below_step (zo HB) hb); clear hb hbox hg; have hcz5_0 : w4.cell? ⟨gb301, 0, none⟩ = some (.int .i64 a0_0) := (blk_cell BK301.out 0).trans rfl; have hcz5_1 : w4.cell? ⟨gb301, 1, none⟩ = some (.int .u64 a0_1) := (blk_cell BK301.out 1).trans rfl; have hfz5_0 := blk_frozen BK301.out 0; have hfz5_1 := blk_frozen BK301.out 1))
   go_ret2
   exact ⟨by first | rfl | (simp [errW_none, errW_some] <;> rfl) | (simp [*, errW_none, errW_some] <;> rfl), zo HB⟩
  ·rw [if_neg c3] at H
   have c3b0 : decide (0 ≤ (wrap64 (a0_1))) = false := decide_eq_false c3
   clear c3
   by_cases c6 : a0_0 = (-1)
   ·rw [if_pos c6] at H
    have c6b0 : (a0_0 == (-1)) = true := beq_iff_eq.mpr c6
    have c6b1 : (a0_0 != (-1)) = false := bne_eq_false_iff_eq.mpr c6; clear c6
    by_cases c7 : (wrap64 (a0_1)) < 0
    ·rw [if_pos c7] at H
     have c7b0 : decide ((wrap64 (a0_1)) < 0) = true := decide_eq_true c7
     clear c7
     simp only [Option.some.injEq, Prod.mk.injEq] at H
     obtain ⟨rfl, rfl⟩ := H
     go_enter Try.func96, Try.ntmps96
     go_wp2_with (first | ((with_reducible refine gate_dst (N := 1) rfl ?_); refine box_event ?hg (N := 1) ?hd (cs := #[.int .i64 a0_0, .int .u64 a0_1]) (t := 107) ?hr ?_; (case hd => rfl); (case hg => rfl); (case hr => first | (go_simp; done) | (go_simp; rfl)); intro gb301 hg w8 hbox hb; have BK301 := zK (hbox); have GW301 := zK ((by rw [hg]; exact (below_size (zo HB)) : w.heap.size ≤ gb301)); have GE301 := zK ((by rw [hg]; exact (below_size (zo HB)) : w.heap.size ≤ gb301)); replace HB := zK (below_step (zo HB) hb); clear hb hbox hg; have hcz9_0 : w8.cell? ⟨gb301, 0, none⟩ = some (.int .i64 a0_0) := (blk_cell BK301.out 0).trans rfl; have hcz9_1 : w8.cell? ⟨gb301, 1, none⟩ = some (.int .u64 a0_1) := (blk_cell BK301.out 1).trans rfl; have hfz9_0 := blk_frozen BK301.out 0; have hfz9_1 := blk_frozen BK301.out 1))
     go_ret2
     exact ⟨by first | rfl | (simp [errW_none, errW_some] <;> rfl) | (simp [*, errW_none, errW_some] <;> rfl), zo HB⟩
    ·rw [if_neg c7] at H
     have c7b0 : decide ((wrap64 (a0_1)) < 0) = false := decide_eq_false c7
     clear c7
     simp only [Option.some.injEq, Prod.mk.injEq] at H
     obtain ⟨rfl, rfl⟩ := H
     go_enter Try.func96, Try.ntmps96
     go_wp2_with (first | ((with_reducible refine gate_dst (N := 1) rfl ?_); refine box_event ?hg (N := 1) ?hd (cs := #[.int .i64 a0_0, .int .u64 a0_1]) (t := 107) ?hr ?_; (case hd => rfl); (case hg => rfl); (case hr => first | (go_simp; done) | (go_simp; rfl)); intro gb301 hg w10 hbox hb; have BK301 := zK (hbox); have GW301 := zK ((by rw [hg]; exact (below_size (zo HB)) : w.heap.size ≤ gb301)); have GE301 := zK ((by rw [hg]; exact (below_size (zo HB)) : w.heap.size ≤ gb301)); replace HB := zK (below_step (zo HB) hb); clear hb hbox hg; have hcz11_0 : w10.cell? ⟨gb301, 0, none⟩ = some (.int .i64 a0_0) := (blk_cell BK301.out 0).trans rfl; have hcz11_1 : w10.cell? ⟨gb301, 1, none⟩ = some (.int .u64 a0_1) := (blk_cell BK301.out 1).trans rfl; have hfz11_0 := blk_frozen BK301.out 0; have hfz11_1 := blk_frozen BK301.out 1))
     go_ret2
     exact ⟨by first | rfl | (simp [errW_none, errW_some] <;> rfl) | (simp [*, errW_none, errW_some] <;> rfl), zo HB⟩
   ·rw [if_neg c6] at H
    have c6b0 : (a0_0 == (-1)) = false := beq_eq_false_iff_ne.mpr c6
    have c6b1 : (a0_0 != (-1)) = true := bne_iff_ne.mpr c6
    simp only [Option.some.injEq, Prod.mk.injEq] at H
    obtain ⟨rfl, rfl⟩ := H
    go_enter Try.func96, Try.ntmps96
    go_wp2_with (first | ((with_reducible refine gate_dst (N := 1) rfl ?_); refine box_event ?hg (N := 1) ?hd (cs := #[.int .i64 a0_0, .int .u64 a0_1]) (t := 107) ?hr ?_; (case hd => rfl); (case hg => rfl); (case hr => first | (go_simp; done) | (go_simp; rfl)); intro gb301 hg w12 hbox hb; have BK301 := zK (hbox); have GW301 := zK ((by rw [hg]; exact (below_size (zo HB)) : w.heap.size ≤ gb301)); have GE301 := zK ((by rw [hg]; exact (below_size (zo HB)) : w.heap.size ≤ gb301)); replace HB := zK (below_step (zo HB) hb); clear hb hbox hg; have hcz13_0 : w12.cell? ⟨gb301, 0, none⟩ = some (.int .i64 a0_0) := (blk_cell BK301.out 0).trans rfl; have hcz13_1 : w12.cell? ⟨gb301, 1, none⟩ = some (.int .u64 a0_1) := (blk_cell BK301.out 1).trans rfl; have hfz13_0 := blk_frozen BK301.out 0; have hfz13_1 := blk_frozen BK301.out 1))
    go_ret2
    exact ⟨by first | rfl | (simp [errW_none, errW_some] <;> rfl) | (simp [*, errW_none, errW_some] <;> rfl), zo HB⟩
 ·rw [if_neg c2] at H
  have c2b0 : (a0_0 == 0) = false := beq_eq_false_iff_ne.mpr c2
  have c2b1 : (a0_0 != 0) = true := bne_iff_ne.mpr c2
  by_cases c14 : a0_0 = (-1)
  ·rw [if_pos c14] at H
   have c14b0 : (a0_0 == (-1)) = true := beq_iff_eq.mpr c14
   have c14b1 : (a0_0 != (-1)) = false := bne_eq_false_iff_eq.mpr c14
   clear c14
   by_cases c15 : (wrap64 (a0_1)) < 0
   ·rw [if_pos c15] at H
    have c15b0 : decide ((wrap64 (a0_1)) < 0) = true := decide_eq_true c15
    clear c15
    simp only [Option.some.injEq, Prod.mk.injEq] at H
    obtain ⟨rfl, rfl⟩ := H
    go_enter Try.func96, Try.ntmps96
    go_wp2_with (first | ((with_reducible refine gate_dst (N := 1) rfl ?_); refine box_event ?hg (N := 1) ?hd (cs := #[.int .i64 a0_0, .int .u64 a0_1]) (t := 107) ?hr ?_; (case hd => rfl); (case hg => rfl); (case hr => first | (go_simp; done) | (go_simp; rfl)); intro gb301 hg w16 hbox hb; have BK301 := zK (hbox); have GW301 := zK ((by rw [hg]; exact (below_size (zo HB)) : w.heap.size ≤ gb301)); have GE301 := zK ((by rw [hg]; exact (below_size (zo HB)) : w.heap.size ≤ gb301)); replace HB := zK (below_step (zo HB) hb); clear hb hbox hg; have hcz17_0 : w16.cell? ⟨gb301, 0, none⟩ = some (.int .i64 a0_0) := (blk_cell BK301.out 0).trans rfl; have hcz17_1 : w16.cell? ⟨gb301, 1, none⟩ = some (.int .u64 a0_1) := (blk_cell BK301.out 1).trans rfl; have hfz17_0 := blk_frozen BK301.out 0; have hfz17_1 := blk_frozen BK301.out 1))
    go_ret2
    exact ⟨by first | rfl | (simp [errW_none, errW_some] <;> rfl) | (simp [*, errW_none, errW_some] <;> rfl), zo HB⟩
   ·rw [if_neg c15] at H
    have c15b0 : decide ((wrap64 (a0_1)) < 0) = false := decide_eq_false c15
    clear c15
    simp only [Option.some.injEq, Prod.mk.injEq] at H
    obtain ⟨rfl, rfl⟩ := H
    go_enter Try.func96, Try.ntmps96
    go_wp2_with (first | ((with_reducible refine gate_dst (N := 1) rfl ?_); refine box_event ?hg (N := 1) ?hd (cs := #[.int .i64 a0_0, .int .u64 a0_1]) (t := 107) ?hr ?_; (case hd => rfl); (case hg => rfl); (case hr => first | (go_simp; done) | (go_simp; rfl)); intro gb301 hg w18 hbox hb; have BK301 := zK (hbox); have GW301 := zK ((by rw [hg]; exact (below_size (zo HB)) : w.heap.size ≤ gb301)); have GE301 := zK ((by rw [hg]; exact (below_size (zo HB)) : w.heap.size ≤ gb301)); replace HB := zK (below_step (zo HB) hb); clear hb hbox hg; have hcz19_0 : w18.cell? ⟨gb301, 0, none⟩ = some (.int .i64 a0_0) := (blk_cell BK301.out 0).trans rfl; have hcz19_1 : w18.cell? ⟨gb301, 1, none⟩ = some (.int .u64 a0_1) := (blk_cell BK301.out 1).trans rfl; have hfz19_0 := blk_frozen BK301.out 0; have hfz19_1 := blk_frozen BK301.out 1))
    go_ret2
    exact ⟨by first | rfl | (simp [errW_none, errW_some] <;> rfl) | (simp [*, errW_none, errW_some] <;> rfl), zo HB⟩
  ·rw [if_neg c14] at H
   have c14b0 : (a0_0 == (-1)) = false := beq_eq_false_iff_ne.mpr c14
   have c14b1 : (a0_0 != (-1)) = true := bne_iff_ne.mpr c14
   simp only [Option.some.injEq, Prod.mk.injEq] at H
   obtain ⟨rfl, rfl⟩ := H
   go_enter Try.func96, Try.ntmps96
   go_wp2_with (first | ((with_reducible refine gate_dst (N := 1) rfl ?_); refine box_event ?hg (N := 1) ?hd (cs := #[.int .i64 a0_0, .int .u64 a0_1]) (t := 107) ?hr ?_; (case hd => rfl); (case hg => rfl); (case hr => first | (go_simp; done) | (go_simp; rfl)); intro gb301 hg w20 hbox hb; have BK301 := zK (hbox); have GW301 := zK ((by rw [hg]; exact (below_size (zo HB)) : w.heap.size ≤ gb301)); have GE301 := zK ((by rw [hg]; exact (below_size (zo HB)) : w.heap.size ≤ gb301)); replace HB := zK (below_step (zo HB) hb); clear hb hbox hg; have hcz21_0 : w20.cell? ⟨gb301, 0, none⟩ = some (.int .i64 a0_0) := (blk_cell BK301.out 0).trans rfl; have hcz21_1 : w20.cell? ⟨gb301, 1, none⟩ = some (.int .u64 a0_1) := (blk_cell BK301.out 1).trans rfl; have hfz21_0 := blk_frozen BK301.out 0; have hfz21_1 := blk_frozen BK301.out 1))
   go_ret2
   exact ⟨by first | rfl | (simp [errW_none, errW_some] <;> rfl) | (simp [*, errW_none, errW_some] <;> rfl), zo HB⟩

end Go.Proofs.Ytkfbfgkdabljiaa.PShadowDark
