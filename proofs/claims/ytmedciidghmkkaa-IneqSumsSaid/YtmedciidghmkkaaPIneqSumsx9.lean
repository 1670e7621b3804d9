/- What the call of each function that the law reaches comes to: it answers as the plain function of the same name does, wherever that one answers; and the law itself out of its plain form. Written by a program of this session (an extended copy of the printer); no condition but what stands in each theorem. -/
import Derived.Test.YtmedciidghmkkaaPIneqSumsx0
import Derived.Test.YtmedciidghmkkaaPIneqSumsx8
namespace Go.Proofs.Ytmedciidghmkkaa.PIneqSums
open Go.RowKit Go.Proofs.YtmedciidghmkkaaW.PrintWords Go.Proofs.YtmedciidghmkkaaW.PrintLast Go.Proofs.YtmedciidghmkkaaW.PrintMore
open Go.Proofs.YtmedciidghmkkaaW.PrintWords renaming blk_drewN → zN, blk_drew → zD, blk_alloc → zA, below_alloc → yA, pw_below_drewN → yN, below_drew1 → yD, below_set → yS, gate_callee → zC
open Go.Proofs.YtmedciidghmkkaaW.PrintWords.Aside0 renaming mk → zK
attribute [local go_sem] max2_int min2_int max_two min_two max_three min_three max_four min_four   -- for this text's walks alone
set_option linter.unusedVariables false
set_option linter.unusedSimpArgs false

/-! ### sequiturref28_More: function 51 -/
def sequiturref28_More.f (k : Nat) (a0_0 : Int) (a0_1 : Int) (a0_2 : Int) (a1 : Int) (a2 : Int) : Option (Int × Int × Int) := (sequiturref01_Times.f k a1 a2).bind fun bt274 => ((sequiturref01_Of.f bt274.1).bind fun bt277 => ((sequiturref01_Plus.f a0_0 a0_1 bt277.1 bt277.2).bind fun bt279 => (if (IntKind.u64.wrap (a0_2 + bt274.2)) < a0_2 then ((sequiturref01_Of.f 1).bind fun bt282 => ((sequiturref01_Plus.f bt279.1 bt279.2 bt282.1 bt282.2).bind fun bt284 => (some (bt284.1, bt284.2, IntKind.u64.wrap (a0_2 + bt274.2))))) else (some (bt279.1, bt279.2, IntKind.u64.wrap (a0_2 + bt274.2))))))
theorem sequiturref28_More.mono : ∀ a0 a1 a2 a3 a4 k, LeO (sequiturref28_More.f k a0 a1 a2 a3 a4) (sequiturref28_More.f (k + 1) a0 a1 a2 a3 a4) := by
 intro a0 a1 a2 a3 a4 k
 unfold sequiturref28_More.f
 repeat' first
   | (with_reducible exact sequiturref01_Times.mono _ _ _)
   | (with_reducible exact LeO.refl _)
   | (with_reducible exact LeO.none _)
   | (with_reducible refine LeO.ite ?_ ?_)
   | (with_reducible refine LeO.bind ?_ (fun _ => ?_))
   | exact sequiturref01_Times.mono _ _ _
   | exact LeO.none _
   | refine LeO.ite ?_ ?_
   | refine LeO.bind ?_ (fun _ => ?_)
def sequiturref28_More.T3 : Bool × List (List Nat × List Nat) := (true, [([], []), ([0], [0]), ([], []), ([2], [2]), ([3], [3]), ([1, 4, 4], [1, 4]), ([], []), ([6, 5, 5, 0, 1, 2, 3, 4, 5, 6], [5, 6])])
def sequiturref28_More.B3 : List Nat := [0, 1, 0, 4, 12, 31, 0, 127]
theorem sequiturref28_More.tab3 : rtab .any (opsOf Try.f51 3) = sequiturref28_More.T3 := by kernel_rfl
theorem sequiturref28_More.bits3 : waitsOk sequiturref28_More.T3.2 sequiturref28_More.B3 = true := by kernel_rfl
set_option maxHeartbeats 8000000 in
set_option maxRecDepth 100000 in
theorem sequiturref28_More.calls (k : Nat) (a0_0 : Int) (a0_1 : Int) (a0_2 : Int) (a1 : Int) (a2 : Int) (r1 : Int) (r2 : Int) (r3 : Int) (w : World) (h : sequiturref28_More.f k a0_0 a0_1 a0_2 a1 a2 = some (r1, r2, r3)) :
  Calls Try.prog 51 #[.agg #[.int .i64 a0_0, .int .u64 a0_1, .int .u64 a0_2], .int .i64 a1, .int .i64 a2] w fun e w' => e = .returned (.agg #[.int .i64 r1, .int .u64 r2, .int .u64 r3]) ∧ Below w.heap.size w w' := by
 have hu76 := Try.underlying76
 have hu74 := Try.underlying74
 have HB := zK (Below.refl w.heap.size w)
 have H : ((sequiturref01_Times.f k a1 a2).bind fun bt274 => ((sequiturref01_Of.f bt274.1).bind fun bt277 => ((sequiturref01_Plus.f a0_0 a0_1 bt277.1 bt277.2).bind fun bt279 => (if (IntKind.u64.wrap (a0_2 + bt274.2)) < a0_2 then ((sequiturref01_Of.f 1).bind fun bt282 => ((sequiturref01_Plus.f bt279.1 bt279.2 bt282.1 bt282.2).bind fun bt284 => (some (bt284.1, bt284.2, IntKind.u64.wrap (a0_2 + bt274.2))))) else (some (bt279.1, bt279.2, IntKind.u64.wrap (a0_2 + bt274.2))))))) = some (r1, r2, r3) := h
 clear h
 replace H := Option.bind_eq_some_iff.mp H
 obtain ⟨⟨t274, t275⟩, A40, H⟩ := H
 replace H : ((sequiturref01_Of.f t274).bind fun bt277 => ((sequiturref01_Plus.f a0_0 a0_1 bt277.1 bt277.2).bind fun bt279 => (if (IntKind.u64.wrap (a0_2 + t275)) < a0_2 then ((sequiturref01_Of.f 1).bind fun bt282 => ((sequiturref01_Plus.f bt279.1 bt279.2 bt282.1 bt282.2).bind fun bt284 => (some (bt284.1, bt284.2, IntKind.u64.wrap (a0_2 + t275))))) else (some (bt279.1, bt279.2, IntKind.u64.wrap (a0_2 + t275)))))) = some (r1, r2, r3) := H
 have A4 := zK A40
 clear A40
 replace H := Option.bind_eq_some_iff.mp H
 obtain ⟨⟨t277, t278⟩, A50, H⟩ := H
 replace H : ((sequiturref01_Plus.f a0_0 a0_1 t277 t278).bind fun bt279 => (if (IntKind.u64.wrap (a0_2 + t275)) < a0_2 then ((sequiturref01_Of.f 1).bind fun bt282 => ((sequiturref01_Plus.f bt279.1 bt279.2 bt282.1 bt282.2).bind fun bt284 => (some (bt284.1, bt284.2, IntKind.u64.wrap (a0_2 + t275))))) else (some (bt279.1, bt279.2, IntKind.u64.wrap (a0_2 + t275))))) = some (r1, r2, r3) := H
 have A5 := zK A50
 clear A50
 replace H := Option.bind_eq_some_iff.mp H
 obtain ⟨⟨t279, t280⟩, A60, H⟩ := H
 replace H : (if (IntKind.u64.wrap (a0_2 + t275)) < a0_2 then ((sequiturref01_Of.f 1).bind fun bt282 => ((sequiturref01_Plus.f t279 t280 bt282.1 bt282.2).bind fun bt284 => (some (bt284.1, bt284.2, IntKind.u64.wrap (a0_2 + t275))))) else (some (t279, t280, IntKind.u64.wrap (a0_2 + t275)))) = some (r1, r2, r3) := H
 have A6 := zK A60
 clear A60
 by_cases c7 : (IntKind.u64.wrap (a0_2 + t275)) < a0_2
 ·rw [if_pos c7] at H
  have c7b0 : decide ((IntKind.u64.wrap (a0_2 + t275)) < a0_2) = true := decide_eq_true c7
  clear c7
  replace H := Option.bind_eq_some_iff.mp H
  obtain ⟨⟨t282, t283⟩, A80, H⟩ := H
  replace H : ((sequiturref01_Plus.f t279 t280 t282 t283).bind fun bt284 => (some (bt284.1, bt284.2, IntKind.u64.wrap (a0_2 + t275)))) = some (r1, r2, r3) := H
  have A8 := zK A80
  clear A80
  replace H := Option.bind_eq_some_iff.mp H
  obtain ⟨⟨t284, t285⟩, A90, H⟩ := H
  replace H : (some (t284, t285, IntKind.u64.wrap (a0_2 + t275))) = some (r1, r2, r3) := H
  have A9 := zK A90
  clear A90
  simp only [Option.some.injEq, Prod.mk.injEq] at H
  obtain ⟨rfl, rfl, rfl⟩ := H
  go_enter Try.func51, Try.ntmps51
  try go_wp2_with (first | ((with_reducible refine gate_dst (N := 3) rfl ?_); refine box_event ?hg (N := 3) ?hd (cs := #[.int .i64 a0_0, .int .u64 a0_1, .int .u64 a0_2]) (t := 76) ?hr ?_; (case hd => rfl); (case hg => rfl); (case hr => first | (go_simp; done) | (go_simp; rfl)); intro gb272 hg w10 hbox hb; have n0_ := zK (below_step (by repeat (first | (with_reducible first | exact HB.out | apply yA | apply yN | apply yD) | exact HB.out)) hb); have n1_ := zK (hbox); have n2_ := zK ((by rw [hg]; exact (below_size (by repeat (first | (with_reducible first | exact HB.out | apply yA | apply yN | apply yD) | exact HB.out))) : w.heap.size ≤ gb272)); have n3_ := zK ((by rw [hg]; exact (below_size (by repeat (first | (with_reducible first | exact HB.out | apply yA | apply yN | apply yD) | exact HB.out))) : w.heap.size ≤ gb272)); clear HB; have HB := n0_; have BK272 := n1_; have GW272 := n2_; have GE272 := n3_; clear n0_ n1_ n2_ n3_; clear hb hbox hg) | ((with_reducible refine gate_dst (N := 6) rfl ?_); refine box_event ?hg (N := 6) ?hd (cs := #[.int .i64 0, .int .u64 0, .int .u64 0]) (t := 76) ?hr ?_; (case hd => rfl); (case hg => rfl); (case hr => first | (go_simp; done) | (go_simp; rfl)); intro gb273 hg w11 hbox hb; have n0_ := zK (blk_below (g := gb272) (o := .cells #[.int .i64 a0_0, .int .u64 a0_1, .int .u64 a0_2] 76 (0, 0)) (by (with_reducible repeat (first | refine zN ?_ _ | refine zD ?_ | refine zA ?_ _)); exact BK272.out) hb); have n1_ := zK (below_step (by repeat (first | (with_reducible first | exact HB.out | apply yA | apply yN | apply yD | refine yS ?_ GE272.out) | exact HB.out)) hb); have n2_ := zK (hbox); have n3_ := zK ((by rw [hg]; exact (below_size (by repeat (first | (with_reducible first | exact HB.out | apply yA | apply yN | apply yD | refine yS ?_ GE272.out) | exact HB.out))) : w.heap.size ≤ gb273)); have n4_ := zK ((by rw [hg]; exact (below_size (by repeat (first | (with_reducible first | exact HB.out | apply yA | apply yN | apply yD | refine yS ?_ GE272.out) | exact HB.out))) : w.heap.size ≤ gb273)); have n5_ := zK ((by rw [hg]; exact Nat.ne_of_lt (blk_lt (g := gb272) (o := .cells #[.int .i64 a0_0, .int .u64 a0_1, .int .u64 a0_2] 76 (0, 0)) (by (with_reducible repeat (first | refine zN ?_ _ | refine zD ?_ | refine zA ?_ _)); exact BK272.out)) : gb272 ≠ gb273)); have n6_ := zK ((by rw [hg]; exact Nat.ne_of_gt (blk_lt (g := gb272) (o := .cells #[.int .i64 a0_0, .int .u64 a0_1, .int .u64 a0_2] 76 (0, 0)) (by (with_reducible repeat (first | refine zN ?_ _ | refine zD ?_ | refine zA ?_ _)); exact BK272.out)) : gb273 ≠ gb272)); clear BK272; clear HB; have BK272 := n0_; have HB := n1_; have BK273 := n2_; have GW273 := n3_; have GE273 := n4_; have NB272_273 := n5_; have NB273_272 := n6_; clear n0_ n1_ n2_ n3_ n4_ n5_ n6_; clear hb hbox hg) | ((with_reducible refine zC (f := 64) rfl ?_); refine goesL_ (some 12) rfl rfl Try.func64 (by kernel_rfl) rfl #[.int .i64 a1, .int .i64 a2] rfl (by (try simp only [List.map_toArray, List.map_cons, List.map_nil]); first | done | rfl | (simp only [List.length_drop, List.length_take]; rfl)) ?_; (with_reducible refine (sequiturref01_Times.calls k a1 a2 t274 t275 _ A4.out).mono ?_); rintro e w12 ⟨rfl, hb⟩; refine ⟨_, rfl, ?_⟩; have n0_ := zK (blk_below (g := gb272) (o := .cells #[.int .i64 a0_0, .int .u64 a0_1, .int .u64 a0_2] 76 (0, 0)) (by (with_reducible repeat (first | refine zN ?_ _ | refine zD ?_ | refine zA ?_ _)); exact BK272.out) hb); have n1_ := zK (blk_below (g := gb273) (o := .cells #[.int .i64 0, .int .u64 0, .int .u64 0] 76 (0, 0)) (by (with_reducible repeat (first | refine zN ?_ _ | refine zD ?_ | refine zA ?_ _)); exact BK273.out) hb); have n2_ := zK (below_step (by repeat (first | (with_reducible first | exact HB.out | apply yA | apply yN | apply yD | refine yS ?_ GE272.out | refine yS ?_ GE273.out) | exact HB.out)) hb); clear BK272; clear BK273; clear HB; have BK272 := n0_; have BK273 := n1_; have HB := n2_; clear n0_ n1_ n2_; (try clear hb); (try clear hb2); (try clear hk); (try clear hi)) | ((with_reducible refine gate_dst (N := 7) rfl ?_); refine box_event ?hg (N := 7) ?hd (cs := #[.int .i64 0, .int .u64 0]) (t := 74) ?hr ?_; (case hd => rfl); (case hg => rfl); (case hr => first | (go_simp; done) | (go_simp; rfl)); intro gb276 hg w13 hbox hb; have n0_ := zK (blk_below (g := gb272) (o := .cells #[.int .i64 a0_0, .int .u64 a0_1, .int .u64 a0_2] 76 (0, 0)) (by (with_reducible repeat (first | refine zN ?_ _ | refine zD ?_ | refine zA ?_ _)); exact BK272.out) hb); have n1_ := zK (blk_below (g := gb273) (o := .cells #[.int .i64 0, .int .u64 0, .int .u64 0] 76 (0, 0)) (by (with_reducible repeat (first | refine zN ?_ _ | refine zD ?_ | refine zA ?_ _)); exact BK273.out) hb); have n2_ := zK (below_step (by repeat (first | (with_reducible first | exact HB.out | apply yA | apply yN | apply yD | refine yS ?_ GE272.out | refine yS ?_ GE273.out) | exact HB.out)) hb); have n3_ := zK (hbox); have n4_ := zK ((by rw [hg]; exact (below_size (by repeat (first | (with_reducible first | exact HB.out | apply yA | apply yN | apply yD | refine yS ?_ GE272.out | refine yS ?_ GE273.out) | exact HB.out))) : w.heap.size ≤ gb276)); have n5_ := zK ((by rw [hg]; exact (below_size (by repeat (first | (with_reducible first | exact HB.out | apply yA | apply yN | apply yD | refine yS ?_ GE272.out | refine yS ?_ GE273.out) | exact HB.out))) : w.heap.size ≤ gb276)); have n6_ := zK ((by rw [hg]; exact Nat.ne_of_lt (blk_lt (g := gb272) (o := .cells #[.int .i64 a0_0, .int .u64 a0_1, .int .u64 a0_2] 76 (0, 0)) (by (with_reducible repeat (first | refine zN ?_ _ | refine zD ?_ | refine zA ?_ _)); exact BK272.out)) : gb272 ≠ gb276)); have n7_ := zK ((by rw [hg]; exact Nat.ne_of_gt (blk_lt (g := gb272) (o := .cells #[.int .i64 a0_0, .int .u64 a0_1, .int .u64 a0_2] 76 (0, 0)) (by (with_reducible repeat (first | refine zN ?_ _ | refine zD ?_ | refine zA ?_ _)); exact BK272.out)) : gb276 ≠ gb272)); have n8_ := zK ((by rw [hg]; exact Nat.ne_of_lt (blk_lt (g := gb273) (o := .cells #[.int .i64 0, .int .u64 0, .int .u64 0] 76 (0, 0)) (by (with_reducible repeat (first | refine zN ?_ _ | refine zD ?_ | refine zA ?_ _)); exact BK273.out)) : gb273 ≠ gb276)); have n9_ := zK ((by rw [hg]; exact Nat.ne_of_gt (blk_lt (g := gb273) (o := .cells #[.int .i64 0, .int .u64 0, .int .u64 0] 76 (0, 0)) (by (with_reducible repeat (first | refine zN ?_ _ | refine zD ?_ | refine zA ?_ _)); exact BK273.out)) : gb276 ≠ gb273)); clear BK272; clear BK273; clear HB; have BK272 := n0_; have BK273 := n1_; have HB := n2_; have BK276 := n3_; have GW276 := n4_; have GE276 := n5_; have NB272_276 := n6_; have NB276_272 := n7_; have NB273_276 := n8_; have NB276_273 := n9_; clear n0_ n1_ n2_ n3_ n4_ n5_ n6_ n7_ n8_ n9_; clear hb hbox hg; have hnb14 := NB276_272.out; have hnc14 := NB272_276.out; have hnb15 := NB276_273.out; have hnc15 := NB273_276.out; have hcz16_0 : w13.cell? ⟨gb276, 0, none⟩ = some (.int .i64 0) := (blk_cell BK276.out 0).trans rfl; have hcz16_1 : w13.cell? ⟨gb276, 1, none⟩ = some (.int .u64 0) := (blk_cell BK276.out 1).trans rfl; have hfz16_0 := blk_frozen BK276.out 0; have hfz16_1 := blk_frozen BK276.out 1; have hnb17 := NB272_273.out; have hnc17 := NB273_272.out; have hcz18_0 : w13.cell? ⟨gb272, 0, none⟩ = some (.int .i64 a0_0) := (blk_cell BK272.out 0).trans rfl; have hcz18_1 : w13.cell? ⟨gb272, 1, none⟩ = some (.int .u64 a0_1) := (blk_cell BK272.out 1).trans rfl; have hcz18_2 : w13.cell? ⟨gb272, 2, none⟩ = some (.int .u64 a0_2) := (blk_cell BK272.out 2).trans rfl; have hfz18_0 := blk_frozen BK272.out 0; have hfz18_1 := blk_frozen BK272.out 1; have hfz18_2 := blk_frozen BK272.out 2))
  have n0_ : Aside0 (((w13.setCell ⟨gb276, 0, none⟩ (.int .i64 t274)).setCell ⟨gb276, 1, none⟩ (.int .u64 t275)).heap[gb272]? = some (.cells #[.int .i64 a0_0, .int .u64 a0_1, .int .u64 a0_2] 76 (0, 0))) := ⟨by (with_reducible repeat (first | refine zN ?_ _ | refine zD ?_ | refine zA ?_ _)); refine blk_far ?_ NB272_276.out _; (with_reducible repeat (first | refine zN ?_ _ | refine zD ?_ | refine zA ?_ _)); refine blk_far ?_ NB272_276.out _; (with_reducible repeat (first | refine zN ?_ _ | refine zD ?_ | refine zA ?_ _)); exact BK272.out⟩
  have n1_ : Aside0 (((w13.setCell ⟨gb276, 0, none⟩ (.int .i64 t274)).setCell ⟨gb276, 1, none⟩ (.int .u64 t275)).heap[gb273]? = some (.cells #[.int .i64 0, .int .u64 0, .int .u64 0] 76 (0, 0))) := ⟨by (with_reducible repeat (first | refine zN ?_ _ | refine zD ?_ | refine zA ?_ _)); refine blk_far ?_ NB273_276.out _; (with_reducible repeat (first | refine zN ?_ _ | refine zD ?_ | refine zA ?_ _)); refine blk_far ?_ NB273_276.out _; (with_reducible repeat (first | refine zN ?_ _ | refine zD ?_ | refine zA ?_ _)); exact BK273.out⟩
  have n2_ : Aside0 (((w13.setCell ⟨gb276, 0, none⟩ (.int .i64 t274)).setCell ⟨gb276, 1, none⟩ (.int .u64 t275)).heap[gb276]? = some (.cells #[.int .i64 t274, .int .u64 t275] 74 (0, 0))) := ⟨by (with_reducible repeat (first | refine zN ?_ _ | refine zD ?_ | refine zA ?_ _)); refine blk_put (cs := #[.int .i64 t274, .int .u64 0]) ?_ 1 _ rfl; (with_reducible repeat (first | refine zN ?_ _ | refine zD ?_ | refine zA ?_ _)); refine blk_put (cs := #[.int .i64 0, .int .u64 0]) ?_ 0 _ rfl; (with_reducible repeat (first | refine zN ?_ _ | refine zD ?_ | refine zA ?_ _)); exact BK276.out⟩
  have n3_ : Aside0 (Below w.heap.size w ((w13.setCell ⟨gb276, 0, none⟩ (.int .i64 t274)).setCell ⟨gb276, 1, none⟩ (.int .u64 t275))) := ⟨by repeat (first | (with_reducible first | exact HB.out | apply yA | apply yN | apply yD | refine yS ?_ GE272.out | refine yS ?_ GE273.out | refine yS ?_ GE276.out) | exact HB.out)⟩
  (try clear BK272)
  (try clear BK273)
  (try clear BK276)
  (try clear HB)
  generalize ((w13.setCell ⟨gb276, 0, none⟩ (.int .i64 t274)).setCell ⟨gb276, 1, none⟩ (.int .u64 t275)) = w19 at n0_ n1_ n2_ n3_ ⊢
  have BK272 := n0_
  have BK273 := n1_
  have BK276 := n2_
  have HB := n3_
  clear n0_ n1_ n2_ n3_
  have n0_ := zK (zD BK272.out)
  have n1_ := zK (zD BK273.out)
  have n2_ := zK (zD BK276.out)
  have n3_ := zK (yD HB.out)
  clear BK272
  clear BK273
  clear BK276
  clear HB
  have BK272 := n0_
  have BK273 := n1_
  have BK276 := n2_
  have HB := n3_
  clear n0_ n1_ n2_ n3_
  refine start_ (n := 8) (S := fun w' => w'.cell? ⟨gb272, 0, none⟩ = some (.int .i64 a0_0) ∧ w'.cell? ⟨gb272, 1, none⟩ = some (.int .u64 a0_1) ∧ w'.cell? ⟨gb272, 2, none⟩ = some (.int .u64 a0_2) ∧ w'.cell? ⟨gb276, 0, none⟩ = some (.int .i64 t274) ∧ w'.cell? ⟨gb276, 1, none⟩ = some (.int .u64 t275)) (ds := []) #[false, false, false, false, false, false, false, false] (by kernel_rfl) rfl rfl ⟨(blk_cell BK272.out 0).trans rfl, (blk_cell BK272.out 1).trans rfl, (blk_cell BK272.out 2).trans rfl, (blk_cell BK276.out 0).trans rfl, (blk_cell BK276.out 1).trans rfl⟩ (fun hHeld => ?_); refine with_tabW sequiturref28_More.tab3 sequiturref28_More.bits3 (fun HT_ HW_ => ?_)
  generalize w19.drew = w20 at BK272 BK273 BK276 HB hHeld ⊢
  refine pure_ (i := 0) (N := some 18) (v := ?_) (a' := ?_) #[true, false, false, false, false, false, false, false] rfl rfl (any_of HT_.out (by kernel_rfl)) (fun _ _ _ h => h) (Or.inl ⟨by rfl, ?_⟩) ?_ ?_
  rotate_left
  ·intro w'
   go_simp
   with_reducible rfl
  rotate_left
  ·simp only [Act.put, List.setIfInBounds_toArray, List.set_cons_zero, List.set_cons_succ, i64_w, i32_w]
   rfl
  refine pure_ (i := 2) (N := some 20) (v := ?_) (a' := ?_) #[true, false, true, false, false, false, false, false] rfl rfl (any_of HT_.out (by kernel_rfl)) (fun _ _ _ h => h) (Or.inl ⟨by rfl, ?_⟩) ?_ ?_
  rotate_left
  ·intro w'
   go_simp
   with_reducible rfl
  rotate_left
  ·simp only [Act.put, List.setIfInBounds_toArray, List.set_cons_zero, List.set_cons_succ, i64_w, i32_w]
   rfl
  refine take_ (i := 1) (N := some 19) (v := ?_) (a' := ?_) #[true, true, true, false, false, false, false, false] rfl rfl (take_ofW HT_.out HW_.out (by kernel_rfl)) (fun _ _ _ h => h) (Or.inl ⟨by rfl, ?_⟩) hHeld ?_ ?_
  rotate_left
  ·rintro w' ⟨s0, s1, s2, s3, s4⟩
   go_simp
   with_reducible rfl
  rotate_left
  ·simp only [Act.put, List.setIfInBounds_toArray, List.set_cons_zero, List.set_cons_succ, i64_w, i32_w]
   rfl
  refine take_ (i := 3) (N := some 21) (v := ?_) (a' := ?_) #[true, true, true, true, false, false, false, false] rfl rfl (take_ofW HT_.out HW_.out (by kernel_rfl)) (fun _ _ _ h => h) (Or.inl ⟨by rfl, ?_⟩) hHeld ?_ ?_
  rotate_left
  ·rintro w' ⟨s0, s1, s2, s3, s4⟩
   go_simp
   with_reducible rfl
  rotate_left
  ·simp only [Act.put, List.setIfInBounds_toArray, List.set_cons_zero, List.set_cons_succ, i64_w, i32_w]
   rfl
  refine join_ (σ := Nat) 1 #[true, true, true, true, true, true, true, false] (fun s_ => [(22, .agg #[.int .i64 t277, .int .u64 t278]), (23, .agg #[.int .i64 t279, .int .u64 t280]), (9, .pointer (some ⟨s_, 0, none⟩))]) (fun s_ w' => (w'.cell? ⟨gb272, 0, none⟩ = some (.int .i64 a0_0) ∧ w'.cell? ⟨gb272, 1, none⟩ = some (.int .u64 a0_1) ∧ w'.cell? ⟨gb272, 2, none⟩ = some (.int .u64 a0_2) ∧ w'.cell? ⟨gb276, 0, none⟩ = some (.int .i64 t274) ∧ w'.cell? ⟨gb276, 1, none⟩ = some (.int .u64 t275)) ∧ (w'.heap[gb272]? = some (.cells #[.int .i64 a0_0, .int .u64 a0_1, .int .u64 a0_2] 76 (0, 0))) ∧ (w'.heap[gb273]? = some (.cells #[.int .i64 0, .int .u64 0, .int .u64 0] 76 (0, 0))) ∧ (w'.heap[gb276]? = some (.cells #[.int .i64 t274, .int .u64 t275] 74 (0, 0))) ∧ (w'.heap[s_]? = some (.cells #[.int .i64 0, .int .u64 0] 74 (0, 0))) ∧ (w.heap.size ≤ s_) ∧ (w.heap.size ≤ s_) ∧ (gb272 ≠ s_) ∧ (s_ ≠ gb272) ∧ (gb273 ≠ s_) ∧ (s_ ≠ gb273) ∧ (gb276 ≠ s_) ∧ (s_ ≠ gb276) ∧ (Below w.heap.size w w')) ?_ ?_
  rotate_left
  ·intro hCont
   refine two_ (i := 4) (j := 6) (Ni := some 22) (Nj := some 9) #[true, true, true, true, true, false, false, false] #[true, true, true, true, false, false, true, false] rfl rfl rfl rfl (two_of HT_.out (by kernel_rfl)) (by decide) (by decide) (fun K hK => ?_) (fun K hK => ?_)
   ·skip
    refine goes_ Try.func66 (by kernel_rfl) rfl #[.int .i64 t274] (by rfl) rfl rfl (by (try simp only [List.map_toArray, List.map_cons, List.map_nil]); first | done | rfl | (simp only [List.length_drop, List.length_take]; rfl)) ?_
    with_reducible refine (sequiturref01_Of.calls t274 t277 t278 _ A5.out).mono ?_
    rintro e w21 ⟨rfl, hb⟩
    refine ⟨_, rfl, ?_⟩
    have n0_ := zK (blk_below (g := gb272) (o := .cells #[.int .i64 a0_0, .int .u64 a0_1, .int .u64 a0_2] 76 (0, 0)) (by (with_reducible repeat (first | refine zN ?_ _ | refine zD ?_ | refine zA ?_ _)); exact BK272.out) hb)
    have n1_ := zK (blk_below (g := gb273) (o := .cells #[.int .i64 0, .int .u64 0, .int .u64 0] 76 (0, 0)) (by (with_reducible repeat (first | refine zN ?_ _ | refine zD ?_ | refine zA ?_ _)); exact BK273.out) hb)
    have n2_ := zK (blk_below (g := gb276) (o := .cells #[.int .i64 t274, .int .u64 t275] 74 (0, 0)) (by (with_reducible repeat (first | refine zN ?_ _ | refine zD ?_ | refine zA ?_ _)); exact BK276.out) hb)
    have n3_ := zK (below_step (by repeat (first | (with_reducible first | exact HB.out | apply yA | apply yN | apply yD | refine yS ?_ GE272.out | refine yS ?_ GE273.out | refine yS ?_ GE276.out) | exact HB.out)) hb)
    clear BK272
    clear BK273
    clear BK276
    clear HB
    have BK272 := n0_
    have BK273 := n1_
    have BK276 := n2_
    have HB := n3_
    clear n0_ n1_ n2_ n3_
    (try clear hb)
    (try clear hb2)
    (try clear hk)
    (try clear hi)
    refine hK.out _ _ ⟨(blk_cell BK272.out 0).trans rfl, (blk_cell BK272.out 1).trans rfl, (blk_cell BK272.out 2).trans rfl, (blk_cell BK276.out 0).trans rfl, (blk_cell BK276.out 1).trans rfl⟩ (fun hHeld => ?_)
    clear hK K
    refine norm_ (a' := ?_) ?_ ?_
    rotate_left
    ·show Act.put _ (some 22) _ = _
     simp only [Act.put, List.setIfInBounds_toArray, List.set_cons_zero, List.set_cons_succ, i64_w, i32_w]
     rfl
    refine two_ (i := 5) (j := 6) (Ni := some 23) (Nj := some 9) #[true, true, true, true, true, true, false, false] #[true, true, true, true, true, false, true, false] rfl rfl rfl rfl (two_of HT_.out (by kernel_rfl)) (by decide) (by decide) (fun K hK => ?_) (fun K hK => ?_)
    ·skip
     refine goes_ Try.func65 (by kernel_rfl) rfl #[.agg #[.int .i64 a0_0, .int .u64 a0_1], .agg #[.int .i64 t277, .int .u64 t278]] (by rfl) rfl rfl (by (try simp only [List.map_toArray, List.map_cons, List.map_nil]); first | done | rfl | (simp only [List.length_drop, List.length_take]; rfl)) ?_
     with_reducible refine (sequiturref01_Plus.calls a0_0 a0_1 t277 t278 t279 t280 _ A6.out).mono ?_
     rintro e w22 ⟨rfl, hb⟩
     refine ⟨_, rfl, ?_⟩
     have n0_ := zK (blk_below (g := gb272) (o := .cells #[.int .i64 a0_0, .int .u64 a0_1, .int .u64 a0_2] 76 (0, 0)) (by (with_reducible repeat (first | refine zN ?_ _ | refine zD ?_ | refine zA ?_ _)); exact BK272.out) hb)
     have n1_ := zK (blk_below (g := gb273) (o := .cells #[.int .i64 0, .int .u64 0, .int .u64 0] 76 (0, 0)) (by (with_reducible repeat (first | refine zN ?_ _ | refine zD ?_ | refine zA ?_ _)); exact BK273.out) hb)
     have n2_ := zK (blk_below (g := gb276) (o := .cells #[.int .i64 t274, .int .u64 t275] 74 (0, 0)) (by (with_reducible repeat (first | refine zN ?_ _ | refine zD ?_ | refine zA ?_ _)); exact BK276.out) hb)
     have n3_ := zK (below_step (by repeat (first | (with_reducible first | exact HB.out | apply yA | apply yN | apply yD | refine yS ?_ GE272.out | refine yS ?_ GE273.out | refine yS ?_ GE276.out) | exact HB.out)) hb)
     clear BK272
     clear BK273
     clear BK276
     clear HB
     have BK272 := n0_
     have BK273 := n1_
     have BK276 := n2_
     have HB := n3_
     clear n0_ n1_ n2_ n3_
     (try clear hb)
     (try clear hb2)
     (try clear hk)
     (try clear hi)
     refine hK.out _ _ ⟨(blk_cell BK272.out 0).trans rfl, (blk_cell BK272.out 1).trans rfl, (blk_cell BK272.out 2).trans rfl, (blk_cell BK276.out 0).trans rfl, (blk_cell BK276.out 1).trans rfl⟩ (fun hHeld => ?_)
     clear hK K
     refine norm_ (a' := ?_) ?_ ?_
     rotate_left
     ·show Act.put _ (some 23) _ = _
      simp only [Act.put, List.setIfInBounds_toArray, List.set_cons_zero, List.set_cons_succ, i64_w, i32_w]
      rfl
     refine one_ (i := 6) (N := some 9) #[true, true, true, true, true, true, true, false] rfl rfl (one_of HT_.out (by kernel_rfl)) (by decide) (fun K hK => ?_)
     refine box_step ?hg (N := 9) ?hd (cs := #[.int .i64 0, .int .u64 0]) (t := 74) ?hr ?_; (case hd => rfl); (case hg => rfl); (case hr => first | (go_simp; done) | (go_simp; rfl))
     intro gb281 hg w23 hbox hb
     have n0_ := zK (blk_below (g := gb272) (o := .cells #[.int .i64 a0_0, .int .u64 a0_1, .int .u64 a0_2] 76 (0, 0)) (by (with_reducible repeat (first | refine zN ?_ _ | refine zD ?_ | refine zA ?_ _)); exact BK272.out) hb)
     have n1_ := zK (blk_below (g := gb273) (o := .cells #[.int .i64 0, .int .u64 0, .int .u64 0] 76 (0, 0)) (by (with_reducible repeat (first | refine zN ?_ _ | refine zD ?_ | refine zA ?_ _)); exact BK273.out) hb)
     have n2_ := zK (blk_below (g := gb276) (o := .cells #[.int .i64 t274, .int .u64 t275] 74 (0, 0)) (by (with_reducible repeat (first | refine zN ?_ _ | refine zD ?_ | refine zA ?_ _)); exact BK276.out) hb)
     have n3_ := zK (below_step (by repeat (first | (with_reducible first | exact HB.out | apply yA | apply yN | apply yD | refine yS ?_ GE272.out | refine yS ?_ GE273.out | refine yS ?_ GE276.out) | exact HB.out)) hb)
     have n4_ := zK (hbox)
     have n5_ := zK ((by rw [hg]; exact (below_size (by repeat (first | (with_reducible first | exact HB.out | apply yA | apply yN | apply yD | refine yS ?_ GE272.out | refine yS ?_ GE273.out | refine yS ?_ GE276.out) | exact HB.out))) : w.heap.size ≤ gb281))
     have n6_ := zK ((by rw [hg]; exact (below_size (by repeat (first | (with_reducible first | exact HB.out | apply yA | apply yN | apply yD | refine yS ?_ GE272.out | refine yS ?_ GE273.out | refine yS ?_ GE276.out) | exact HB.out))) : w.heap.size ≤ gb281))
     have n7_ := zK ((by rw [hg]; exact Nat.ne_of_lt (blk_lt (g := gb272) (o := .cells #[.int .i64 a0_0, .int .u64 a0_1, .int .u64 a0_2] 76 (0, 0)) (by (with_reducible repeat (first | refine zN ?_ _ | refine zD ?_ | refine zA ?_ _)); exact BK272.out)) : gb272 ≠ gb281))
     have n8_ := zK ((by rw [hg]; exact Nat.ne_of_gt (blk_lt (g := gb272) (o := .cells #[.int .i64 a0_0, .int .u64 a0_1, .int .u64 a0_2] 76 (0, 0)) (by (with_reducible repeat (first | refine zN ?_ _ | refine zD ?_ | refine zA ?_ _)); exact BK272.out)) : gb281 ≠ gb272))
     have n9_ := zK ((by rw [hg]; exact Nat.ne_of_lt (blk_lt (g := gb273) (o := .cells #[.int .i64 0, .int .u64 0, .int .u64 0] 76 (0, 0)) (by (with_reducible repeat (first | refine zN ?_ _ | refine zD ?_ | refine zA ?_ _)); exact BK273.out)) : gb273 ≠ gb281))
     have n10_ := zK ((by rw [hg]; exact Nat.ne_of_gt (blk_lt (g := gb273) (o := .cells #[.int .i64 0, .int .u64 0, .int .u64 0] 76 (0, 0)) (by (with_reducible repeat (first | refine zN ?_ _ | refine zD ?_ | refine zA ?_ _)); exact BK273.out)) : gb281 ≠ gb273))
     have n11_ := zK ((by rw [hg]; exact Nat.ne_of_lt (blk_lt (g := gb276) (o := .cells #[.int .i64 t274, .int .u64 t275] 74 (0, 0)) (by (with_reducible repeat (first | refine zN ?_ _ | refine zD ?_ | refine zA ?_ _)); exact BK276.out)) : gb276 ≠ gb281))
     have n12_ := zK ((by rw [hg]; exact Nat.ne_of_gt (blk_lt (g := gb276) (o := .cells #[.int .i64 t274, .int .u64 t275] 74 (0, 0)) (by (with_reducible repeat (first | refine zN ?_ _ | refine zD ?_ | refine zA ?_ _)); exact BK276.out)) : gb281 ≠ gb276))
     clear BK272
     clear BK273
     clear BK276
     clear HB
     have BK272 := n0_
     have BK273 := n1_
     have BK276 := n2_
     have HB := n3_
     have BK281 := n4_
     have GW281 := n5_
     have GE281 := n6_
     have NB272_281 := n7_
     have NB281_272 := n8_
     have NB273_281 := n9_
     have NB281_273 := n10_
     have NB276_281 := n11_
     have NB281_276 := n12_
     clear n0_ n1_ n2_ n3_ n4_ n5_ n6_ n7_ n8_ n9_ n10_ n11_ n12_
     clear hb hbox hg
     refine hK.out _ _ ⟨(blk_cell BK272.out 0).trans rfl, (blk_cell BK272.out 1).trans rfl, (blk_cell BK272.out 2).trans rfl, (blk_cell BK276.out 0).trans rfl, (blk_cell BK276.out 1).trans rfl⟩ (fun hHeld => ?_)
     clear hK K
     refine norm_ (a' := ?_) ?_ ?_
     rotate_left
     ·show Act.put _ (some 9) _ = _
      simp only [Act.put, List.setIfInBounds_toArray, List.set_cons_zero, List.set_cons_succ, i64_w, i32_w]
      rfl
     exact norm_ (by simp only [putAll, Act.put, List.setIfInBounds_toArray, List.set_cons_zero, List.set_cons_succ]) (hCont (gb281) _ ⟨hHeld, (by (with_reducible repeat (first | refine zN ?_ _ | refine zD ?_ | refine zA ?_ _)); exact BK272.out), (by (with_reducible repeat (first | refine zN ?_ _ | refine zD ?_ | refine zA ?_ _)); exact BK273.out), (by (with_reducible repeat (first | refine zN ?_ _ | refine zD ?_ | refine zA ?_ _)); exact BK276.out), (by (with_reducible repeat (first | refine zN ?_ _ | refine zD ?_ | refine zA ?_ _)); exact BK281.out), GW281.out, GE281.out, NB272_281.out, NB281_272.out, NB273_281.out, NB281_273.out, NB276_281.out, NB281_276.out, (by repeat (first | (with_reducible first | exact HB.out | apply yA | apply yN | apply yD | refine yS ?_ GE272.out | refine yS ?_ GE273.out | refine yS ?_ GE276.out | refine yS ?_ GE281.out) | exact HB.out))⟩)
    ·skip
     refine box_step ?hg (N := 9) ?hd (cs := #[.int .i64 0, .int .u64 0]) (t := 74) ?hr ?_; (case hd => rfl); (case hg => rfl); (case hr => first | (go_simp; done) | (go_simp; rfl))
     intro gb281 hg w22 hbox hb
     have n0_ := zK (blk_below (g := gb272) (o := .cells #[.int .i64 a0_0, .int .u64 a0_1, .int .u64 a0_2] 76 (0, 0)) (by (with_reducible repeat (first | refine zN ?_ _ | refine zD ?_ | refine zA ?_ _)); exact BK272.out) hb)
     have n1_ := zK (blk_below (g := gb273) (o := .cells #[.int .i64 0, .int .u64 0, .int .u64 0] 76 (0, 0)) (by (with_reducible repeat (first | refine zN ?_ _ | refine zD ?_ | refine zA ?_ _)); exact BK273.out) hb)
     have n2_ := zK (blk_below (g := gb276) (o := .cells #[.int .i64 t274, .int .u64 t275] 74 (0, 0)) (by (with_reducible repeat (first | refine zN ?_ _ | refine zD ?_ | refine zA ?_ _)); exact BK276.out) hb)
     have n3_ := zK (below_step (by repeat (first | (with_reducible first | exact HB.out | apply yA | apply yN | apply yD | refine yS ?_ GE272.out | refine yS ?_ GE273.out | refine yS ?_ GE276.out) | exact HB.out)) hb)
     have n4_ := zK (hbox)
     have n5_ := zK ((by rw [hg]; exact (below_size (by repeat (first | (with_reducible first | exact HB.out | apply yA | apply yN | apply yD | refine yS ?_ GE272.out | refine yS ?_ GE273.out | refine yS ?_ GE276.out) | exact HB.out))) : w.heap.size ≤ gb281))
     have n6_ := zK ((by rw [hg]; exact (below_size (by repeat (first | (with_reducible first | exact HB.out | apply yA | apply yN | apply yD | refine yS ?_ GE272.out | refine yS ?_ GE273.out | refine yS ?_ GE276.out) | exact HB.out))) : w.heap.size ≤ gb281))
     have n7_ := zK ((by rw [hg]; exact Nat.ne_of_lt (blk_lt (g := gb272) (o := .cells #[.int .i64 a0_0, .int .u64 a0_1, .int .u64 a0_2] 76 (0, 0)) (by (with_reducible repeat (first | refine zN ?_ _ | refine zD ?_ | refine zA ?_ _)); exact BK272.out)) : gb272 ≠ gb281))
     have n8_ := zK ((by rw [hg]; exact Nat.ne_of_gt (blk_lt (g := gb272) (o := .cells #[.int .i64 a0_0, .int .u64 a0_1, .int .u64 a0_2] 76 (0, 0)) (by (with_reducible repeat (first | refine zN ?_ _ | refine zD ?_ | refine zA ?_ _)); exact BK272.out)) : gb281 ≠ gb272))
     have n9_ := zK ((by rw [hg]; exact Nat.ne_of_lt (blk_lt (g := gb273) (o := .cells #[.int .i64 0, .int .u64 0, .int .u64 0] 76 (0, 0)) (by (with_reducible repeat (first | refine zN ?_ _ | refine zD ?_ | refine zA ?_ _)); exact BK273.out)) : gb273 ≠ gb281))
     have n10_ := zK ((by rw [hg]; exact Nat.ne_of_gt (blk_lt (g := gb273) (o := .cells #[.int .i64 0, .int .u64 0, .int .u64 0] 76 (0, 0)) (by (with_reducible repeat (first | refine zN ?_ _ | refine zD ?_ | refine zA ?_ _)); exact BK273.out)) : gb281 ≠ gb273))
     have n11_ := zK ((by rw [hg]; exact Nat.ne_of_lt (blk_lt (g := gb276) (o := .cells #[.int .i64 t274, .int .u64 t275] 74 (0, 0)) (by (with_reducible repeat (first | refine zN ?_ _ | refine zD ?_ | refine zA ?_ _)); exact BK276.out)) : gb276 ≠ gb281))
     have n12_ := zK ((by rw [hg]; exact Nat.ne_of_gt (blk_lt (g := gb276) (o := .cells #[.int .i64 t274, .int .u64 t275] 74 (0, 0)) (by (with_reducible repeat (first | refine zN ?_ _ | refine zD ?_ | refine zA ?_ _)); exact BK276.out)) : gb281 ≠ gb276))
     clear BK272
     clear BK273
     clear BK276
     clear HB
     have BK272 := n0_
     have BK273 := n1_
     have BK276 := n2_
     have HB := n3_
     have BK281 := n4_
     have GW281 := n5_
     have GE281 := n6_
     have NB272_281 := n7_
     have NB281_272 := n8_
     have NB273_281 := n9_
     have NB281_273 := n10_
     have NB276_281 := n11_
     have NB281_276 := n12_
     clear n0_ n1_ n2_ n3_ n4_ n5_ n6_ n7_ n8_ n9_ n10_ n11_ n12_
     clear hb hbox hg
     refine hK.out _ _ ⟨(blk_cell BK272.out 0).trans rfl, (blk_cell BK272.out 1).trans rfl, (blk_cell BK272.out 2).trans rfl, (blk_cell BK276.out 0).trans rfl, (blk_cell BK276.out 1).trans rfl⟩ (fun hHeld => ?_)
     clear hK K
     refine norm_ (a' := ?_) ?_ ?_
     rotate_left
     ·show Act.put _ (some 9) _ = _
      simp only [Act.put, List.setIfInBounds_toArray, List.set_cons_zero, List.set_cons_succ, i64_w, i32_w]
      rfl
     refine one_ (i := 5) (N := some 23) #[true, true, true, true, true, true, true, false] rfl rfl (one_of HT_.out (by kernel_rfl)) (by decide) (fun K hK => ?_)
     refine goes_ Try.func65 (by kernel_rfl) rfl #[.agg #[.int .i64 a0_0, .int .u64 a0_1], .agg #[.int .i64 t277, .int .u64 t278]] (by rfl) rfl rfl (by (try simp only [List.map_toArray, List.map_cons, List.map_nil]); first | done | rfl | (simp only [List.length_drop, List.length_take]; rfl)) ?_
     with_reducible refine (sequiturref01_Plus.calls a0_0 a0_1 t277 t278 t279 t280 _ A6.out).mono ?_
     rintro e w23 ⟨rfl, hb⟩
     refine ⟨_, rfl, ?_⟩
     have n0_ := zK (blk_below (g := gb272) (o := .cells #[.int .i64 a0_0, .int .u64 a0_1, .int .u64 a0_2] 76 (0, 0)) (by (with_reducible repeat (first | refine zN ?_ _ | refine zD ?_ | refine zA ?_ _)); exact BK272.out) hb)
     have n1_ := zK (blk_below (g := gb273) (o := .cells #[.int .i64 0, .int .u64 0, .int .u64 0] 76 (0, 0)) (by (with_reducible repeat (first | refine zN ?_ _ | refine zD ?_ | refine zA ?_ _)); exact BK273.out) hb)
     have n2_ := zK (blk_below (g := gb276) (o := .cells #[.int .i64 t274, .int .u64 t275] 74 (0, 0)) (by (with_reducible repeat (first | refine zN ?_ _ | refine zD ?_ | refine zA ?_ _)); exact BK276.out) hb)
     have n3_ := zK (blk_below (g := gb281) (o := .cells #[.int .i64 0, .int .u64 0] 74 (0, 0)) (by (with_reducible repeat (first | refine zN ?_ _ | refine zD ?_ | refine zA ?_ _)); exact BK281.out) hb)
     have n4_ := zK (below_step (by repeat (first | (with_reducible first | exact HB.out | apply yA | apply yN | apply yD | refine yS ?_ GE272.out | refine yS ?_ GE273.out | refine yS ?_ GE276.out | refine yS ?_ GE281.out) | exact HB.out)) hb)
     clear BK272
     clear BK273
     clear BK276
     clear BK281
     clear HB
     have BK272 := n0_
     have BK273 := n1_
     have BK276 := n2_
     have BK281 := n3_
     have HB := n4_
     clear n0_ n1_ n2_ n3_ n4_
     (try clear hb)
     (try clear hb2)
     (try clear hk)
     (try clear hi)
     refine hK.out _ _ ⟨(blk_cell BK272.out 0).trans rfl, (blk_cell BK272.out 1).trans rfl, (blk_cell BK272.out 2).trans rfl, (blk_cell BK276.out 0).trans rfl, (blk_cell BK276.out 1).trans rfl⟩ (fun hHeld => ?_)
     clear hK K
     refine norm_ (a' := ?_) ?_ ?_
     rotate_left
     ·show Act.put _ (some 23) _ = _
      simp only [Act.put, List.setIfInBounds_toArray, List.set_cons_zero, List.set_cons_succ, i64_w, i32_w]
      rfl
     exact norm_ (by simp only [putAll, Act.put, List.setIfInBounds_toArray, List.set_cons_zero, List.set_cons_succ]) (hCont (gb281) _ ⟨hHeld, (by (with_reducible repeat (first | refine zN ?_ _ | refine zD ?_ | refine zA ?_ _)); exact BK272.out), (by (with_reducible repeat (first | refine zN ?_ _ | refine zD ?_ | refine zA ?_ _)); exact BK273.out), (by (with_reducible repeat (first | refine zN ?_ _ | refine zD ?_ | refine zA ?_ _)); exact BK276.out), (by (with_reducible repeat (first | refine zN ?_ _ | refine zD ?_ | refine zA ?_ _)); exact BK281.out), GW281.out, GE281.out, NB272_281.out, NB281_272.out, NB273_281.out, NB281_273.out, NB276_281.out, NB281_276.out, (by repeat (first | (with_reducible first | exact HB.out | apply yA | apply yN | apply yD | refine yS ?_ GE272.out | refine yS ?_ GE273.out | refine yS ?_ GE276.out | refine yS ?_ GE281.out) | exact HB.out))⟩)
   ·skip
    refine box_step ?hg (N := 9) ?hd (cs := #[.int .i64 0, .int .u64 0]) (t := 74) ?hr ?_; (case hd => rfl); (case hg => rfl); (case hr => first | (go_simp; done) | (go_simp; rfl))
    intro gb281 hg w21 hbox hb
    have n0_ := zK (blk_below (g := gb272) (o := .cells #[.int .i64 a0_0, .int .u64 a0_1, .int .u64 a0_2] 76 (0, 0)) (by (with_reducible repeat (first | refine zN ?_ _ | refine zD ?_ | refine zA ?_ _)); exact BK272.out) hb)
    have n1_ := zK (blk_below (g := gb273) (o := .cells #[.int .i64 0, .int .u64 0, .int .u64 0] 76 (0, 0)) (by (with_reducible repeat (first | refine zN ?_ _ | refine zD ?_ | refine zA ?_ _)); exact BK273.out) hb)
    have n2_ := zK (blk_below (g := gb276) (o := .cells #[.int .i64 t274, .int .u64 t275] 74 (0, 0)) (by (with_reducible repeat (first | refine zN ?_ _ | refine zD ?_ | refine zA ?_ _)); exact BK276.out) hb)
    have n3_ := zK (below_step (by repeat (first | (with_reducible first | exact HB.out | apply yA | apply yN | apply yD | refine yS ?_ GE272.out | refine yS ?_ GE273.out | refine yS ?_ GE276.out) | exact HB.out)) hb)
    have n4_ := zK (hbox)
    have n5_ := zK ((by rw [hg]; exact (below_size (by repeat (first | (with_reducible first | exact HB.out | apply yA | apply yN | apply yD | refine yS ?_ GE272.out | refine yS ?_ GE273.out | refine yS ?_ GE276.out) | exact HB.out))) : w.heap.size ≤ gb281))
    have n6_ := zK ((by rw [hg]; exact (below_size (by repeat (first | (with_reducible first | exact HB.out | apply yA | apply yN | apply yD | refine yS ?_ GE272.out | refine yS ?_ GE273.out | refine yS ?_ GE276.out) | exact HB.out))) : w.heap.size ≤ gb281))
    have n7_ := zK ((by rw [hg]; exact Nat.ne_of_lt (blk_lt (g := gb272) (o := .cells #[.int .i64 a0_0, .int .u64 a0_1, .int .u64 a0_2] 76 (0, 0)) (by (with_reducible repeat (first | refine zN ?_ _ | refine zD ?_ | refine zA ?_ _)); exact BK272.out)) : gb272 ≠ gb281))
    have n8_ := zK ((by rw [hg]; exact Nat.ne_of_gt (blk_lt (g := gb272) (o := .cells #[.int .i64 a0_0, .int .u64 a0_1, .int .u64 a0_2] 76 (0, 0)) (by (with_reducible repeat (first | refine zN ?_ _ | refine zD ?_ | refine zA ?_ _)); exact BK272.out)) : gb281 ≠ gb272))
    have n9_ := zK ((by rw [hg]; exact Nat.ne_of_lt (blk_lt (g := gb273) (o := .cells #[.int .i64 0, .int .u64 0, .int .u64 0] 76 (0, 0)) (by (with_reducible repeat (first | refine zN ?_ _ | refine zD ?_ | refine zA ?_ _)); exact BK273.out)) : gb273 ≠ gb281))
    have n10_ := zK ((by rw [hg]; exact Nat.ne_of_gt (blk_lt (g := gb273) (o := .cells #[.int .i64 0, .int .u64 0, .int .u64 0] 76 (0, 0)) (by (with_reducible repeat (first | refine zN ?_ _ | refine zD ?_ | refine zA ?_ _)); exact BK273.out)) : gb281 ≠ gb273))
    have n11_ := zK ((by rw [hg]; exact Nat.ne_of_lt (blk_lt (g := gb276) (o := .cells #[.int .i64 t274, .int .u64 t275] 74 (0, 0)) (by (with_reducible repeat (first | refine zN ?_ _ | refine zD ?_ | refine zA ?_ _)); exact BK276.out)) : gb276 ≠ gb281))
    have n12_ := zK ((by rw [hg]; exact Nat.ne_of_gt (blk_lt (g := gb276) (o := .cells #[.int .i64 t274, .int .u64 t275] 74 (0, 0)) (by (with_reducible repeat (first | refine zN ?_ _ | refine zD ?_ | refine zA ?_ _)); exact BK276.out)) : gb281 ≠ gb276))
    clear BK272
    clear BK273
    clear BK276
    clear HB
    have BK272 := n0_
    have BK273 := n1_
    have BK276 := n2_
    have HB := n3_
    have BK281 := n4_
    have GW281 := n5_
    have GE281 := n6_
    have NB272_281 := n7_
    have NB281_272 := n8_
    have NB273_281 := n9_
    have NB281_273 := n10_
    have NB276_281 := n11_
    have NB281_276 := n12_
    clear n0_ n1_ n2_ n3_ n4_ n5_ n6_ n7_ n8_ n9_ n10_ n11_ n12_
    clear hb hbox hg
    refine hK.out _ _ ⟨(blk_cell BK272.out 0).trans rfl, (blk_cell BK272.out 1).trans rfl, (blk_cell BK272.out 2).trans rfl, (blk_cell BK276.out 0).trans rfl, (blk_cell BK276.out 1).trans rfl⟩ (fun hHeld => ?_)
    clear hK K
    refine norm_ (a' := ?_) ?_ ?_
    rotate_left
    ·show Act.put _ (some 9) _ = _
     simp only [Act.put, List.setIfInBounds_toArray, List.set_cons_zero, List.set_cons_succ, i64_w, i32_w]
     rfl
    refine one_ (i := 4) (N := some 22) #[true, true, true, true, true, false, true, false] rfl rfl (one_of HT_.out (by kernel_rfl)) (by decide) (fun K hK => ?_)
    refine goes_ Try.func66 (by kernel_rfl) rfl #[.int .i64 t274] (by rfl) rfl rfl (by (try simp only [List.map_toArray, List.map_cons, List.map_nil]); first | done | rfl | (simp only [List.length_drop, List.length_take]; rfl)) ?_
    with_reducible refine (sequiturref01_Of.calls t274 t277 t278 _ A5.out).mono ?_
    rintro e w22 ⟨rfl, hb⟩
    refine ⟨_, rfl, ?_⟩
    have n0_ := zK (blk_below (g := gb272) (o := .cells #[.int .i64 a0_0, .int .u64 a0_1, .int .u64 a0_2] 76 (0, 0)) (by (with_reducible repeat (first | refine zN ?_ _ | refine zD ?_ | refine zA ?_ _)); exact BK272.out) hb)
    have n1_ := zK (blk_below (g := gb273) (o := .cells #[.int .i64 0, .int .u64 0, .int .u64 0] 76 (0, 0)) (by (with_reducible repeat (first | refine zN ?_ _ | refine zD ?_ | refine zA ?_ _)); exact BK273.out) hb)
    have n2_ := zK (blk_below (g := gb276) (o := .cells #[.int .i64 t274, .int .u64 t275] 74 (0, 0)) (by (with_reducible repeat (first | refine zN ?_ _ | refine zD ?_ | refine zA ?_ _)); exact BK276.out) hb)
    have n3_ := zK (blk_below (g := gb281) (o := .cells #[.int .i64 0, .int .u64 0] 74 (0, 0)) (by (with_reducible repeat (first | refine zN ?_ _ | refine zD ?_ | refine zA ?_ _)); exact BK281.out) hb)
    have n4_ := zK (below_step (by repeat (first | (with_reducible first | exact HB.out | apply yA | apply yN | apply yD | refine yS ?_ GE272.out | refine yS ?_ GE273.out | refine yS ?_ GE276.out | refine yS ?_ GE281.out) | exact HB.out)) hb)
    clear BK272
    clear BK273
    clear BK276
    clear BK281
    clear HB
    have BK272 := n0_
    have BK273 := n1_
    have BK276 := n2_
    have BK281 := n3_
    have HB := n4_
    clear n0_ n1_ n2_ n3_ n4_
    (try clear hb)
    (try clear hb2)
    (try clear hk)
    (try clear hi)
    refine hK.out _ _ ⟨(blk_cell BK272.out 0).trans rfl, (blk_cell BK272.out 1).trans rfl, (blk_cell BK272.out 2).trans rfl, (blk_cell BK276.out 0).trans rfl, (blk_cell BK276.out 1).trans rfl⟩ (fun hHeld => ?_)
    clear hK K
    refine norm_ (a' := ?_) ?_ ?_
    rotate_left
    ·show Act.put _ (some 22) _ = _
     simp only [Act.put, List.setIfInBounds_toArray, List.set_cons_zero, List.set_cons_succ, i64_w, i32_w]
     rfl
    refine one_ (i := 5) (N := some 23) #[true, true, true, true, true, true, true, false] rfl rfl (one_of HT_.out (by kernel_rfl)) (by decide) (fun K hK => ?_)
    refine goes_ Try.func65 (by kernel_rfl) rfl #[.agg #[.int .i64 a0_0, .int .u64 a0_1], .agg #[.int .i64 t277, .int .u64 t278]] (by rfl) rfl rfl (by (try simp only [List.map_toArray, List.map_cons, List.map_nil]); first | done | rfl | (simp only [List.length_drop, List.length_take]; rfl)) ?_
    with_reducible refine (sequiturref01_Plus.calls a0_0 a0_1 t277 t278 t279 t280 _ A6.out).mono ?_
    rintro e w23 ⟨rfl, hb⟩
    refine ⟨_, rfl, ?_⟩
    have n0_ := zK (blk_below (g := gb272) (o := .cells #[.int .i64 a0_0, .int .u64 a0_1, .int .u64 a0_2] 76 (0, 0)) (by (with_reducible repeat (first | refine zN ?_ _ | refine zD ?_ | refine zA ?_ _)); exact BK272.out) hb)
    have n1_ := zK (blk_below (g := gb273) (o := .cells #[.int .i64 0, .int .u64 0, .int .u64 0] 76 (0, 0)) (by (with_reducible repeat (first | refine zN ?_ _ | refine zD ?_ | refine zA ?_ _)); exact BK273.out) hb)
    have n2_ := zK (blk_below (g := gb276) (o := .cells #[.int .i64 t274, .int .u64 t275] 74 (0, 0)) (by (with_reducible repeat (first | refine zN ?_ _ | refine zD ?_ | refine zA ?_ _)); exact BK276.out) hb)
    have n3_ := zK (blk_below (g := gb281) (o := .cells #[.int .i64 0, .int .u64 0] 74 (0, 0)) (by (with_reducible repeat (first | refine zN ?_ _ | refine zD ?_ | refine zA ?_ _)); exact BK281.out) hb)
    have n4_ := zK (below_step (by repeat (first | (with_reducible first | exact HB.out | apply yA | apply yN | apply yD | refine yS ?_ GE272.out | refine yS ?_ GE273.out | refine yS ?_ GE276.out | refine yS ?_ GE281.out) | exact HB.out)) hb)
    clear BK272
    clear BK273
    clear BK276
    clear BK281
    clear HB
    have BK272 := n0_
    have BK273 := n1_
    have BK276 := n2_
    have BK281 := n3_
    have HB := n4_
    clear n0_ n1_ n2_ n3_ n4_
    (try clear hb)
    (try clear hb2)
    (try clear hk)
    (try clear hi)
    refine hK.out _ _ ⟨(blk_cell BK272.out 0).trans rfl, (blk_cell BK272.out 1).trans rfl, (blk_cell BK272.out 2).trans rfl, (blk_cell BK276.out 0).trans rfl, (blk_cell BK276.out 1).trans rfl⟩ (fun hHeld => ?_)
    clear hK K
    refine norm_ (a' := ?_) ?_ ?_
    rotate_left
    ·show Act.put _ (some 23) _ = _
     simp only [Act.put, List.setIfInBounds_toArray, List.set_cons_zero, List.set_cons_succ, i64_w, i32_w]
     rfl
    exact norm_ (by simp only [putAll, Act.put, List.setIfInBounds_toArray, List.set_cons_zero, List.set_cons_succ]) (hCont (gb281) _ ⟨hHeld, (by (with_reducible repeat (first | refine zN ?_ _ | refine zD ?_ | refine zA ?_ _)); exact BK272.out), (by (with_reducible repeat (first | refine zN ?_ _ | refine zD ?_ | refine zA ?_ _)); exact BK273.out), (by (with_reducible repeat (first | refine zN ?_ _ | refine zD ?_ | refine zA ?_ _)); exact BK276.out), (by (with_reducible repeat (first | refine zN ?_ _ | refine zD ?_ | refine zA ?_ _)); exact BK281.out), GW281.out, GE281.out, NB272_281.out, NB281_272.out, NB273_281.out, NB281_273.out, NB276_281.out, NB281_276.out, (by repeat (first | (with_reducible first | exact HB.out | apply yA | apply yN | apply yD | refine yS ?_ GE272.out | refine yS ?_ GE273.out | refine yS ?_ GE276.out | refine yS ?_ GE281.out) | exact HB.out))⟩)
  rintro gb281 w24 ⟨hS_, h0_, h1_, h2_, h3_, h4_, h5_, h6_, h7_, h8_, h9_, h10_, h11_, h12_⟩
  have n0_ : Aside0 (w24.heap[gb272]? = some (.cells #[.int .i64 a0_0, .int .u64 a0_1, .int .u64 a0_2] 76 (0, 0))) := ⟨h0_⟩
  have n1_ : Aside0 (w24.heap[gb273]? = some (.cells #[.int .i64 0, .int .u64 0, .int .u64 0] 76 (0, 0))) := ⟨h1_⟩
  have n2_ : Aside0 (w24.heap[gb276]? = some (.cells #[.int .i64 t274, .int .u64 t275] 74 (0, 0))) := ⟨h2_⟩
  have n3_ : Aside0 (w24.heap[gb281]? = some (.cells #[.int .i64 0, .int .u64 0] 74 (0, 0))) := ⟨h3_⟩
  have n4_ : Aside0 (w.heap.size ≤ gb281) := ⟨h4_⟩
  have n5_ : Aside0 (w.heap.size ≤ gb281) := ⟨h5_⟩
  have n6_ : Aside0 (gb272 ≠ gb281) := ⟨h6_⟩
  have n7_ : Aside0 (gb281 ≠ gb272) := ⟨h7_⟩
  have n8_ : Aside0 (gb273 ≠ gb281) := ⟨h8_⟩
  have n9_ : Aside0 (gb281 ≠ gb273) := ⟨h9_⟩
  have n10_ : Aside0 (gb276 ≠ gb281) := ⟨h10_⟩
  have n11_ : Aside0 (gb281 ≠ gb276) := ⟨h11_⟩
  have n12_ : Aside0 (Below w.heap.size w w24) := ⟨h12_⟩
  clear BK272
  clear BK273
  clear BK276
  clear HB
  clear h0_ h1_ h2_ h3_ h4_ h5_ h6_ h7_ h8_ h9_ h10_ h11_ h12_
  have BK272 := n0_
  have BK273 := n1_
  have BK276 := n2_
  have BK281 := n3_
  have GW281 := n4_
  have GE281 := n5_
  have NB272_281 := n6_
  have NB281_272 := n7_
  have NB273_281 := n8_
  have NB281_273 := n9_
  have NB276_281 := n10_
  have NB281_276 := n11_
  have HB := n12_
  clear n0_ n1_ n2_ n3_ n4_ n5_ n6_ n7_ n8_ n9_ n10_ n11_ n12_
  have hHeld : w24.cell? ⟨gb272, 0, none⟩ = some (.int .i64 a0_0) ∧ w24.cell? ⟨gb272, 1, none⟩ = some (.int .u64 a0_1) ∧ w24.cell? ⟨gb272, 2, none⟩ = some (.int .u64 a0_2) ∧ w24.cell? ⟨gb276, 0, none⟩ = some (.int .i64 t274) ∧ w24.cell? ⟨gb276, 1, none⟩ = some (.int .u64 t275) := hS_
  refine norm_ (a' := ?_) ?_ ?_
  rotate_left
  ·simp only [putAll, Act.put, List.setIfInBounds_toArray, List.set_cons_zero, List.set_cons_succ]
   rfl
  refine one_ (i := 7) (N := none) #[true, true, true, true, true, true, true, true] rfl rfl (one_of HT_.out (by kernel_rfl)) (by decide) (fun K hK => ?_)
  have hs25 : w24.cell? ⟨gb281, 0, none⟩ = some (.int .i64 0) := (blk_cell BK281.out 0).trans rfl
  have hfs25 := blk_frozen BK281.out 0
  have hns25_0 := NB272_281.out
  have hns25_1 := NB273_281.out
  have hns25_2 := NB276_281.out
  have hms25_0 := NB281_272.out
  have hms25_1 := NB281_273.out
  have hms25_2 := NB281_276.out
  have hs26 : w24.cell? ⟨gb281, 1, none⟩ = some (.int .u64 0) := (blk_cell BK281.out 1).trans rfl
  have hfs26 := blk_frozen BK281.out 1
  have hns26_0 := NB272_281.out
  have hns26_1 := NB273_281.out
  have hns26_2 := NB276_281.out
  have hms26_0 := NB281_272.out
  have hms26_1 := NB281_273.out
  have hms26_2 := NB281_276.out
  refine skip_ (w1 := ?_) (by rfl) rfl ?_ ?_
  rotate_left
  ·go_simp
   rfl
  refine hK.out _ _ ⟨((cell_far (p := ⟨gb281, _, none⟩) NB272_281.out _).trans (((cell_far (p := ⟨gb281, _, none⟩) NB272_281.out _).trans (hHeld.1)))), ((cell_far (p := ⟨gb281, _, none⟩) NB272_281.out _).trans (((cell_far (p := ⟨gb281, _, none⟩) NB272_281.out _).trans (hHeld.2.1)))), ((cell_far (p := ⟨gb281, _, none⟩) NB272_281.out _).trans (((cell_far (p := ⟨gb281, _, none⟩) NB272_281.out _).trans (hHeld.2.2.1)))), ((cell_far (p := ⟨gb281, _, none⟩) NB276_281.out _).trans (((cell_far (p := ⟨gb281, _, none⟩) NB276_281.out _).trans (hHeld.2.2.2.1)))), ((cell_far (p := ⟨gb281, _, none⟩) NB276_281.out _).trans (((cell_far (p := ⟨gb281, _, none⟩) NB276_281.out _).trans (hHeld.2.2.2.2))))⟩ (fun hHeld => ?_)
  clear hK K
  refine done_ (done_of HT_.out (by kernel_rfl)) ?_
  have hnb27 := NB272_281.out
  have hnc27 := NB281_272.out
  have hcz28_0 : w24.cell? ⟨gb272, 0, none⟩ = some (.int .i64 a0_0) := (blk_cell BK272.out 0).trans rfl
  have hcz28_1 : w24.cell? ⟨gb272, 1, none⟩ = some (.int .u64 a0_1) := (blk_cell BK272.out 1).trans rfl
  have hcz28_2 : w24.cell? ⟨gb272, 2, none⟩ = some (.int .u64 a0_2) := (blk_cell BK272.out 2).trans rfl
  have hfz28_0 := blk_frozen BK272.out 0
  have hfz28_1 := blk_frozen BK272.out 1
  have hfz28_2 := blk_frozen BK272.out 2
  try go_wp2
  have n0_ : Aside0 (((w24.setCell ⟨gb281, 0, none⟩ (.int .i64 t279)).setCell ⟨gb281, 1, none⟩ (.int .u64 t280)).heap[gb272]? = some (.cells #[.int .i64 a0_0, .int .u64 a0_1, .int .u64 a0_2] 76 (0, 0))) := ⟨by (with_reducible repeat (first | refine zN ?_ _ | refine zD ?_ | refine zA ?_ _)); refine blk_far ?_ NB272_281.out _; (with_reducible repeat (first | refine zN ?_ _ | refine zD ?_ | refine zA ?_ _)); refine blk_far ?_ NB272_281.out _; (with_reducible repeat (first | refine zN ?_ _ | refine zD ?_ | refine zA ?_ _)); exact BK272.out⟩
  have n1_ : Aside0 (((w24.setCell ⟨gb281, 0, none⟩ (.int .i64 t279)).setCell ⟨gb281, 1, none⟩ (.int .u64 t280)).heap[gb273]? = some (.cells #[.int .i64 0, .int .u64 0, .int .u64 0] 76 (0, 0))) := ⟨by (with_reducible repeat (first | refine zN ?_ _ | refine zD ?_ | refine zA ?_ _)); refine blk_far ?_ NB273_281.out _; (with_reducible repeat (first | refine zN ?_ _ | refine zD ?_ | refine zA ?_ _)); refine blk_far ?_ NB273_281.out _; (with_reducible repeat (first | refine zN ?_ _ | refine zD ?_ | refine zA ?_ _)); exact BK273.out⟩
  have n2_ : Aside0 (((w24.setCell ⟨gb281, 0, none⟩ (.int .i64 t279)).setCell ⟨gb281, 1, none⟩ (.int .u64 t280)).heap[gb276]? = some (.cells #[.int .i64 t274, .int .u64 t275] 74 (0, 0))) := ⟨by (with_reducible repeat (first | refine zN ?_ _ | refine zD ?_ | refine zA ?_ _)); refine blk_far ?_ NB276_281.out _; (with_reducible repeat (first | refine zN ?_ _ | refine zD ?_ | refine zA ?_ _)); refine blk_far ?_ NB276_281.out _; (with_reducible repeat (first | refine zN ?_ _ | refine zD ?_ | refine zA ?_ _)); exact BK276.out⟩
  have n3_ : Aside0 (((w24.setCell ⟨gb281, 0, none⟩ (.int .i64 t279)).setCell ⟨gb281, 1, none⟩ (.int .u64 t280)).heap[gb281]? = some (.cells #[.int .i64 t279, .int .u64 t280] 74 (0, 0))) := ⟨by (with_reducible repeat (first | refine zN ?_ _ | refine zD ?_ | refine zA ?_ _)); refine blk_put (cs := #[.int .i64 t279, .int .u64 0]) ?_ 1 _ rfl; (with_reducible repeat (first | refine zN ?_ _ | refine zD ?_ | refine zA ?_ _)); refine blk_put (cs := #[.int .i64 0, .int .u64 0]) ?_ 0 _ rfl; (with_reducible repeat (first | refine zN ?_ _ | refine zD ?_ | refine zA ?_ _)); exact BK281.out⟩
  have n4_ : Aside0 (Below w.heap.size w ((w24.setCell ⟨gb281, 0, none⟩ (.int .i64 t279)).setCell ⟨gb281, 1, none⟩ (.int .u64 t280))) := ⟨by repeat (first | (with_reducible first | exact HB.out | apply yA | apply yN | apply yD | refine yS ?_ GE272.out | refine yS ?_ GE273.out | refine yS ?_ GE276.out | refine yS ?_ GE281.out) | exact HB.out)⟩
  (try clear BK272)
  (try clear BK273)
  (try clear BK276)
  (try clear BK281)
  (try clear HB)
  generalize ((w24.setCell ⟨gb281, 0, none⟩ (.int .i64 t279)).setCell ⟨gb281, 1, none⟩ (.int .u64 t280)) = w29 at n0_ n1_ n2_ n3_ n4_ ⊢
  have BK272 := n0_
  have BK273 := n1_
  have BK276 := n2_
  have BK281 := n3_
  have HB := n4_
  clear n0_ n1_ n2_ n3_ n4_
  have n0_ := zK (zD BK272.out)
  have n1_ := zK (zD BK273.out)
  have n2_ := zK (zD BK276.out)
  have n3_ := zK (zD BK281.out)
  have n4_ := zK (yD HB.out)
  clear BK272
  clear BK273
  clear BK276
  clear BK281
  clear HB
  have BK272 := n0_
  have BK273 := n1_
  have BK276 := n2_
  have BK281 := n3_
  have HB := n4_
  clear n0_ n1_ n2_ n3_ n4_
  refine start_ (n := 4) (S := fun w' => w'.cell? ⟨gb281, 0, none⟩ = some (.int .i64 t279) ∧ w'.cell? ⟨gb281, 1, none⟩ = some (.int .u64 t280)) (ds := [3]) #[false, false, false, false] (by kernel_rfl) rfl rfl ⟨(blk_cell BK281.out 0).trans rfl, (blk_cell BK281.out 1).trans rfl⟩ (fun hHeld => ?_)
  generalize w29.drew = w30 at BK272 BK273 BK276 BK281 HB hHeld ⊢
  refine take_ (i := 0) (N := some 28) (v := ?_) (a' := ?_) #[true, false, false, false] rfl rfl (by kernel_rfl) (fun _ _ _ h => h) (Or.inl ⟨by rfl, ?_⟩) hHeld ?_ ?_
  rotate_left
  ·rintro w' ⟨s0, s1⟩
   go_simp
   with_reducible rfl
  rotate_left
  ·simp only [Act.put, List.setIfInBounds_toArray, List.set_cons_zero, List.set_cons_succ, i64_w, i32_w]
   rfl
  refine one_ (i := 1) (N := some 29) #[true, true, false, false] rfl rfl (by kernel_rfl) (by decide) (fun K hK => ?_)
  refine goes_ Try.func66 (by kernel_rfl) rfl #[.int .i64 1] (by rfl) rfl rfl (by (try simp only [List.map_toArray, List.map_cons, List.map_nil]); first | done | rfl | (simp only [List.length_drop, List.length_take]; rfl)) ?_
  with_reducible refine (sequiturref01_Of.calls 1 t282 t283 _ A8.out).mono ?_
  rintro e w31 ⟨rfl, hb⟩
  refine ⟨_, rfl, ?_⟩
  have n0_ := zK (blk_below (g := gb272) (o := .cells #[.int .i64 a0_0, .int .u64 a0_1, .int .u64 a0_2] 76 (0, 0)) (by (with_reducible repeat (first | refine zN ?_ _ | refine zD ?_ | refine zA ?_ _)); exact BK272.out) hb)
  have n1_ := zK (blk_below (g := gb273) (o := .cells #[.int .i64 0, .int .u64 0, .int .u64 0] 76 (0, 0)) (by (with_reducible repeat (first | refine zN ?_ _ | refine zD ?_ | refine zA ?_ _)); exact BK273.out) hb)
  have n2_ := zK (blk_below (g := gb276) (o := .cells #[.int .i64 t274, .int .u64 t275] 74 (0, 0)) (by (with_reducible repeat (first | refine zN ?_ _ | refine zD ?_ | refine zA ?_ _)); exact BK276.out) hb)
  have n3_ := zK (blk_below (g := gb281) (o := .cells #[.int .i64 t279, .int .u64 t280] 74 (0, 0)) (by (with_reducible repeat (first | refine zN ?_ _ | refine zD ?_ | refine zA ?_ _)); exact BK281.out) hb)
  have n4_ := zK (below_step (by repeat (first | (with_reducible first | exact HB.out | apply yA | apply yN | apply yD | refine yS ?_ GE272.out | refine yS ?_ GE273.out | refine yS ?_ GE276.out | refine yS ?_ GE281.out) | exact HB.out)) hb)
  clear BK272
  clear BK273
  clear BK276
  clear BK281
  clear HB
  have BK272 := n0_
  have BK273 := n1_
  have BK276 := n2_
  have BK281 := n3_
  have HB := n4_
  clear n0_ n1_ n2_ n3_ n4_
  (try clear hb)
  (try clear hb2)
  (try clear hk)
  (try clear hi)
  refine hK.out _ _ ⟨(blk_cell BK281.out 0).trans rfl, (blk_cell BK281.out 1).trans rfl⟩ (fun hHeld => ?_)
  clear hK K
  refine norm_ (a' := ?_) ?_ ?_
  rotate_left
  ·show Act.put _ (some 29) _ = _
   simp only [Act.put, List.setIfInBounds_toArray, List.set_cons_zero, List.set_cons_succ, i64_w, i32_w]
   rfl
  refine one_ (i := 2) (N := some 30) #[true, true, true, false] rfl rfl (by kernel_rfl) (by decide) (fun K hK => ?_)
  refine goes_ Try.func65 (by kernel_rfl) rfl #[.agg #[.int .i64 t279, .int .u64 t280], .agg #[.int .i64 t282, .int .u64 t283]] (by rfl) rfl rfl (by (try simp only [List.map_toArray, List.map_cons, List.map_nil]); first | done | rfl | (simp only [List.length_drop, List.length_take]; rfl)) ?_
  with_reducible refine (sequiturref01_Plus.calls t279 t280 t282 t283 t284 t285 _ A9.out).mono ?_
  rintro e w32 ⟨rfl, hb⟩
  refine ⟨_, rfl, ?_⟩
  have n0_ := zK (blk_below (g := gb272) (o := .cells #[.int .i64 a0_0, .int .u64 a0_1, .int .u64 a0_2] 76 (0, 0)) (by (with_reducible repeat (first | refine zN ?_ _ | refine zD ?_ | refine zA ?_ _)); exact BK272.out) hb)
  have n1_ := zK (blk_below (g := gb273) (o := .cells #[.int .i64 0, .int .u64 0, .int .u64 0] 76 (0, 0)) (by (with_reducible repeat (first | refine zN ?_ _ | refine zD ?_ | refine zA ?_ _)); exact BK273.out) hb)
  have n2_ := zK (blk_below (g := gb276) (o := .cells #[.int .i64 t274, .int .u64 t275] 74 (0, 0)) (by (with_reducible repeat (first | refine zN ?_ _ | refine zD ?_ | refine zA ?_ _)); exact BK276.out) hb)
  have n3_ := zK (blk_below (g := gb281) (o := .cells #[.int .i64 t279, .int .u64 t280] 74 (0, 0)) (by (with_reducible repeat (first | refine zN ?_ _ | refine zD ?_ | refine zA ?_ _)); exact BK281.out) hb)
  have n4_ := zK (below_step (by repeat (first | (with_reducible first | exact HB.out | apply yA | apply yN | apply yD | refine yS ?_ GE272.out | refine yS ?_ GE273.out | refine yS ?_ GE276.out | refine yS ?_ GE281.out) | exact HB.out)) hb)
  clear BK272
  clear BK273
  clear BK276
  clear BK281
  clear HB
  have BK272 := n0_
  have BK273 := n1_
  have BK276 := n2_
  have BK281 := n3_
  have HB := n4_
  clear n0_ n1_ n2_ n3_ n4_
  (try clear hb)
  (try clear hb2)
  (try clear hk)
  (try clear hi)
  refine hK.out _ _ ⟨(blk_cell BK281.out 0).trans rfl, (blk_cell BK281.out 1).trans rfl⟩ (fun hHeld => ?_)
  clear hK K
  refine norm_ (a' := ?_) ?_ ?_
  rotate_left
  ·show Act.put _ (some 30) _ = _
   simp only [Act.put, List.setIfInBounds_toArray, List.set_cons_zero, List.set_cons_succ, i64_w, i32_w]
   rfl
  refine last_ (i := 3) (N := none) #[true, true, true, true] rfl rfl (by kernel_rfl) (by decide) (fun K hK => ?_)
  have hs33 : w32.cell? ⟨gb281, 0, none⟩ = some (.int .i64 t279) := (blk_cell BK281.out 0).trans rfl
  have hfs33 := blk_frozen BK281.out 0
  have hns33_0 := NB272_281.out
  have hns33_1 := NB273_281.out
  have hns33_2 := NB276_281.out
  have hms33_0 := NB281_272.out
  have hms33_1 := NB281_273.out
  have hms33_2 := NB281_276.out
  have hs34 : w32.cell? ⟨gb281, 1, none⟩ = some (.int .u64 t280) := (blk_cell BK281.out 1).trans rfl
  have hfs34 := blk_frozen BK281.out 1
  have hns34_0 := NB272_281.out
  have hns34_1 := NB273_281.out
  have hns34_2 := NB276_281.out
  have hms34_0 := NB281_272.out
  have hms34_1 := NB281_273.out
  have hms34_2 := NB281_276.out
  refine skip_ (w1 := ?_) (by rfl) rfl ?_ ?_
  rotate_left
  ·go_simp
   rfl
  refine hK.out _ _ ?_
  clear hK K
  refine done_ (by kernel_rfl) ?_
  have hnb35 := NB281_273.out
  have hnc35 := NB273_281.out
  have hnb36 := NB281_276.out
  have hnc36 := NB276_281.out
  have hcz37_0 : w32.cell? ⟨gb281, 0, none⟩ = some (.int .i64 t279) := (blk_cell BK281.out 0).trans rfl
  have hcz37_1 : w32.cell? ⟨gb281, 1, none⟩ = some (.int .u64 t280) := (blk_cell BK281.out 1).trans rfl
  have hfz37_0 := blk_frozen BK281.out 0
  have hfz37_1 := blk_frozen BK281.out 1
  have hcz38_0 : w32.cell? ⟨gb273, 0, none⟩ = some (.int .i64 0) := (blk_cell BK273.out 0).trans rfl
  have hcz38_1 : w32.cell? ⟨gb273, 1, none⟩ = some (.int .u64 0) := (blk_cell BK273.out 1).trans rfl
  have hcz38_2 : w32.cell? ⟨gb273, 2, none⟩ = some (.int .u64 0) := (blk_cell BK273.out 2).trans rfl
  have hfz38_0 := blk_frozen BK273.out 0
  have hfz38_1 := blk_frozen BK273.out 1
  have hfz38_2 := blk_frozen BK273.out 2
  try go_wp2
  refine bodyPost_ret (results_cell_row rfl _ _ gb273 76 #[.int .i64 t284, .int .u64 t285, .int .u64 (IntKind.u64.wrap (a0_2 + t275))] (0, 0) _ rfl (by (with_reducible repeat (first | refine zN ?_ _ | refine zD ?_ | refine zA ?_ _)); refine blk_put (cs := #[.int .i64 t284, .int .u64 t285, .int .u64 0]) ?_ 2 _ rfl; (with_reducible repeat (first | refine zN ?_ _ | refine zD ?_ | refine zA ?_ _)); refine blk_put (cs := #[.int .i64 t284, .int .u64 0, .int .u64 0]) ?_ 1 _ rfl; (with_reducible repeat (first | refine zN ?_ _ | refine zD ?_ | refine zA ?_ _)); refine blk_put (cs := #[.int .i64 0, .int .u64 0, .int .u64 0]) ?_ 0 _ rfl; (with_reducible repeat (first | refine zN ?_ _ | refine zD ?_ | refine zA ?_ _)); refine blk_far ?_ NB273_281.out _; (with_reducible repeat (first | refine zN ?_ _ | refine zD ?_ | refine zA ?_ _)); refine blk_far ?_ NB273_281.out _; (with_reducible repeat (first | refine zN ?_ _ | refine zD ?_ | refine zA ?_ _)); exact BK273.out) Try.underlying76 rfl (by kernel_rfl)) rfl ?_
  exact ⟨by first | rfl | (simp [errW_none, errW_some] <;> rfl) | (simp [*, errW_none, errW_some] <;> rfl), by repeat (first | (with_reducible first | exact HB.out | apply yA | apply yN | apply yD | refine yS ?_ GE272.out | refine yS ?_ GE273.out | refine yS ?_ GE276.out | refine yS ?_ GE281.out) | exact HB.out)⟩
 ·rw [if_neg c7] at H
  have c7b0 : decide ((IntKind.u64.wrap (a0_2 + t275)) < a0_2) = false := decide_eq_false c7
  clear c7
  simp only [Option.some.injEq, Prod.mk.injEq] at H
  obtain ⟨rfl, rfl, rfl⟩ := H
  go_enter Try.func51, Try.ntmps51
  try go_wp2_with (first | ((with_reducible refine gate_dst (N := 3) rfl ?_); refine box_event ?hg (N := 3) ?hd (cs := #[.int .i64 a0_0, .int .u64 a0_1, .int .u64 a0_2]) (t := 76) ?hr ?_; (case hd => rfl); (case hg => rfl); (case hr => first | (go_simp; done) | (go_simp; rfl)); intro gb272 hg w39 hbox hb; have n0_ := zK (below_step (by repeat (first | (with_reducible first | exact HB.out | apply yA | apply yN | apply yD) | exact HB.out)) hb); have n1_ := zK (hbox); have n2_ := zK ((by rw [hg]; exact (below_size (by repeat (first | (with_reducible first | exact HB.out | apply yA | apply yN | apply yD) | exact HB.out))) : w.heap.size ≤ gb272)); have n3_ := zK ((by rw [hg]; exact (below_size (by repeat (first | (with_reducible first | exact HB.out | apply yA | apply yN | apply yD) | exact HB.out))) : w.heap.size ≤ gb272)); clear HB; have HB := n0_; have BK272 := n1_; have GW272 := n2_; have GE272 := n3_; clear n0_ n1_ n2_ n3_; clear hb hbox hg) | ((with_reducible refine gate_dst (N := 6) rfl ?_); refine box_event ?hg (N := 6) ?hd (cs := #[.int .i64 0, .int .u64 0, .int .u64 0]) (t := 76) ?hr ?_; (case hd => rfl); (case hg => rfl); (case hr => first | (go_simp; done) | (go_simp; rfl)); intro gb273 hg w40 hbox hb; have n0_ := zK (blk_below (g := gb272) (o := .cells #[.int .i64 a0_0, .int .u64 a0_1, .int .u64 a0_2] 76 (0, 0)) (by (with_reducible repeat (first | refine zN ?_ _ | refine zD ?_ | refine zA ?_ _)); exact BK272.out) hb); have n1_ := zK (below_step (by repeat (first | (with_reducible first | exact HB.out | apply yA | apply yN | apply yD | refine yS ?_ GE272.out) | exact HB.out)) hb); have n2_ := zK (hbox); have n3_ := zK ((by rw [hg]; exact (below_size (by repeat (first | (with_reducible first | exact HB.out | apply yA | apply yN | apply yD | refine yS ?_ GE272.out) | exact HB.out))) : w.heap.size ≤ gb273)); have n4_ := zK ((by rw [hg]; exact (below_size (by repeat (first | (with_reducible first | exact HB.out | apply yA | apply yN | apply yD | refine yS ?_ GE272.out) | exact HB.out))) : w.heap.size ≤ gb273)); have n5_ := zK ((by rw [hg]; exact Nat.ne_of_lt (blk_lt (g := gb272) (o := .cells #[.int .i64 a0_0, .int .u64 a0_1, .int .u64 a0_2] 76 (0, 0)) (by (with_reducible repeat (first | refine zN ?_ _ | refine zD ?_ | refine zA ?_ _)); exact BK272.out)) : gb272 ≠ gb273)); have n6_ := zK ((by rw [hg]; exact Nat.ne_of_gt (blk_lt (g := gb272) (o := .cells #[.int .i64 a0_0, .int .u64 a0_1, .int .u64 a0_2] 76 (0, 0)) (by (with_reducible repeat (first | refine zN ?_ _ | refine zD ?_ | refine zA ?_ _)); exact BK272.out)) : gb273 ≠ gb272)); clear BK272; clear HB; have BK272 := n0_; have HB := n1_; have BK273 := n2_; have GW273 := n3_; have GE273 := n4_; have NB272_273 := n5_; have NB273_272 := n6_; clear n0_ n1_ n2_ n3_ n4_ n5_ n6_; clear hb hbox hg) | ((with_reducible refine zC (f := 64) rfl ?_); refine goesL_ (some 12) rfl rfl Try.func64 (by kernel_rfl) rfl #[.int .i64 a1, .int .i64 a2] rfl (by (try simp only [List.map_toArray, List.map_cons, List.map_nil]); first | done | rfl | (simp only [List.length_drop, List.length_take]; rfl)) ?_; (with_reducible refine (sequiturref01_Times.calls k a1 a2 t274 t275 _ A4.out).mono ?_); rintro e w41 ⟨rfl, hb⟩; refine ⟨_, rfl, ?_⟩; have n0_ := zK (blk_below (g := gb272) (o := .cells #[.int .i64 a0_0, .int .u64 a0_1, .int .u64 a0_2] 76 (0, 0)) (by (with_reducible repeat (first | refine zN ?_ _ | refine zD ?_ | refine zA ?_ _)); exact BK272.out) hb); have n1_ := zK (blk_below (g := gb273) (o := .cells #[.int .i64 0, .int .u64 0, .int .u64 0] 76 (0, 0)) (by (with_reducible repeat (first | refine zN ?_ _ | refine zD ?_ | refine zA ?_ _)); exact BK273.out) hb); have n2_ := zK (below_step (by repeat (first | (with_reducible first | exact HB.out | apply yA | apply yN | apply yD | refine yS ?_ GE272.out | refine yS ?_ GE273.out) | exact HB.out)) hb); clear BK272; clear BK273; clear HB; have BK272 := n0_; have BK273 := n1_; have HB := n2_; clear n0_ n1_ n2_; (try clear hb); (try clear hb2); (try clear hk); (try clear hi)) | ((with_reducible refine gate_dst (N := 7) rfl ?_); refine box_event ?hg (N := 7) ?hd (cs := #[.int .i64 0, .int .u64 0]) (t := 74) ?hr ?_; (case hd => rfl); (case hg => rfl); (case hr => first | (go_simp; done) | (go_simp; rfl)); intro gb276 hg w42 hbox hb; have n0_ := zK (blk_below (g := gb272) (o := .cells #[.int .i64 a0_0, .int .u64 a0_1, .int .u64 a0_2] 76 (0, 0)) (by (with_reducible repeat (first | refine zN ?_ _ | refine zD ?_ | refine zA ?_ _)); exact BK272.out) hb); have n1_ := zK (blk_below (g := gb273) (o := .cells #[.int .i64 0, .int .u64 0, .int .u64 0] 76 (0, 0)) (by (with_reducible repeat (first | refine zN ?_ _ | refine zD ?_ | refine zA ?_ _)); exact BK273.out) hb); have n2_ := zK (below_step (by repeat (first | (with_reducible first | exact HB.out | apply yA | apply yN | apply yD | refine yS ?_ GE272.out | refine yS ?_ GE273.out) | exact HB.out)) hb); have n3_ := zK (hbox); have n4_ := zK ((by rw [hg]; exact (below_size (by repeat (first | (with_reducible first | exact HB.out | apply yA | apply yN | apply yD | refine yS ?_ GE272.out | refine yS ?_ GE273.out) | exact HB.out))) : w.heap.size ≤ gb276)); have n5_ := zK ((by rw [hg]; exact (below_size (by repeat (first | (with_reducible first | exact HB.out | apply yA | apply yN | apply yD | refine yS ?_ GE272.out | refine yS ?_ GE273.out) | exact HB.out))) : w.heap.size ≤ gb276)); have n6_ := zK ((by rw [hg]; exact Nat.ne_of_lt (blk_lt (g := gb272) (o := .cells #[.int .i64 a0_0, .int .u64 a0_1, .int .u64 a0_2] 76 (0, 0)) (by (with_reducible repeat (first | refine zN ?_ _ | refine zD ?_ | refine zA ?_ _)); exact BK272.out)) : gb272 ≠ gb276)); have n7_ := zK ((by rw [hg]; exact Nat.ne_of_gt (blk_lt (g := gb272) (o := .cells #[.int .i64 a0_0, .int .u64 a0_1, .int .u64 a0_2] 76 (0, 0)) (by (with_reducible repeat (first | refine zN ?_ _ | refine zD ?_ | refine zA ?_ _)); exact BK272.out)) : gb276 ≠ gb272)); have n8_ := zK ((by rw [hg]; exact Nat.ne_of_lt (blk_lt (g := gb273) (o := .cells #[.int .i64 0, .int .u64 0, .int .u64 0] 76 (0, 0)) (by (with_reducible repeat (first | refine zN ?_ _ | refine zD ?_ | refine zA ?_ _)); exact BK273.out)) : gb273 ≠ gb276)); have n9_ := zK ((by rw [hg]; exact Nat.ne_of_gt (blk_lt (g := gb273) (o := .cells #[.int .i64 0, .int .u64 0, .int .u64 0] 76 (0, 0)) (by (with_reducible repeat (first | refine zN ?_ _ | refine zD ?_ | refine zA ?_ _)); exact BK273.out)) : gb276 ≠ gb273)); clear BK272; clear BK273; clear HB; have BK272 := n0_; have BK273 := n1_; have HB := n2_; have BK276 := n3_; have GW276 := n4_; have GE276 := n5_; have NB272_276 := n6_; have NB276_272 := n7_; have NB273_276 := n8_; have NB276_273 := n9_; clear n0_ n1_ n2_ n3_ n4_ n5_ n6_ n7_ n8_ n9_; clear hb hbox hg; have hnb43 := NB276_272.out; have hnc43 := NB272_276.out; have hnb44 := NB276_273.out; have hnc44 := NB273_276.out; have hcz45_0 : w42.cell? ⟨gb276, 0, none⟩ = some (.int .i64 0) := (blk_cell BK276.out 0).trans rfl; have hcz45_1 : w42.cell? ⟨gb276, 1, none⟩ = some (.int .u64 0) := (blk_cell BK276.out 1).trans rfl; have hfz45_0 := blk_frozen BK276.out 0; have hfz45_1 := blk_frozen BK276.out 1; have hnb46 := NB272_273.out; have hnc46 := NB273_272.out; have hcz47_0 : w42.cell? ⟨gb272, 0, none⟩ = some (.int .i64 a0_0) := (blk_cell BK272.out 0).trans rfl; have hcz47_1 : w42.cell? ⟨gb272, 1, none⟩ = some (.int .u64 a0_1) := (blk_cell BK272.out 1).trans rfl; have hcz47_2 : w42.cell? ⟨gb272, 2, none⟩ = some (.int .u64 a0_2) := (blk_cell BK272.out 2).trans rfl; have hfz47_0 := blk_frozen BK272.out 0; have hfz47_1 := blk_frozen BK272.out 1; have hfz47_2 := blk_frozen BK272.out 2))
  have n0_ : Aside0 (((w42.setCell ⟨gb276, 0, none⟩ (.int .i64 t274)).setCell ⟨gb276, 1, none⟩ (.int .u64 t275)).heap[gb272]? = some (.cells #[.int .i64 a0_0, .int .u64 a0_1, .int .u64 a0_2] 76 (0, 0))) := ⟨by (with_reducible repeat (first | refine zN ?_ _ | refine zD ?_ | refine zA ?_ _)); refine blk_far ?_ NB272_276.out _; (with_reducible repeat (first | refine zN ?_ _ | refine zD ?_ | refine zA ?_ _)); refine blk_far ?_ NB272_276.out _; (with_reducible repeat (first | refine zN ?_ _ | refine zD ?_ | refine zA ?_ _)); exact BK272.out⟩
  have n1_ : Aside0 (((w42.setCell ⟨gb276, 0, none⟩ (.int .i64 t274)).setCell ⟨gb276, 1, none⟩ (.int .u64 t275)).heap[gb273]? = some (.cells #[.int .i64 0, .int .u64 0, .int .u64 0] 76 (0, 0))) := ⟨by (with_reducible repeat (first | refine zN ?_ _ | refine zD ?_ | refine zA ?_ _)); refine blk_far ?_ NB273_276.out _; (with_reducible repeat (first | refine zN ?_ _ | refine zD ?_ | refine zA ?_ _)); refine blk_far ?_ NB273_276.out _; (with_reducible repeat (first | refine zN ?_ _ | refine zD ?_ | refine zA ?_ _)); exact BK273.out⟩
  have n2_ : Aside0 (((w42.setCell ⟨gb276, 0, none⟩ (.int .i64 t274)).setCell ⟨gb276, 1, none⟩ (.int .u64 t275)).heap[gb276]? = some (.cells #[.int .i64 t274, .int .u64 t275] 74 (0, 0))) := ⟨by (with_reducible repeat (first | refine zN ?_ _ | refine zD ?_ | refine zA ?_ _)); refine blk_put (cs := #[.int .i64 t274, .int .u64 0]) ?_ 1 _ rfl; (with_reducible repeat (first | refine zN ?_ _ | refine zD ?_ | refine zA ?_ _)); refine blk_put (cs := #[.int .i64 0, .int .u64 0]) ?_ 0 _ rfl; (with_reducible repeat (first | refine zN ?_ _ | refine zD ?_ | refine zA ?_ _)); exact BK276.out⟩
  have n3_ : Aside0 (Below w.heap.size w ((w42.setCell ⟨gb276, 0, none⟩ (.int .i64 t274)).setCell ⟨gb276, 1, none⟩ (.int .u64 t275))) := ⟨by repeat (first | (with_reducible first | exact HB.out | apply yA | apply yN | apply yD | refine yS ?_ GE272.out | refine yS ?_ GE273.out | refine yS ?_ GE276.out) | exact HB.out)⟩
  (try clear BK272)
  (try clear BK273)
  (try clear BK276)
  (try clear HB)
  generalize ((w42.setCell ⟨gb276, 0, none⟩ (.int .i64 t274)).setCell ⟨gb276, 1, none⟩ (.int .u64 t275)) = w48 at n0_ n1_ n2_ n3_ ⊢
  have BK272 := n0_
  have BK273 := n1_
  have BK276 := n2_
  have HB := n3_
  clear n0_ n1_ n2_ n3_
  have n0_ := zK (zD BK272.out)
  have n1_ := zK (zD BK273.out)
  have n2_ := zK (zD BK276.out)
  have n3_ := zK (yD HB.out)
  clear BK272
  clear BK273
  clear BK276
  clear HB
  have BK272 := n0_
  have BK273 := n1_
  have BK276 := n2_
  have HB := n3_
  clear n0_ n1_ n2_ n3_
  refine start_ (n := 8) (S := fun w' => w'.cell? ⟨gb272, 0, none⟩ = some (.int .i64 a0_0) ∧ w'.cell? ⟨gb272, 1, none⟩ = some (.int .u64 a0_1) ∧ w'.cell? ⟨gb272, 2, none⟩ = some (.int .u64 a0_2) ∧ w'.cell? ⟨gb276, 0, none⟩ = some (.int .i64 t274) ∧ w'.cell? ⟨gb276, 1, none⟩ = some (.int .u64 t275)) (ds := []) #[false, false, false, false, false, false, false, false] (by kernel_rfl) rfl rfl ⟨(blk_cell BK272.out 0).trans rfl, (blk_cell BK272.out 1).trans rfl, (blk_cell BK272.out 2).trans rfl, (blk_cell BK276.out 0).trans rfl, (blk_cell BK276.out 1).trans rfl⟩ (fun hHeld => ?_); refine with_tabW sequiturref28_More.tab3 sequiturref28_More.bits3 (fun HT_ HW_ => ?_)
  generalize w48.drew = w49 at BK272 BK273 BK276 HB hHeld ⊢
  refine pure_ (i := 0) (N := some 18) (v := ?_) (a' := ?_) #[true, false, false, false, false, false, false, false] rfl rfl (any_of HT_.out (by kernel_rfl)) (fun _ _ _ h => h) (Or.inl ⟨by rfl, ?_⟩) ?_ ?_
  rotate_left
  ·intro w'
   go_simp
   with_reducible rfl
  rotate_left
  ·simp only [Act.put, List.setIfInBounds_toArray, List.set_cons_zero, List.set_cons_succ, i64_w, i32_w]
   rfl
  refine pure_ (i := 2) (N := some 20) (v := ?_) (a' := ?_) #[true, false, true, false, false, false, false, false] rfl rfl (any_of HT_.out (by kernel_rfl)) (fun _ _ _ h => h) (Or.inl ⟨by rfl, ?_⟩) ?_ ?_
  rotate_left
  ·intro w'
   go_simp
   with_reducible rfl
  rotate_left
  ·simp only [Act.put, List.setIfInBounds_toArray, List.set_cons_zero, List.set_cons_succ, i64_w, i32_w]
   rfl
  refine take_ (i := 1) (N := some 19) (v := ?_) (a' := ?_) #[true, true, true, false, false, false, false, false] rfl rfl (take_ofW HT_.out HW_.out (by kernel_rfl)) (fun _ _ _ h => h) (Or.inl ⟨by rfl, ?_⟩) hHeld ?_ ?_
  rotate_left
  ·rintro w' ⟨s0, s1, s2, s3, s4⟩
   go_simp
   with_reducible rfl
  rotate_left
  ·simp only [Act.put, List.setIfInBounds_toArray, List.set_cons_zero, List.set_cons_succ, i64_w, i32_w]
   rfl
  refine take_ (i := 3) (N := some 21) (v := ?_) (a' := ?_) #[true, true, true, true, false, false, false, false] rfl rfl (take_ofW HT_.out HW_.out (by kernel_rfl)) (fun _ _ _ h => h) (Or.inl ⟨by rfl, ?_⟩) hHeld ?_ ?_
  rotate_left
  ·rintro w' ⟨s0, s1, s2, s3, s4⟩
   go_simp
   with_reducible rfl
  rotate_left
  ·simp only [Act.put, List.setIfInBounds_toArray, List.set_cons_zero, List.set_cons_succ, i64_w, i32_w]
   rfl
  refine join_ (σ := Nat) 1 #[true, true, true, true, true, true, true, false] (fun s_ => [(22, .agg #[.int .i64 t277, .int .u64 t278]), (23, .agg #[.int .i64 t279, .int .u64 t280]), (9, .pointer (some ⟨s_, 0, none⟩))]) (fun s_ w' => (w'.cell? ⟨gb272, 0, none⟩ = some (.int .i64 a0_0) ∧ w'.cell? ⟨gb272, 1, none⟩ = some (.int .u64 a0_1) ∧ w'.cell? ⟨gb272, 2, none⟩ = some (.int .u64 a0_2) ∧ w'.cell? ⟨gb276, 0, none⟩ = some (.int .i64 t274) ∧ w'.cell? ⟨gb276, 1, none⟩ = some (.int .u64 t275)) ∧ (w'.heap[gb272]? = some (.cells #[.int .i64 a0_0, .int .u64 a0_1, .int .u64 a0_2] 76 (0, 0))) ∧ (w'.heap[gb273]? = some (.cells #[.int .i64 0, .int .u64 0, .int .u64 0] 76 (0, 0))) ∧ (w'.heap[gb276]? = some (.cells #[.int .i64 t274, .int .u64 t275] 74 (0, 0))) ∧ (w'.heap[s_]? = some (.cells #[.int .i64 0, .int .u64 0] 74 (0, 0))) ∧ (w.heap.size ≤ s_) ∧ (w.heap.size ≤ s_) ∧ (gb272 ≠ s_) ∧ (s_ ≠ gb272) ∧ (gb273 ≠ s_) ∧ (s_ ≠ gb273) ∧ (gb276 ≠ s_) ∧ (s_ ≠ gb276) ∧ (Below w.heap.size w w')) ?_ ?_
  rotate_left
  ·intro hCont
   refine two_ (i := 4) (j := 6) (Ni := some 22) (Nj := some 9) #[true, true, true, true, true, false, false, false] #[true, true, true, true, false, false, true, false] rfl rfl rfl rfl (two_of HT_.out (by kernel_rfl)) (by decide) (by decide) (fun K hK => ?_) (fun K hK => ?_)
   ·skip
    refine goes_ Try.func66 (by kernel_rfl) rfl #[.int .i64 t274] (by rfl) rfl rfl (by (try simp only [List.map_toArray, List.map_cons, List.map_nil]); first | done | rfl | (simp only [List.length_drop, List.length_take]; rfl)) ?_
    with_reducible refine (sequiturref01_Of.calls t274 t277 t278 _ A5.out).mono ?_
    rintro e w50 ⟨rfl, hb⟩
    refine ⟨_, rfl, ?_⟩
    have n0_ := zK (blk_below (g := gb272) (o := .cells #[.int .i64 a0_0, .int .u64 a0_1, .int .u64 a0_2] 76 (0, 0)) (by (with_reducible repeat (first | refine zN ?_ _ | refine zD ?_ | refine zA ?_ _)); exact BK272.out) hb)
    have n1_ := zK (blk_below (g := gb273) (o := .cells #[.int .i64 0, .int .u64 0, .int .u64 0] 76 (0, 0)) (by (with_reducible repeat (first | refine zN ?_ _ | refine zD ?_ | refine zA ?_ _)); exact BK273.out) hb)
    have n2_ := zK (blk_below (g := gb276) (o := .cells #[.int .i64 t274, .int .u64 t275] 74 (0, 0)) (by (with_reducible repeat (first | refine zN ?_ _ | refine zD ?_ | refine zA ?_ _)); exact BK276.out) hb)
    have n3_ := zK (below_step (by repeat (first | (with_reducible first | exact HB.out | apply yA | apply yN | apply yD | refine yS ?_ GE272.out | refine yS ?_ GE273.out | refine yS ?_ GE276.out) | exact HB.out)) hb)
    clear BK272
    clear BK273
    clear BK276
    clear HB
    have BK272 := n0_
    have BK273 := n1_
    have BK276 := n2_
    have HB := n3_
    clear n0_ n1_ n2_ n3_
    (try clear hb)
    (try clear hb2)
    (try clear hk)
    (try clear hi)
    refine hK.out _ _ ⟨(blk_cell BK272.out 0).trans rfl, (blk_cell BK272.out 1).trans rfl, (blk_cell BK272.out 2).trans rfl, (blk_cell BK276.out 0).trans rfl, (blk_cell BK276.out 1).trans rfl⟩ (fun hHeld => ?_)
    clear hK K
    refine norm_ (a' := ?_) ?_ ?_
    rotate_left
    ·show Act.put _ (some 22) _ = _
     simp only [Act.put, List.setIfInBounds_toArray, List.set_cons_zero, List.set_cons_succ, i64_w, i32_w]
     rfl
    refine two_ (i := 5) (j := 6) (Ni := some 23) (Nj := some 9) #[true, true, true, true, true, true, false, false] #[true, true, true, true, true, false, true, false] rfl rfl rfl rfl (two_of HT_.out (by kernel_rfl)) (by decide) (by decide) (fun K hK => ?_) (fun K hK => ?_)
    ·skip
     refine goes_ Try.func65 (by kernel_rfl) rfl #[.agg #[.int .i64 a0_0, .int .u64 a0_1], .agg #[.int .i64 t277, .int .u64 t278]] (by rfl) rfl rfl (by (try simp only [List.map_toArray, List.map_cons, List.map_nil]); first | done | rfl | (simp only [List.length_drop, List.length_take]; rfl)) ?_
     with_reducible refine (sequiturref01_Plus.calls a0_0 a0_1 t277 t278 t279 t280 _ A6.out).mono ?_
     rintro e w51 ⟨rfl, hb⟩
     refine ⟨_, rfl, ?_⟩
     have n0_ := zK (blk_below (g := gb272) (o := .cells #[.int .i64 a0_0, .int .u64 a0_1, .int .u64 a0_2] 76 (0, 0)) (by (with_reducible repeat (first | refine zN ?_ _ | refine zD ?_ | refine zA ?_ _)); exact BK272.out) hb)
     have n1_ := zK (blk_below (g := gb273) (o := .cells #[.int .i64 0, .int .u64 0, .int .u64 0] 76 (0, 0)) (by (with_reducible repeat (first | refine zN ?_ _ | refine zD ?_ | refine zA ?_ _)); exact BK273.out) hb)
     have n2_ := zK (blk_below (g := gb276) (o := .cells #[.int .i64 t274, .int .u64 t275] 74 (0, 0)) (by (with_reducible repeat (first | refine zN ?_ _ | refine zD ?_ | refine zA ?_ _)); exact BK276.out) hb)
     have n3_ := zK (below_step (by repeat (first | (with_reducible first | exact HB.out | apply yA | apply yN | apply yD | refine yS ?_ GE272.out | refine yS ?_ GE273.out | refine yS ?_ GE276.out) | exact HB.out)) hb)
     clear BK272
     clear BK273
     clear BK276
     clear HB
     have BK272 := n0_
     have BK273 := n1_
     have BK276 := n2_
     have HB := n3_
     clear n0_ n1_ n2_ n3_
     (try clear hb)
     (try clear hb2)
     (try clear hk)
     (try clear hi)
     refine hK.out _ _ ⟨(blk_cell BK272.out 0).trans rfl, (blk_cell BK272.out 1).trans rfl, (blk_cell BK272.out 2).trans rfl, (blk_cell BK276.out 0).trans rfl, (blk_cell BK276.out 1).trans rfl⟩ (fun hHeld => ?_)
     clear hK K
     refine norm_ (a' := ?_) ?_ ?_
     rotate_left
     ·show Act.put _ (some 23) _ = _
      simp only [Act.put, List.setIfInBounds_toArray, List.set_cons_zero, List.set_cons_succ, i64_w, i32_w]
      rfl
     refine one_ (i := 6) (N := some 9) #[true, true, true, true, true, true, true, false] rfl rfl (one_of HT_.out (by kernel_rfl)) (by decide) (fun K hK => ?_)
     refine box_step ?hg (N := 9) ?hd (cs := #[.int .i64 0, .int .u64 0]) (t := 74) ?hr ?_; (case hd => rfl); (case hg => rfl); (case hr => first | (go_simp; done) | (go_simp; rfl))
     intro gb281 hg w52 hbox hb
     have n0_ := zK (blk_below (g := gb272) (o := .cells #[.int .i64 a0_0, .int .u64 a0_1, .int .u64 a0_2] 76 (0, 0)) (by (with_reducible repeat (first | refine zN ?_ _ | refine zD ?_ | refine zA ?_ _)); exact BK272.out) hb)
     have n1_ := zK (blk_below (g := gb273) (o := .cells #[.int .i64 0, .int .u64 0, .int .u64 0] 76 (0, 0)) (by (with_reducible repeat (first | refine zN ?_ _ | refine zD ?_ | refine zA ?_ _)); exact BK273.out) hb)
     have n2_ := zK (blk_below (g := gb276) (o := .cells #[.int .i64 t274, .int .u64 t275] 74 (0, 0)) (by (with_reducible repeat (first | refine zN ?_ _ | refine zD ?_ | refine zA ?_ _)); exact BK276.out) hb)
     have n3_ := zK (below_step (by repeat (first | (with_reducible first | exact HB.out | apply yA | apply yN | apply yD | refine yS ?_ GE272.out | refine yS ?_ GE273.out | refine yS ?_ GE276.out) | exact HB.out)) hb)
     have n4_ := zK (hbox)
     have n5_ := zK ((by rw [hg]; exact (below_size (by repeat (first | (with_reducible first | exact HB.out | apply yA | apply yN | apply yD | refine yS ?_ GE272.out | refine yS ?_ GE273.out | refine yS ?_ GE276.out) | exact HB.out))) : w.heap.size ≤ gb281))
     have n6_ := zK ((by rw [hg]; exact (below_size (by repeat (first | (with_reducible first | exact HB.out | apply yA | apply yN | apply yD | refine yS ?_ GE272.out | refine yS ?_ GE273.out | refine yS ?_ GE276.out) | exact HB.out))) : w.heap.size ≤ gb281))
     have n7_ := zK ((by rw [hg]; exact Nat.ne_of_lt (blk_lt (g := gb272) (o := .cells #[.int .i64 a0_0, .int .u64 a0_1, .int .u64 a0_2] 76 (0, 0)) (by (with_reducible repeat (first | refine zN ?_ _ | refine zD ?_ | refine zA ?_ _)); exact BK272.out)) : gb272 ≠ gb281))
     have n8_ := zK ((by rw [hg]; exact Nat.ne_of_gt (blk_lt (g := gb272) (o := .cells #[.int .i64 a0_0, .int .u64 a0_1, .int .u64 a0_2] 76 (0, 0)) (by (with_reducible repeat (first | refine zN ?_ _ | refine zD ?_ | refine zA ?_ _)); exact BK272.out)) : gb281 ≠ gb272))
     have n9_ := zK ((by rw [hg]; exact Nat.ne_of_lt (blk_lt (g := gb273) (o := .cells #[.int .i64 0, .int .u64 0, .int .u64 0] 76 (0, 0)) (by (with_reducible repeat (first | refine zN ?_ _ | refine zD ?_ | refine zA ?_ _)); exact BK273.out)) : gb273 ≠ gb281))
     have n10_ := zK ((by rw [hg]; exact Nat.ne_of_gt (blk_lt (g := gb273) (o := .cells #[.int .i64 0, .int .u64 0, .int .u64 0] 76 (0, 0)) (by (with_reducible repeat (first | refine zN ?_ _ | refine zD ?_ | refine zA ?_ _)); exact BK273.out)) : gb281 ≠ gb273))
     have n11_ := zK ((by rw [hg]; exact Nat.ne_of_lt (blk_lt (g := gb276) (o := .cells #[.int .i64 t274, .int .u64 t275] 74 (0, 0)) (by (with_reducible repeat (first | refine zN ?_ _ | refine zD ?_ | refine zA ?_ _)); exact BK276.out)) : gb276 ≠ gb281))
     have n12_ := zK ((by rw [hg]; exact Nat.ne_of_gt (blk_lt (g := gb276) (o := .cells #[.int .i64 t274, .int .u64 t275] 74 (0, 0)) (by (with_reducible repeat (first | refine zN ?_ _ | refine zD ?_ | refine zA ?_ _)); exact BK276.out)) : gb281 ≠ gb276))
     clear BK272
     clear BK273
     clear BK276
     clear HB
     have BK272 := n0_
     have BK273 := n1_
     have BK276 := n2_
     have HB := n3_
     have BK281 := n4_
     have GW281 := n5_
     have GE281 := n6_
     have NB272_281 := n7_
     have NB281_272 := n8_
     have NB273_281 := n9_
     have NB281_273 := n10_
     have NB276_281 := n11_
     have NB281_276 := n12_
     clear n0_ n1_ n2_ n3_ n4_ n5_ n6_ n7_ n8_ n9_ n10_ n11_ n12_
     clear hb hbox hg
     refine hK.out _ _ ⟨(blk_cell BK272.out 0).trans rfl, (blk_cell BK272.out 1).trans rfl, (blk_cell BK272.out 2).trans rfl, (blk_cell BK276.out 0).trans rfl, (blk_cell BK276.out 1).trans rfl⟩ (fun hHeld => ?_)
     clear hK K
     refine norm_ (a' := ?_) ?_ ?_
     rotate_left
     ·show Act.put _ (some 9) _ = _
      simp only [Act.put, List.setIfInBounds_toArray, List.set_cons_zero, List.set_cons_succ, i64_w, i32_w]
      rfl
     exact norm_ (by simp only [putAll, Act.put, List.setIfInBounds_toArray, List.set_cons_zero, List.set_cons_succ]) (hCont (gb281) _ ⟨hHeld, (by (with_reducible repeat (first | refine zN ?_ _ | refine zD ?_ | refine zA ?_ _)); exact BK272.out), (by (with_reducible repeat (first | refine zN ?_ _ | refine zD ?_ | refine zA ?_ _)); exact BK273.out), (by (with_reducible repeat (first | refine zN ?_ _ | refine zD ?_ | refine zA ?_ _)); exact BK276.out), (by (with_reducible repeat (first | refine zN ?_ _ | refine zD ?_ | refine zA ?_ _)); exact BK281.out), GW281.out, GE281.out, NB272_281.out, NB281_272.out, NB273_281.out, NB281_273.out, NB276_281.out, NB281_276.out, (by repeat (first | (with_reducible first | exact HB.out | apply yA | apply yN | apply yD | refine yS ?_ GE272.out | refine yS ?_ GE273.out | refine yS ?_ GE276.out | refine yS ?_ GE281.out) | exact HB.out))⟩)
    ·skip
     refine box_step ?hg (N := 9) ?hd (cs := #[.int .i64 0, .int .u64 0]) (t := 74) ?hr ?_; (case hd => rfl); (case hg => rfl); (case hr => first | (go_simp; done) | (go_simp; rfl))
     intro gb281 hg w51 hbox hb
     have n0_ := zK (blk_below (g := gb272) (o := .cells #[.int .i64 a0_0, .int .u64 a0_1, .int .u64 a0_2] 76 (0, 0)) (by (with_reducible repeat (first | refine zN ?_ _ | refine zD ?_ | refine zA ?_ _)); exact BK272.out) hb)
     have n1_ := zK (blk_below (g := gb273) (o := .cells #[.int .i64 0, .int .u64 0, .int .u64 0] 76 (0, 0)) (by (with_reducible repeat (first | refine zN ?_ _ | refine zD ?_ | refine zA ?_ _)); exact BK273.out) hb)
     have n2_ := zK (blk_below (g := gb276) (o := .cells #[.int .i64 t274, .int .u64 t275] 74 (0, 0)) (by (with_reducible repeat (first | refine zN ?_ _ | refine zD ?_ | refine zA ?_ _)); exact BK276.out) hb)
     have n3_ := zK (below_step (by repeat (first | (with_reducible first | exact HB.out | apply yA | apply yN | apply yD | refine yS ?_ GE272.out | refine yS ?_ GE273.out | refine yS ?_ GE276.out) | exact HB.out)) hb)
     have n4_ := zK (hbox)
     have n5_ := zK ((by rw [hg]; exact (below_size (by repeat (first | (with_reducible first | exact HB.out | apply yA | apply yN | apply yD | refine yS ?_ GE272.out | refine yS ?_ GE273.out | refine yS ?_ GE276.out) | exact HB.out))) : w.heap.size ≤ gb281))
     have n6_ := zK ((by rw [hg]; exact (below_size (by repeat (first | (with_reducible first | exact HB.out | apply yA | apply yN | apply yD | refine yS ?_ GE272.out | refine yS ?_ GE273.out | refine yS ?_ GE276.out) | exact HB.out))) : w.heap.size ≤ gb281))
     have n7_ := zK ((by rw [hg]; exact Nat.ne_of_lt (blk_lt (g := gb272) (o := .cells #[.int .i64 a0_0, .int .u64 a0_1, .int .u64 a0_2] 76 (0, 0)) (by (with_reducible repeat (first | refine zN ?_ _ | refine zD ?_ | refine zA ?_ _)); exact BK272.out)) : gb272 ≠ gb281))
     have n8_ := zK ((by rw [hg]; exact Nat.ne_of_gt (blk_lt (g := gb272) (o := .cells #[.int .i64 a0_0, .int .u64 a0_1, .int .u64 a0_2] 76 (0, 0)) (by (with_reducible repeat (first | refine zN ?_ _ | refine zD ?_ | refine zA ?_ _)); exact BK272.out)) : gb281 ≠ gb272))
     have n9_ := zK ((by rw [hg]; exact Nat.ne_of_lt (blk_lt (g := gb273) (o := .cells #[.int .i64 0, .int .u64 0, .int .u64 0] 76 (0, 0)) (by (with_reducible repeat (first | refine zN ?_ _ | refine zD ?_ | refine zA ?_ _)); exact BK273.out)) : gb273 ≠ gb281))
     have n10_ := zK ((by rw [hg]; exact Nat.ne_of_gt (blk_lt (g := gb273) (o := .cells #[.int .i64 0, .int .u64 0, .int .u64 0] 76 (0, 0)) (by (with_reducible repeat (first | refine zN ?_ _ | refine zD ?_ | refine zA ?_ _)); exact BK273.out)) : gb281 ≠ gb273))
     have n11_ := zK ((by rw [hg]; exact Nat.ne_of_lt (blk_lt (g := gb276) (o := .cells #[.int .i64 t274, .int .u64 t275] 74 (0, 0)) (by (with_reducible repeat (first | refine zN ?_ _ | refine zD ?_ | refine zA ?_ _)); exact BK276.out)) : gb276 ≠ gb281))
     have n12_ := zK ((by rw [hg]; exact Nat.ne_of_gt (blk_lt (g := gb276) (o := .cells #[.int .i64 t274, .int .u64 t275] 74 (0, 0)) (by (with_reducible repeat (first | refine zN ?_ _ | refine zD ?_ | refine zA ?_ _)); exact BK276.out)) : gb281 ≠ gb276))
     clear BK272
     clear BK273
     clear BK276
     clear HB
     have BK272 := n0_
     have BK273 := n1_
     have BK276 := n2_
     have HB := n3_
     have BK281 := n4_
     have GW281 := n5_
     have GE281 := n6_
     have NB272_281 := n7_
     have NB281_272 := n8_
     have NB273_281 := n9_
     have NB281_273 := n10_
     have NB276_281 := n11_
     have NB281_276 := n12_
     clear n0_ n1_ n2_ n3_ n4_ n5_ n6_ n7_ n8_ n9_ n10_ n11_ n12_
     clear hb hbox hg
     refine hK.out _ _ ⟨(blk_cell BK272.out 0).trans rfl, (blk_cell BK272.out 1).trans rfl, (blk_cell BK272.out 2).trans rfl, (blk_cell BK276.out 0).trans rfl, (blk_cell BK276.out 1).trans rfl⟩ (fun hHeld => ?_)
     clear hK K
     refine norm_ (a' := ?_) ?_ ?_
     rotate_left
     ·show Act.put _ (some 9) _ = _
      simp only [Act.put, List.setIfInBounds_toArray, List.set_cons_zero, List.set_cons_succ, i64_w, i32_w]
      rfl
     refine one_ (i := 5) (N := some 23) #[true, true, true, true, true, true, true, false] rfl rfl (one_of HT_.out (by kernel_rfl)) (by decide) (fun K hK => ?_)
     refine goes_ Try.func65 (by kernel_rfl) rfl #[.agg #[.int .i64 a0_0, .int .u64 a0_1], .agg #[.int .i64 t277, .int .u64 t278]] (by rfl) rfl rfl (by (try simp only [List.map_toArray, List.map_cons, List.map_nil]); first | done | rfl | (simp only [List.length_drop, List.length_take]; rfl)) ?_
     with_reducible refine (sequiturref01_Plus.calls a0_0 a0_1 t277 t278 t279 t280 _ A6.out).mono ?_
     rintro e w52 ⟨rfl, hb⟩
     refine ⟨_, rfl, ?_⟩
     have n0_ := zK (blk_below (g := gb272) (o := .cells #[.int .i64 a0_0, .int .u64 a0_1, .int .u64 a0_2] 76 (0, 0)) (by (with_reducible repeat (first | refine zN ?_ _ | refine zD ?_ | refine zA ?_ _)); exact BK272.out) hb)
     have n1_ := zK (blk_below (g := gb273) (o := .cells #[.int .i64 0, .int .u64 0, .int .u64 0] 76 (0, 0)) (by (with_reducible repeat (first | refine zN ?_ _ | refine zD ?_ | refine zA ?_ _)); exact BK273.out) hb)
     have n2_ := zK (blk_below (g := gb276) (o := .cells #[.int .i64 t274, .int .u64 t275] 74 (0, 0)) (by (with_reducible repeat (first | refine zN ?_ _ | refine zD ?_ | refine zA ?_ _)); exact BK276.out) hb)
     have n3_ := zK (blk_below (g := gb281) (o := .cells #[.int .i64 0, .int .u64 0] 74 (0, 0)) (by (with_reducible repeat (first | refine zN ?_ _ | refine zD ?_ | refine zA ?_ _)); exact BK281.out) hb)
     have n4_ := zK (below_step (by repeat (first | (with_reducible first | exact HB.out | apply yA | apply yN | apply yD | refine yS ?_ GE272.out | refine yS ?_ GE273.out | refine yS ?_ GE276.out | refine yS ?_ GE281.out) | exact HB.out)) hb)
     clear BK272
     clear BK273
     clear BK276
     clear BK281
     clear HB
     have BK272 := n0_
     have BK273 := n1_
     have BK276 := n2_
     have BK281 := n3_
     have HB := n4_
     clear n0_ n1_ n2_ n3_ n4_
     (try clear hb)
     (try clear hb2)
     (try clear hk)
     (try clear hi)
     refine hK.out _ _ ⟨(blk_cell BK272.out 0).trans rfl, (blk_cell BK272.out 1).trans rfl, (blk_cell BK272.out 2).trans rfl, (blk_cell BK276.out 0).trans rfl, (blk_cell BK276.out 1).trans rfl⟩ (fun hHeld => ?_)
     clear hK K
     refine norm_ (a' := ?_) ?_ ?_
     rotate_left
     ·show Act.put _ (some 23) _ = _
      simp only [Act.put, List.setIfInBounds_toArray, List.set_cons_zero, List.set_cons_succ, i64_w, i32_w]
      rfl
     exact norm_ (by simp only [putAll, Act.put, List.setIfInBounds_toArray, List.set_cons_zero, List.set_cons_succ]) (hCont (gb281) _ ⟨hHeld, (by (with_reducible repeat (first | refine zN ?_ _ | refine zD ?_ | refine zA ?_ _)); exact BK272.out), (by (with_reducible repeat (first | refine zN ?_ _ | refine zD ?_ | refine zA ?_ _)); exact BK273.out), (by (with_reducible repeat (first | refine zN ?_ _ | refine zD ?_ | refine zA ?_ _)); exact BK276.out), (by (with_reducible repeat (first | refine zN ?_ _ | refine zD ?_ | refine zA ?_ _)); exact BK281.out), GW281.out, GE281.out, NB272_281.out, NB281_272.out, NB273_281.out, NB281_273.out, NB276_281.out, NB281_276.out, (by repeat (first | (with_reducible first | exact HB.out | apply yA | apply yN | apply yD | refine yS ?_ GE272.out | refine yS ?_ GE273.out | refine yS ?_ GE276.out | refine yS ?_ GE281.out) | exact HB.out))⟩)
   ·skip
    refine box_step ?hg (N := 9) ?hd (cs := #[.int .i64 0, .int .u64 0]) (t := 74) ?hr ?_; (case hd => rfl); (case hg => rfl); (case hr => first | (go_simp; done) | (go_simp; rfl))
    intro gb281 hg w50 hbox hb
    have n0_ := zK (blk_below (g := gb272) (o := .cells #[.int .i64 a0_0, .int .u64 a0_1, .int .u64 a0_2] 76 (0, 0)) (by (with_reducible repeat (first | refine zN ?_ _ | refine zD ?_ | refine zA ?_ _)); exact BK272.out) hb)
    have n1_ := zK (blk_below (g := gb273) (o := .cells #[.int .i64 0, .int .u64 0, .int .u64 0] 76 (0, 0)) (by (with_reducible repeat (first | refine zN ?_ _ | refine zD ?_ | refine zA ?_ _)); exact BK273.out) hb)
    have n2_ := zK (blk_below (g := gb276) (o := .cells #[.int .i64 t274, .int .u64 t275] 74 (0, 0)) (by (with_reducible repeat (first | refine zN ?_ _ | refine zD ?_ | refine zA ?_ _)); exact BK276.out) hb)
    have n3_ := zK (below_step (by repeat (first | (with_reducible first | exact HB.out | apply yA | apply yN | apply yD | refine yS ?_ GE272.out | refine yS ?_ GE273.out | refine yS ?_ GE276.out) | exact HB.out)) hb)
    have n4_ := zK (hbox)
    have n5_ := zK ((by rw [hg]; exact (below_size (by repeat (first | (with_reducible first | exact HB.out | apply yA | apply yN | apply yD | refine yS ?_ GE272.out | refine yS ?_ GE273.out | refine yS ?_ GE276.out) | exact HB.out))) : w.heap.size ≤ gb281))
    have n6_ := zK ((by rw [hg]; exact (below_size (by repeat (first | (with_reducible first | exact HB.out | apply yA | apply yN | apply yD | refine yS ?_ GE272.out | refine yS ?_ GE273.out | refine yS ?_ GE276.out) | exact HB.out))) : w.heap.size ≤ gb281))
    have n7_ := zK ((by rw [hg]; exact Nat.ne_of_lt (blk_lt (g := gb272) (o := .cells #[.int .i64 a0_0, .int .u64 a0_1, .int .u64 a0_2] 76 (0, 0)) (by (with_reducible repeat (first | refine zN ?_ _ | refine zD ?_ | refine zA ?_ _)); exact BK272.out)) : gb272 ≠ gb281))
    have n8_ := zK ((by rw [hg]; exact Nat.ne_of_gt (blk_lt (g := gb272) (o := .cells #[.int .i64 a0_0, .int .u64 a0_1, .int .u64 a0_2] 76 (0, 0)) (by (with_reducible repeat (first | refine zN ?_ _ | refine zD ?_ | refine zA ?_ _)); exact BK272.out)) : gb281 ≠ gb272))
    have n9_ := zK ((by rw [hg]; exact Nat.ne_of_lt (blk_lt (g := gb273) (o := .cells #[.int .i64 0, .int .u64 0, .int .u64 0] 76 (0, 0)) (by (with_reducible repeat (first | refine zN ?_ _ | refine zD ?_ | refine zA ?_ _)); exact BK273.out)) : gb273 ≠ gb281))
    have n10_ := zK ((by rw [hg]; exact Nat.ne_of_gt (blk_lt (g := gb273) (o := .cells #[.int .i64 0, .int .u64 0, .int .u64 0] 76 (0, 0)) (by (with_reducible repeat (first | refine zN ?_ _ | refine zD ?_ | refine zA ?_ _)); exact BK273.out)) : gb281 ≠ gb273))
    have n11_ := zK ((by rw [hg]; exact Nat.ne_of_lt (blk_lt (g := gb276) (o := .cells #[.int .i64 t274, .int .u64 t275] 74 (0, 0)) (by (with_reducible repeat (first | refine zN ?_ _ | refine zD ?_ | refine zA ?_ _)); exact BK276.out)) : gb276 ≠ gb281))
    have n12_ := zK ((by rw [hg]; exact Nat.ne_of_gt (blk_lt (g := gb276) (o := .cells #[.int .i64 t274, .int .u64 t275] 74 (0, 0)) (by (with_reducible repeat (first | refine zN ?_ _ | refine zD ?_ | refine zA ?_ _)); exact BK276.out)) : gb281 ≠ gb276))
    clear BK272
    clear BK273
    clear BK276
    clear HB
    have BK272 := n0_
    have BK273 := n1_
    have BK276 := n2_
    have HB := n3_
    have BK281 := n4_
    have GW281 := n5_
    have GE281 := n6_
    have NB272_281 := n7_
    have NB281_272 := n8_
    have NB273_281 := n9_
    have NB281_273 := n10_
    have NB276_281 := n11_
    have NB281_276 := n12_
    clear n0_ n1_ n2_ n3_ n4_ n5_ n6_ n7_ n8_ n9_ n10_ n11_ n12_
    clear hb hbox hg
    refine hK.out _ _ ⟨(blk_cell BK272.out 0).trans rfl, (blk_cell BK272.out 1).trans rfl, (blk_cell BK272.out 2).trans rfl, (blk_cell BK276.out 0).trans rfl, (blk_cell BK276.out 1).trans rfl⟩ (fun hHeld => ?_)
    clear hK K
    refine norm_ (a' := ?_) ?_ ?_
    rotate_left
    ·show Act.put _ (some 9) _ = _
     simp only [Act.put, List.setIfInBounds_toArray, List.set_cons_zero, List.set_cons_succ, i64_w, i32_w]
     rfl
    refine one_ (i := 4) (N := some 22) #[true, true, true, true, true, false, true, false] rfl rfl (one_of HT_.out (by kernel_rfl)) (by decide) (fun K hK => ?_)
    refine goes_ Try.func66 (by kernel_rfl) rfl #[.int .i64 t274] (by rfl) rfl rfl (by (try simp only [List.map_toArray, List.map_cons, List.map_nil]); first | done | rfl | (simp only [List.length_drop, List.length_take]; rfl)) ?_
    with_reducible refine (sequiturref01_Of.calls t274 t277 t278 _ A5.out).mono ?_
    rintro e w51 ⟨rfl, hb⟩
    refine ⟨_, rfl, ?_⟩
    have n0_ := zK (blk_below (g := gb272) (o := .cells #[.int .i64 a0_0, .int .u64 a0_1, .int .u64 a0_2] 76 (0, 0)) (by (with_reducible repeat (first | refine zN ?_ _ | refine zD ?_ | refine zA ?_ _)); exact BK272.out) hb)
    have n1_ := zK (blk_below (g := gb273) (o := .cells #[.int .i64 0, .int .u64 0, .int .u64 0] 76 (0, 0)) (by (with_reducible repeat (first | refine zN ?_ _ | refine zD ?_ | refine zA ?_ _)); exact BK273.out) hb)
    have n2_ := zK (blk_below (g := gb276) (o := .cells #[.int .i64 t274, .int .u64 t275] 74 (0, 0)) (by (with_reducible repeat (first | refine zN ?_ _ | refine zD ?_ | refine zA ?_ _)); exact BK276.out) hb)
    have n3_ := zK (blk_below (g := gb281) (o := .cells #[.int .i64 0, .int .u64 0] 74 (0, 0)) (by (with_reducible repeat (first | refine zN ?_ _ | refine zD ?_ | refine zA ?_ _)); exact BK281.out) hb)
    have n4_ := zK (below_step (by repeat (first | (with_reducible first | exact HB.out | apply yA | apply yN | apply yD | refine yS ?_ GE272.out | refine yS ?_ GE273.out | refine yS ?_ GE276.out | refine yS ?_ GE281.out) | exact HB.out)) hb)
    clear BK272
    clear BK273
    clear BK276
    clear BK281
    clear HB
    have BK272 := n0_
    have BK273 := n1_
    have BK276 := n2_
    have BK281 := n3_
    have HB := n4_
    clear n0_ n1_ n2_ n3_ n4_
    (try clear hb)
    (try clear hb2)
    (try clear hk)
    (try clear hi)
    refine hK.out _ _ ⟨(blk_cell BK272.out 0).trans rfl, (blk_cell BK272.out 1).trans rfl, (blk_cell BK272.out 2).trans rfl, (blk_cell BK276.out 0).trans rfl, (blk_cell BK276.out 1).trans rfl⟩ (fun hHeld => ?_)
    clear hK K
    refine norm_ (a' := ?_) ?_ ?_
    rotate_left
    ·show Act.put _ (some 22) _ = _
     simp only [Act.put, List.setIfInBounds_toArray, List.set_cons_zero, List.set_cons_succ, i64_w, i32_w]
     rfl
    refine one_ (i := 5) (N := some 23) #[true, true, true, true, true, true, true, false] rfl rfl (one_of HT_.out (by kernel_rfl)) (by decide) (fun K hK => ?_)
    refine goes_ Try.func65 (by kernel_rfl) rfl #[.agg #[.int .i64 a0_0, .int .u64 a0_1], .agg #[.int .i64 t277, .int .u64 t278]] (by rfl) rfl rfl (by (try simp only [List.map_toArray, List.map_cons, List.map_nil]); first | done | rfl | (simp only [List.length_drop, List.length_take]; rfl)) ?_
    with_reducible refine (sequiturref01_Plus.calls a0_0 a0_1 t277 t278 t279 t280 _ A6.out).mono ?_
    rintro e w52 ⟨rfl, hb⟩
    refine ⟨_, rfl, ?_⟩
    have n0_ := zK (blk_below (g := gb272) (o := .cells #[.int .i64 a0_0, .int .u64 a0_1, .int .u64 a0_2] 76 (0, 0)) (by (with_reducible repeat (first | refine zN ?_ _ | refine zD ?_ | refine zA ?_ _)); exact BK272.out) hb)
    have n1_ := zK (blk_below (g := gb273) (o := .cells #[.int .i64 0, .int .u64 0, .int .u64 0] 76 (0, 0)) (by (with_reducible repeat (first | refine zN ?_ _ | refine zD ?_ | refine zA ?_ _)); exact BK273.out) hb)
    have n2_ := zK (blk_below (g := gb276) (o := .cells #[.int .i64 t274, .int .u64 t275] 74 (0, 0)) (by (with_reducible repeat (first | refine zN ?_ _ | refine zD ?_ | refine zA ?_ _)); exact BK276.out) hb)
    have n3_ := zK (blk_below (g := gb281) (o := .cells #[.int .i64 0, .int .u64 0] 74 (0, 0)) (by (with_reducible repeat (first | refine zN ?_ _ | refine zD ?_ | refine zA ?_ _)); exact BK281.out) hb)
    have n4_ := zK (below_step (by repeat (first | (with_reducible first | exact HB.out | apply yA | apply yN | apply yD | refine yS ?_ GE272.out | refine yS ?_ GE273.out | refine yS ?_ GE276.out | refine yS ?_ GE281.out) | exact HB.out)) hb)
    clear BK272
    clear BK273
    clear BK276
    clear BK281
    clear HB
    have BK272 := n0_
    have BK273 := n1_
    have BK276 := n2_
    have BK281 := n3_
    have HB := n4_
    clear n0_ n1_ n2_ n3_ n4_
    (try clear hb)
    (try clear hb2)
    (try clear hk)
    (try clear hi)
    refine hK.out _ _ ⟨(blk_cell BK272.out 0).trans rfl, (blk_cell BK272.out 1).trans rfl, (blk_cell BK272.out 2).trans rfl, (blk_cell BK276.out 0).trans rfl, (blk_cell BK276.out 1).trans rfl⟩ (fun hHeld => ?_)
    clear hK K
    refine norm_ (a' := ?_) ?_ ?_
    rotate_left
    ·show Act.put _ (some 23) _ = _
     simp only [Act.put, List.setIfInBounds_toArray, List.set_cons_zero, List.set_cons_succ, i64_w, i32_w]
     rfl
    exact norm_ (by simp only [putAll, Act.put, List.setIfInBounds_toArray, List.set_cons_zero, List.set_cons_succ]) (hCont (gb281) _ ⟨hHeld, (by (with_reducible repeat (first | refine zN ?_ _ | refine zD ?_ | refine zA ?_ _)); exact BK272.out), (by (with_reducible repeat (first | refine zN ?_ _ | refine zD ?_ | refine zA ?_ _)); exact BK273.out), (by (with_reducible repeat (first | refine zN ?_ _ | refine zD ?_ | refine zA ?_ _)); exact BK276.out), (by (with_reducible repeat (first | refine zN ?_ _ | refine zD ?_ | refine zA ?_ _)); exact BK281.out), GW281.out, GE281.out, NB272_281.out, NB281_272.out, NB273_281.out, NB281_273.out, NB276_281.out, NB281_276.out, (by repeat (first | (with_reducible first | exact HB.out | apply yA | apply yN | apply yD | refine yS ?_ GE272.out | refine yS ?_ GE273.out | refine yS ?_ GE276.out | refine yS ?_ GE281.out) | exact HB.out))⟩)
  rintro gb281 w53 ⟨hS_, h0_, h1_, h2_, h3_, h4_, h5_, h6_, h7_, h8_, h9_, h10_, h11_, h12_⟩
  have n0_ : Aside0 (w53.heap[gb272]? = some (.cells #[.int .i64 a0_0, .int .u64 a0_1, .int .u64 a0_2] 76 (0, 0))) := ⟨h0_⟩
  have n1_ : Aside0 (w53.heap[gb273]? = some (.cells #[.int .i64 0, .int .u64 0, .int .u64 0] 76 (0, 0))) := ⟨h1_⟩
  have n2_ : Aside0 (w53.heap[gb276]? = some (.cells #[.int .i64 t274, .int .u64 t275] 74 (0, 0))) := ⟨h2_⟩
  have n3_ : Aside0 (w53.heap[gb281]? = some (.cells #[.int .i64 0, .int .u64 0] 74 (0, 0))) := ⟨h3_⟩
  have n4_ : Aside0 (w.heap.size ≤ gb281) := ⟨h4_⟩
  have n5_ : Aside0 (w.heap.size ≤ gb281) := ⟨h5_⟩
  have n6_ : Aside0 (gb272 ≠ gb281) := ⟨h6_⟩
  have n7_ : Aside0 (gb281 ≠ gb272) := ⟨h7_⟩
  have n8_ : Aside0 (gb273 ≠ gb281) := ⟨h8_⟩
  have n9_ : Aside0 (gb281 ≠ gb273) := ⟨h9_⟩
  have n10_ : Aside0 (gb276 ≠ gb281) := ⟨h10_⟩
  have n11_ : Aside0 (gb281 ≠ gb276) := ⟨h11_⟩
  have n12_ : Aside0 (Below w.heap.size w w53) := ⟨h12_⟩
  clear BK272
  clear BK273
  clear BK276
  clear HB
  clear h0_ h1_ h2_ h3_ h4_ h5_ h6_ h7_ h8_ h9_ h10_ h11_ h12_
  have BK272 := n0_
  have BK273 := n1_
  have BK276 := n2_
  have BK281 := n3_
  have GW281 := n4_
  have GE281 := n5_
  have NB272_281 := n6_
  have NB281_272 := n7_
  have NB273_281 := n8_
  have NB281_273 := n9_
  have NB276_281 := n10_
  have NB281_276 := n11_
  have HB := n12_
  clear n0_ n1_ n2_ n3_ n4_ n5_ n6_ n7_ n8_ n9_ n10_ n11_ n12_
  have hHeld : w53.cell? ⟨gb272, 0, none⟩ = some (.int .i64 a0_0) ∧ w53.cell? ⟨gb272, 1, none⟩ = some (.int .u64 a0_1) ∧ w53.cell? ⟨gb272, 2, none⟩ = some (.int .u64 a0_2) ∧ w53.cell? ⟨gb276, 0, none⟩ = some (.int .i64 t274) ∧ w53.cell? ⟨gb276, 1, none⟩ = some (.int .u64 t275) := hS_
  refine norm_ (a' := ?_) ?_ ?_
  rotate_left
  ·simp only [putAll, Act.put, List.setIfInBounds_toArray, List.set_cons_zero, List.set_cons_succ]
   rfl
  refine one_ (i := 7) (N := none) #[true, true, true, true, true, true, true, true] rfl rfl (one_of HT_.out (by kernel_rfl)) (by decide) (fun K hK => ?_)
  have hs54 : w53.cell? ⟨gb281, 0, none⟩ = some (.int .i64 0) := (blk_cell BK281.out 0).trans rfl
  have hfs54 := blk_frozen BK281.out 0
  have hns54_0 := NB272_281.out
  have hns54_1 := NB273_281.out
  have hns54_2 := NB276_281.out
  have hms54_0 := NB281_272.out
  have hms54_1 := NB281_273.out
  have hms54_2 := NB281_276.out
  have hs55 : w53.cell? ⟨gb281, 1, none⟩ = some (.int .u64 0) := (blk_cell BK281.out 1).trans rfl
  have hfs55 := blk_frozen BK281.out 1
  have hns55_0 := NB272_281.out
  have hns55_1 := NB273_281.out
  have hns55_2 := NB276_281.out
  have hms55_0 := NB281_272.out
  have hms55_1 := NB281_273.out
  have hms55_2 := NB281_276.out
  refine skip_ (w1 := ?_) (by rfl) rfl ?_ ?_
  rotate_left
  ·go_simp
   rfl
  refine hK.out _ _ ⟨((cell_far (p := ⟨gb281, _, none⟩) NB272_281.out _).trans (((cell_far (p := ⟨gb281, _, none⟩) NB272_281.out _).trans (hHeld.1)))), ((cell_far (p := ⟨gb281, _, none⟩) NB272_281.out _).trans (((cell_far (p := ⟨gb281, _, none⟩) NB272_281.out _).trans (hHeld.2.1)))), ((cell_far (p := ⟨gb281, _, none⟩) NB272_281.out _).trans (((cell_far (p := ⟨gb281, _, none⟩) NB272_281.out _).trans (hHeld.2.2.1)))), ((cell_far (p := ⟨gb281, _, none⟩) NB276_281.out _).trans (((cell_far (p := ⟨gb281, _, none⟩) NB276_281.out _).trans (hHeld.2.2.2.1)))), ((cell_far (p := ⟨gb281, _, none⟩) NB276_281.out _).trans (((cell_far (p := ⟨gb281, _, none⟩) NB276_281.out _).trans (hHeld.2.2.2.2))))⟩ (fun hHeld => ?_)
  clear hK K
  refine done_ (done_of HT_.out (by kernel_rfl)) ?_
  have hnb56 := NB272_281.out
  have hnc56 := NB281_272.out
  have hcz57_0 : w53.cell? ⟨gb272, 0, none⟩ = some (.int .i64 a0_0) := (blk_cell BK272.out 0).trans rfl
  have hcz57_1 : w53.cell? ⟨gb272, 1, none⟩ = some (.int .u64 a0_1) := (blk_cell BK272.out 1).trans rfl
  have hcz57_2 : w53.cell? ⟨gb272, 2, none⟩ = some (.int .u64 a0_2) := (blk_cell BK272.out 2).trans rfl
  have hfz57_0 := blk_frozen BK272.out 0
  have hfz57_1 := blk_frozen BK272.out 1
  have hfz57_2 := blk_frozen BK272.out 2
  have hnb58 := NB281_273.out
  have hnc58 := NB273_281.out
  have hnb59 := NB281_276.out
  have hnc59 := NB276_281.out
  have hcz60_0 : w53.cell? ⟨gb281, 0, none⟩ = some (.int .i64 0) := (blk_cell BK281.out 0).trans rfl
  have hcz60_1 : w53.cell? ⟨gb281, 1, none⟩ = some (.int .u64 0) := (blk_cell BK281.out 1).trans rfl
  have hfz60_0 := blk_frozen BK281.out 0
  have hfz60_1 := blk_frozen BK281.out 1
  have hcz61_0 : w53.cell? ⟨gb273, 0, none⟩ = some (.int .i64 0) := (blk_cell BK273.out 0).trans rfl
  have hcz61_1 : w53.cell? ⟨gb273, 1, none⟩ = some (.int .u64 0) := (blk_cell BK273.out 1).trans rfl
  have hcz61_2 : w53.cell? ⟨gb273, 2, none⟩ = some (.int .u64 0) := (blk_cell BK273.out 2).trans rfl
  have hfz61_0 := blk_frozen BK273.out 0
  have hfz61_1 := blk_frozen BK273.out 1
  have hfz61_2 := blk_frozen BK273.out 2
  try go_wp2
  refine bodyPost_ret (results_cell_row rfl _ _ gb273 76 #[.int .i64 t279, .int .u64 t280, .int .u64 (IntKind.u64.wrap (a0_2 + t275))] (0, 0) _ rfl (by (with_reducible repeat (first | refine zN ?_ _ | refine zD ?_ | refine zA ?_ _)); refine blk_put (cs := #[.int .i64 t279, .int .u64 t280, .int .u64 0]) ?_ 2 _ rfl; (with_reducible repeat (first | refine zN ?_ _ | refine zD ?_ | refine zA ?_ _)); refine blk_put (cs := #[.int .i64 t279, .int .u64 0, .int .u64 0]) ?_ 1 _ rfl; (with_reducible repeat (first | refine zN ?_ _ | refine zD ?_ | refine zA ?_ _)); refine blk_put (cs := #[.int .i64 0, .int .u64 0, .int .u64 0]) ?_ 0 _ rfl; (with_reducible repeat (first | refine zN ?_ _ | refine zD ?_ | refine zA ?_ _)); refine blk_far ?_ NB273_281.out _; (with_reducible repeat (first | refine zN ?_ _ | refine zD ?_ | refine zA ?_ _)); refine blk_far ?_ NB273_281.out _; (with_reducible repeat (first | refine zN ?_ _ | refine zD ?_ | refine zA ?_ _)); exact BK273.out) Try.underlying76 rfl (by kernel_rfl)) rfl ?_
  exact ⟨by first | rfl | (simp [errW_none, errW_some] <;> rfl) | (simp [*, errW_none, errW_some] <;> rfl), by repeat (first | (with_reducible first | exact HB.out | apply yA | apply yN | apply yD | refine yS ?_ GE272.out | refine yS ?_ GE273.out | refine yS ?_ GE276.out | refine yS ?_ GE281.out) | exact HB.out)⟩

end Go.Proofs.Ytmedciidghmkkaa.PIneqSums
