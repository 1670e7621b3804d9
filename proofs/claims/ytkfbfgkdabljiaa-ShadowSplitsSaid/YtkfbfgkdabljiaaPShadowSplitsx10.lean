/- What the call of each function that the law reaches comes to: it answers as the plain function of the same name does, wherever that one answers; and the law itself out of its plain form. Written by a program of this session (an extended copy of the printer); no condition but what stands in each theorem. -/
import Derived.Test.YtkfbfgkdabljiaaPShadowSplitsx0
import Derived.Test.YtkfbfgkdabljiaaPShadowSplitsx9
namespace Go.Proofs.Ytkfbfgkdabljiaa.PShadowSplits
open Go.RowKit Go.Proofs.YtkfbfgkdabljiaaW.PrintWords Go.Proofs.YtkfbfgkdabljiaaW.PrintLast Go.Proofs.YtkfbfgkdabljiaaW.PrintMore
open Go.Proofs.YtkfbfgkdabljiaaW.PrintWords renaming blk_drewN → zN, blk_drew → zD, blk_alloc → zA, below_alloc → yA, pw_below_drewN → yN, below_drew1 → yD, below_set → yS, gate_callee → zC
open Go.Proofs.YtkfbfgkdabljiaaW.PrintWords.Aside0 renaming mk → zK
open Bool renaming true → T_, false → F_
open List renaming setIfInBounds_toArray → zt, set_cons_zero → zz, set_cons_succ → zs
attribute [local go_sem] max2_int min2_int max_two min_two max_three min_three max_four min_four   -- for this text's walks alone
set_option linter.unusedVariables false
set_option linter.unusedSimpArgs false

/-! ### sequiturref01_Div: function 67 -/
def sequiturref01_Div.f (a0 : Int) (a1 : Int) : Option (Int × Bool) := if a1 = 0 then (some (0, false)) else (if a1 = (-1) then ((sequiturref01_Neg.f a0).bind fun bt309 => (some (bt309.1, bt309.2))) else (if (Int.tmod a0 a1) = 0 then (some (wrap64 (Int.tdiv a0 a1), true)) else (if ((decide (a0 < 0)) != (decide (a1 < 0))) = true then (some (wrap64 ((wrap64 (Int.tdiv a0 a1)) - 1), true)) else (some (wrap64 (Int.tdiv a0 a1), true)))))
set_option maxHeartbeats 8000000 in
set_option maxRecDepth 100000 in
theorem sequiturref01_Div.calls (a0 : Int) (a1 : Int) (r1 : Int) (r2 : Bool) (w : World) (h : sequiturref01_Div.f a0 a1 = some (r1, r2)) :
  Calls Try.prog 67 #[.int .i64 a0, .int .i64 a1] w fun e w' => e = .returned (.tuple #[.int .i64 r1, .bool r2]) ∧ Below w.heap.size w w' := by
 have HB := zK (Below.refl w.heap.size w)
 have H : (if a1 = 0 then (some (0, false)) else (if a1 = (-1) then ((sequiturref01_Neg.f a0).bind fun bt309 => (some (bt309.1, bt309.2))) else (if (Int.tmod a0 a1) = 0 then (some (wrap64 (Int.tdiv a0 a1), true)) else (if ((decide (a0 < 0)) != (decide (a1 < 0))) = true then (some (wrap64 ((wrap64 (Int.tdiv a0 a1)) - 1), true)) else (some (wrap64 (Int.tdiv a0 a1), true)))))) = some (r1, r2) := h
 clear h
 by_cases c3 : a1 = 0
 ·rw [if_pos c3] at H
  have c3b0 : (a1 == 0) = true := beq_iff_eq.mpr c3
  have c3b1 : (a1 != 0) = false := bne_eq_false_iff_eq.mpr c3; clear c3
  simp only [Option.some.injEq, Prod.mk.injEq] at H
  obtain ⟨rfl, rfl⟩ := H
  go_enter Try.func67, Try.ntmps67
  go_wp2
  go_ret2
  exact ⟨by first | rfl | (simp [errW_none, errW_some] <;> rfl) | (simp [*, errW_none, errW_some] <;> rfl), zo HB⟩
 ·rw [if_neg c3] at H
  have c3b0 : (a1 == 0) = false := beq_eq_false_iff_ne.mpr c3
  have c3b1 : (a1 != 0) = true := bne_iff_ne.mpr c3
  by_cases c4 : a1 = (-1)
  ·rw [if_pos c4] at H
   have c4b0 : (a1 == (-1)) = true := beq_iff_eq.mpr c4
   have c4b1 : (a1 != (-1)) = false := bne_eq_false_iff_eq.mpr c4; clear c4
   replace H := Option.bind_eq_some_iff.mp H
   obtain ⟨⟨t309, t310⟩, A50, H⟩ := H
   replace H : (some (t309, t310)) = some (r1, r2) := H
   have A5 := zK A50; clear A50
   simp only [Option.some.injEq, Prod.mk.injEq] at H
   obtain ⟨rfl, rfl⟩ := H
   go_enter Try.func67, Try.ntmps67
   go_wp2_with (first | ((with_reducible refine zC (f := 93) rfl ?_); refine goesL_ (some 12) rfl rfl Try.func93 (by kernel_rfl) rfl #[.int .i64 a0] rfl (by (try simp only [List.map_toArray, List.map_cons, List.map_nil]); first | done | rfl | (simp only [List.length_drop, List.length_take]; rfl)) ?_; (with_reducible refine (sequiturref01_Neg.calls a0 t309 t310 _ A5.out).mono ?_); rintro e w6 ⟨rfl, hb⟩; refine ⟨_, rfl, ?_⟩; replace HB := zK (below_step (zo HB) hb); (try clear hb); (try clear hb2); (try clear hk); (try clear hi)))
   go_ret2
   exact ⟨by first | rfl | (simp [errW_none, errW_some] <;> rfl) | (simp [*, errW_none, errW_some] <;> rfl), zo HB⟩
  ·rw [if_neg c4] at H
   have c4b0 : (a1 == (-1)) = false := beq_eq_false_iff_ne.mpr c4
   have c4b1 : (a1 != (-1)) = true := bne_iff_ne.mpr c4
   by_cases c7 : (Int.tmod a0 a1) = 0
   ·rw [if_pos c7] at H
    have c7b0 : ((Int.tmod a0 a1) == 0) = true := beq_iff_eq.mpr c7
    have c7b1 : ((Int.tmod a0 a1) != 0) = false := bne_eq_false_iff_eq.mpr c7
    clear c7
    simp only [Option.some.injEq, Prod.mk.injEq] at H
    obtain ⟨rfl, rfl⟩ := H
    go_enter Try.func67, Try.ntmps67
    go_wp2
    go_ret2
    exact ⟨by first | rfl | (simp [errW_none, errW_some] <;> rfl) | (simp [*, errW_none, errW_some] <;> rfl), zo HB⟩
   ·rw [if_neg c7] at H
    have c7b0 : ((Int.tmod a0 a1) == 0) = false := beq_eq_false_iff_ne.mpr c7
    have c7b1 : ((Int.tmod a0 a1) != 0) = true := bne_iff_ne.mpr c7
    by_cases c8 : ((decide (a0 < 0)) != (decide (a1 < 0))) = true
    ·rw [if_pos c8] at H
     have c8b0 : ((decide (a0 < 0)) != (decide (a1 < 0))) = true := c8
     (try (have c8b1 : decide ((decide (a0 < 0)) = (decide (a1 < 0))) = false := by simpa using c8))
     (try (have c8b2 : ((decide (a0 < 0)) == (decide (a1 < 0))) = false := by simpa using c8))
     (try (have c8b3 : ¬ ((decide (a0 < 0)) = (decide (a1 < 0))) := by simpa using c8))
     clear c8
     simp only [Option.some.injEq, Prod.mk.injEq] at H
     obtain ⟨rfl, rfl⟩ := H
     go_enter Try.func67, Try.ntmps67
     go_wp2
     go_ret2
     exact ⟨by first | rfl | (simp [errW_none, errW_some] <;> rfl) | (simp [*, errW_none, errW_some] <;> rfl), zo HB⟩
    ·rw [if_neg c8] at H
     have c8b0 : ((decide (a0 < 0)) != (decide (a1 < 0))) = false := by simpa using c8
     (try (have c8b1 : decide ((decide (a0 < 0)) = (decide (a1 < 0))) = true := by simpa using c8))
     (try (have c8b2 : ((decide (a0 < 0)) == (decide (a1 < 0))) = true := by simpa using c8))
     clear c8
     simp only [Option.some.injEq, Prod.mk.injEq] at H
     obtain ⟨rfl, rfl⟩ := H
     go_enter Try.func67, Try.ntmps67
     go_wp2
     go_ret2
     exact ⟨by first | rfl | (simp [errW_none, errW_some] <;> rfl) | (simp [*, errW_none, errW_some] <;> rfl), zo HB⟩

/-! ### sequiturref01_Far: function 102 -/
def sequiturref01_Far.f (a0 : Int) : Option (Int) := if a0 < 0 then (some (IntKind.u64.wrap (-(IntKind.u64.wrap (a0))))) else (some (IntKind.u64.wrap (a0)))
set_option maxHeartbeats 8000000 in
set_option maxRecDepth 100000 in
theorem sequiturref01_Far.calls (a0 : Int) (r : Int) (w : World) (h : sequiturref01_Far.f a0 = some r) :
  Calls Try.prog 102 #[.int .i64 a0] w fun e w' => e = .returned (.int .u64 r) ∧ Drawn0 w w' := by
 have H : (if a0 < 0 then (some (IntKind.u64.wrap (-(IntKind.u64.wrap (a0))))) else (some (IntKind.u64.wrap (a0)))) = some r := h
 clear h
 by_cases c2 : a0 < 0
 ·rw [if_pos c2] at H
  have c2b0 : decide (a0 < 0) = true := decide_eq_true c2; clear c2
  obtain rfl := Option.some.inj H
  go_enter Try.func102, Try.ntmps102
  go_wp2
  go_ret
  exact ⟨by first | rfl | (simp; done) | (simp [*]; done), by repeat (first | exact Drawn0.refl _ | apply Drawn0.step)⟩
 ·rw [if_neg c2] at H
  have c2b0 : decide (a0 < 0) = false := decide_eq_false c2; clear c2
  obtain rfl := Option.some.inj H
  go_enter Try.func102, Try.ntmps102
  go_wp2
  go_ret
  exact ⟨by first | rfl | (simp; done) | (simp [*]; done), by repeat (first | exact Drawn0.refl _ | apply Drawn0.step)⟩

/-! ### sequiturref01_Times: function 78 -/
mutual
def sequiturref01_Times.j0 : Nat → Int → Int → Int → Option (Int × Int)
 | 0, _, _, _ => none
 | k + 1, x1, x315000, x315001 => (sequiturref01_Far.f x1).bind fun t318 => (sequiturref01_Times.l0 k t318 x315000 x315001 0 0)
def sequiturref01_Times.l0 : Nat → Int → Int → Int → Int → Int → Option (Int × Int)
 | 0, _, _, _, _, _ => none
 | k + 1, x7, x315000, x315001, x318000, x318001 => if x7 > 0 then (if (Int.tmod x7 2) = 1 then ((sequiturref01_Plus.f x318000 x318001 x315000 x315001).bind fun bt319 => ((sequiturref01_Plus.f x315000 x315001 x315000 x315001).bind fun bt321 => (sequiturref01_Times.l0 k (IntKind.u64.wrap (Int.tdiv x7 2)) bt321.1 bt321.2 bt319.1 bt319.2))) else ((sequiturref01_Plus.f x315000 x315001 x315000 x315001).bind fun bt323 => (sequiturref01_Times.l0 k (IntKind.u64.wrap (Int.tdiv x7 2)) bt323.1 bt323.2 x318000 x318001))) else (some (x318000, x318001))
end
def sequiturref01_Times.f (k : Nat) (a0 : Int) (a1 : Int) : Option (Int × Int) := (sequiturref01_Of.f a0).bind fun bt312 => (if a1 < 0 then ((sequiturref01_Minus.f bt312.1 bt312.2).bind fun bt315 => (sequiturref01_Times.j0 k a1 bt315.1 bt315.2)) else (sequiturref01_Times.j0 k a1 bt312.1 bt312.2))
theorem sequiturref01_Times.mono_l : ∀ k, (∀ y0 y1 y2, LeO (sequiturref01_Times.j0 k y0 y1 y2) (sequiturref01_Times.j0 (k + 1) y0 y1 y2)) ∧ (∀ y0 y1 y2 y3 y4, LeO (sequiturref01_Times.l0 k y0 y1 y2 y3 y4) (sequiturref01_Times.l0 (k + 1) y0 y1 y2 y3 y4))
 | 0 => ⟨fun _ _ _ r h => by simp [sequiturref01_Times.j0] at h, fun _ _ _ _ _ r h => by simp [sequiturref01_Times.l0] at h⟩
 | k + 1 => by
  obtain ⟨ih0, ih1⟩ := sequiturref01_Times.mono_l k
  refine ⟨?_, ?_⟩
  ·intro y0 y1 y2
   unfold sequiturref01_Times.j0
   repeat' first
   | (with_reducible exact ih0 _ _ _)
   | (with_reducible exact ih1 _ _ _ _ _)
   | (with_reducible exact LeO.refl _)
   | (with_reducible exact LeO.none _)
   | (with_reducible refine LeO.ite ?_ ?_)
   | (with_reducible refine LeO.bind ?_ (fun _ => ?_))
   | exact ih0 _ _ _
   | exact ih1 _ _ _ _ _
   | exact LeO.none _
   | refine LeO.ite ?_ ?_
   | refine LeO.bind ?_ (fun _ => ?_)
  ·intro y0 y1 y2 y3 y4
   unfold sequiturref01_Times.l0
   repeat' first
   | (with_reducible exact ih0 _ _ _)
   | (with_reducible exact ih1 _ _ _ _ _)
   | (with_reducible exact LeO.refl _)
   | (with_reducible exact LeO.none _)
   | (with_reducible refine LeO.ite ?_ ?_)
   | (with_reducible refine LeO.bind ?_ (fun _ => ?_))
   | exact ih0 _ _ _
   | exact ih1 _ _ _ _ _
   | exact LeO.none _
   | refine LeO.ite ?_ ?_
   | refine LeO.bind ?_ (fun _ => ?_)
theorem sequiturref01_Times.mono : ∀ a0 a1 k, LeO (sequiturref01_Times.f k a0 a1) (sequiturref01_Times.f (k + 1) a0 a1) := by
 intro a0 a1 k
 obtain ⟨ih0, ih1⟩ := sequiturref01_Times.mono_l k
 unfold sequiturref01_Times.f
 repeat' first
   | (with_reducible exact ih0 _ _ _)
   | (with_reducible exact ih1 _ _ _ _ _)
   | (with_reducible exact LeO.refl _)
   | (with_reducible exact LeO.none _)
   | (with_reducible refine LeO.ite ?_ ?_)
   | (with_reducible refine LeO.bind ?_ (fun _ => ?_))
   | exact ih0 _ _ _
   | exact ih1 _ _ _ _ _
   | exact LeO.none _
   | refine LeO.ite ?_ ?_
   | refine LeO.bind ?_ (fun _ => ?_)
set_option maxHeartbeats 8000000 in
set_option maxRecDepth 100000 in
theorem sequiturref01_Times.calls (k : Nat) (a0 : Int) (a1 : Int) (r1 : Int) (r2 : Int) (w : World) (h : sequiturref01_Times.f k a0 a1 = some (r1, r2)) :
  Calls Try.prog 78 #[.int .i64 a0, .int .i64 a1] w fun e w' => e = .returned (.agg #[.int .i64 r1, .int .u64 r2]) ∧ Below w.heap.size w w' := by
 have hu107 := Try.underlying107
 have HB := zK (Below.refl w.heap.size w)
 have H : ((sequiturref01_Of.f a0).bind fun bt312 => (if a1 < 0 then ((sequiturref01_Minus.f bt312.1 bt312.2).bind fun bt315 => (sequiturref01_Times.j0 k a1 bt315.1 bt315.2)) else (sequiturref01_Times.j0 k a1 bt312.1 bt312.2))) = some (r1, r2) := h
 clear h; replace H := Option.bind_eq_some_iff.mp H
 obtain ⟨⟨t312, t313⟩, A30, H⟩ := H
 replace H : (if a1 < 0 then ((sequiturref01_Minus.f t312 t313).bind fun bt315 => (sequiturref01_Times.j0 k a1 bt315.1 bt315.2)) else (sequiturref01_Times.j0 k a1 t312 t313)) = some (r1, r2) := H
 have A3 := zK A30; clear A30
 have HC4 := zK H; clear H
 go_enter Try.func78, Try.ntmps78
 go_upto_if 11 with (first | ((with_reducible refine gate_dst (N := 4) rfl ?_); refine box_event ?hg (N := 4) ?hd (cs := #[.int .i64 0, .int .u64 0]) (t := 107) ?hr ?_; (case hd => rfl); (case hg => rfl); (case hr => first | (go_simp; done) | (go_simp; rfl)); intro gb311 hg w5 hbox hb; have BK311 := zK (hbox); have GW311 := zK ((by rw [hg]; exact (below_size (zo HB)) : w.heap.size ≤ gb311)); have GE311 := zK ((by rw [hg]; exact (below_size (zo HB)) : w.heap.size ≤ gb311)); replace HB := zK (below_step (zo HB) hb); clear hb hbox hg) | ((with_reducible refine zC (f := 81) rfl ?_); refine goesL_ (some 9) rfl rfl Try.func81 (by kernel_rfl) rfl #[.int .i64 a0] rfl (by (try simp only [List.map_toArray, List.map_cons, List.map_nil]); first | done | rfl | (simp only [List.length_drop, List.length_take]; rfl)) ?_; (with_reducible refine (sequiturref01_Of.calls a0 t312 t313 _ A3.out).mono ?_); rintro e w6 ⟨rfl, hb⟩; refine ⟨_, rfl, ?_⟩; replace BK311 := zK (blk_below (g := gb311) (o := .cells #[.int .i64 0, .int .u64 0] 107 (0, 0)) (zb BK311) hb); replace HB := zK (below_step (zo HB) hb); (try clear hb); (try clear hb2); (try clear hk); (try clear hi)) | ((with_reducible refine gate_dst (N := 5) rfl ?_); refine box_event ?hg (N := 5) ?hd (cs := #[.int .i64 0, .int .u64 0]) (t := 107) ?hr ?_; (case hd => rfl); (case hg => rfl); (case hr => first | (go_simp; done) | (go_simp; rfl)); intro gb314 hg w7 hbox hb; have BK314 := zK (hbox); have GW314 := zK ((by rw [hg]; exact (below_size (zo HB)) : w.heap.size ≤ gb314)); have GE314 := zK ((by rw [hg]; exact (below_size (zo HB)) : w.heap.size ≤ gb314)); replace HB := zK (below_step (zo HB) hb); have NB311_314 := zK ((by rw [hg]; exact Nat.ne_of_lt (blk_lt (g := gb311) (o := .cells #[.int .i64 0, .int .u64 0] 107 (0, 0)) (zb BK311)) : gb311 ≠ gb314)); have NB314_311 := zK ((by rw [hg]; exact Nat.ne_of_gt (blk_lt (g := gb311) (o := .cells #[.int .i64 0, .int .u64 0] 107 (0, 0)) (zb BK311)) : gb314 ≠ gb311)); replace BK311 := zK (blk_below (g := gb311) (o := .cells #[.int .i64 0, .int .u64 0] 107 (0, 0)) (zb BK311) hb); clear hb hbox hg; have hnb8 := NB314_311.out; have hnc8 := NB311_314.out; have hcz9_0 : w7.cell? ⟨gb314, 0, none⟩ = some (.int .i64 0) := (blk_cell BK314.out 0).trans rfl; have hcz9_1 : w7.cell? ⟨gb314, 1, none⟩ = some (.int .u64 0) := (blk_cell BK314.out 1).trans rfl; have hfz9_0 := blk_frozen BK314.out 0; have hfz9_1 := blk_frozen BK314.out 1))
 (try simp only [Act.put, zt, zz, zs])
 go_cut [] (fun wc => ∃ (kq : Nat) (x315000_3 : Int) (x315001_3 : Int), Aside0 (sequiturref01_Times.j0 kq a1 x315000_3 x315001_3 = some (r1, r2)) ∧ Aside0 (kq ≤ k) ∧ Aside0 (wc.heap[gb311]? = some (.cells #[.int .i64 0, .int .u64 0] 107 (0, 0))) ∧ Aside0 (wc.heap[gb314]? = some (.cells #[.int .i64 x315000_3, .int .u64 x315001_3] 107 (0, 0))) ∧ Aside0 (Below w.heap.size w wc))
 case first =>
  have H := HC4.out; clear HC4
  by_cases c10 : a1 < 0
  ·rw [if_pos c10] at H
   have c10b0 : decide (a1 < 0) = true := decide_eq_true c10; clear c10
   (first | rw [c10b0] | (simp only [i64_w, i32_w]; rw [c10b0]) | skip)
   replace H := Option.bind_eq_some_iff.mp H
   obtain ⟨⟨t315, t316⟩, A110, H⟩ := H
   replace H : (sequiturref01_Times.j0 k a1 t315 t316) = some (r1, r2) := H
   have A11 := zK A110; clear A110
   have H' := zK H; clear H
   have hnb12 := NB314_311.out
   have hnc12 := NB311_314.out
   have hcz13_0 : w7.cell? ⟨gb314, 0, none⟩ = some (.int .i64 0) := (blk_cell BK314.out 0).trans rfl
   have hcz13_1 : w7.cell? ⟨gb314, 1, none⟩ = some (.int .u64 0) := (blk_cell BK314.out 1).trans rfl
   have hfz13_0 := blk_frozen BK314.out 0
   have hfz13_1 := blk_frozen BK314.out 1
   go_wp2_with (first | ((with_reducible refine zC (f := 80) rfl ?_); refine goesL_ (some 13) rfl rfl Try.func80 (by kernel_rfl) rfl #[.agg #[.int .i64 t312, .int .u64 t313]] rfl (by (try simp only [List.map_toArray, List.map_cons, List.map_nil]); first | done | rfl | (simp only [List.length_drop, List.length_take]; rfl)) ?_; (with_reducible refine (sequiturref01_Minus.calls t312 t313 t315 t316 _ A11.out).mono ?_); rintro e w14 ⟨rfl, hb⟩; refine ⟨_, rfl, ?_⟩; replace BK311 := zK (blk_below (g := gb311) (o := .cells #[.int .i64 0, .int .u64 0] 107 (0, 0)) (zb BK311) hb); replace BK314 := zK (blk_below (g := gb314) (o := .cells #[.int .i64 t312, .int .u64 t313] 107 (0, 0)) (by refine zM ?_; refine blk_put (cs := #[.int .i64 t312, .int .u64 0]) ?_ 1 _ rfl; refine zM ?_; refine blk_put (cs := #[.int .i64 0, .int .u64 0]) ?_ 0 _ rfl; refine zM ?_; exact BK314.out) hb); replace HB := zK (below_step (zo HB) hb); (try clear hb); (try clear hb2); (try clear hk); (try clear hi); have hcz15_0 : w14.cell? ⟨gb314, 0, none⟩ = some (.int .i64 t312) := (blk_cell BK314.out 0).trans rfl; have hcz15_1 : w14.cell? ⟨gb314, 1, none⟩ = some (.int .u64 t313) := (blk_cell BK314.out 1).trans rfl; have hfz15_0 := blk_frozen BK314.out 0; have hfz15_1 := blk_frozen BK314.out 1))
   go_meet
   case rel => exact ⟨_, (t315), (t316), H', ⟨by first | omega | exact Nat.le_refl _⟩, ⟨zb BK311⟩, ⟨by refine zM ?_; refine blk_put (cs := #[.int .i64 t315, .int .u64 t313]) ?_ 1 _ rfl; refine zM ?_; refine blk_put (cs := #[.int .i64 t312, .int .u64 t313]) ?_ 0 _ rfl; refine zM ?_; exact BK314.out⟩, ⟨zo HB⟩⟩
  ·rw [if_neg c10] at H
   have c10b0 : decide (a1 < 0) = false := decide_eq_false c10; clear c10
   (first | rw [c10b0] | (simp only [i64_w, i32_w]; rw [c10b0]) | skip)
   have H' := zK H; clear H
   go_wp2
   go_meet
   case rel => exact ⟨_, (t312), (t313), H', ⟨by first | omega | exact Nat.le_refl _⟩, ⟨zb BK311⟩, ⟨by refine zM ?_; refine blk_put (cs := #[.int .i64 t312, .int .u64 0]) ?_ 1 _ rfl; refine zM ?_; refine blk_put (cs := #[.int .i64 0, .int .u64 0]) ?_ 0 _ rfl; refine zM ?_; exact BK314.out⟩, ⟨zo HB⟩⟩
 case rest =>
  clear HC4; try clear c1; try clear p2; try clear c7
  try clear c8; try clear c10; try clear c10b0; try clear c12
  try clear hcz13_0; try clear hcz13_1; try clear hcz15_0; try clear hcz15_1
  try clear hcz9_0; try clear hcz9_1; try clear hfz13_0; try clear hfz13_1
  try clear hfz15_0; try clear hfz15_1; try clear hfz9_0; try clear hfz9_1
  obtain ⟨kq, x315000_3, x315001_3, HA, HJ3, BK311, BK314, HB⟩ := hcut
  cases kq with
  | zero => exact absurd HA.out (by simp [sequiturref01_Times.j0])
  | succ kj3 =>
   have H := HA.out; clear HA
   simp only [sequiturref01_Times.j0] at H
   replace H := Option.bind_eq_some_iff.mp H
   obtain ⟨t318, A160, H⟩ := H
   replace H : (sequiturref01_Times.l0 kj3 t318 x315000_3 x315001_3 0 0) = some (r1, r2) := H
   have A16 := zK A160; clear A160
   have H' := zK H; clear H
   go_wp2_with (first | ((with_reducible refine gate_dst (N := 6) rfl ?_); refine box_event ?hg (N := 6) ?hd (cs := #[.int .i64 0, .int .u64 0]) (t := 107) ?hr ?_; (case hd => rfl); (case hg => rfl); (case hr => first | (go_simp; done) | (go_simp; rfl)); intro gb317 hg w17 hbox hb; have BK317 := zK (hbox); have GW317 := zK ((by rw [hg]; exact (below_size (zo HB)) : w.heap.size ≤ gb317)); have GE317 := zK ((by rw [hg]; exact (below_size (zo HB)) : w.heap.size ≤ gb317)); replace HB := zK (below_step (zo HB) hb); have NB311_317 := zK ((by rw [hg]; exact Nat.ne_of_lt (blk_lt (g := gb311) (o := .cells #[.int .i64 0, .int .u64 0] 107 (0, 0)) (zb BK311)) : gb311 ≠ gb317)); have NB317_311 := zK ((by rw [hg]; exact Nat.ne_of_gt (blk_lt (g := gb311) (o := .cells #[.int .i64 0, .int .u64 0] 107 (0, 0)) (zb BK311)) : gb317 ≠ gb311)); replace BK311 := zK (blk_below (g := gb311) (o := .cells #[.int .i64 0, .int .u64 0] 107 (0, 0)) (zb BK311) hb); have NB314_317 := zK ((by rw [hg]; exact Nat.ne_of_lt (blk_lt (g := gb314) (o := .cells #[.int .i64 x315000_3, .int .u64 x315001_3] 107 (0, 0)) (zb BK314)) : gb314 ≠ gb317)); have NB317_314 := zK ((by rw [hg]; exact Nat.ne_of_gt (blk_lt (g := gb314) (o := .cells #[.int .i64 x315000_3, .int .u64 x315001_3] 107 (0, 0)) (zb BK314)) : gb317 ≠ gb314)); replace BK314 := zK (blk_below (g := gb314) (o := .cells #[.int .i64 x315000_3, .int .u64 x315001_3] 107 (0, 0)) (zb BK314) hb); clear hb hbox hg; have hnb18 := NB317_311.out; have hnc18 := NB311_317.out; have hnb19 := NB317_314.out; have hnc19 := NB314_317.out; have hcz20_0 : w17.cell? ⟨gb317, 0, none⟩ = some (.int .i64 0) := (blk_cell BK317.out 0).trans rfl; have hcz20_1 : w17.cell? ⟨gb317, 1, none⟩ = some (.int .u64 0) := (blk_cell BK317.out 1).trans rfl; have hfz20_0 := blk_frozen BK317.out 0; have hfz20_1 := blk_frozen BK317.out 1) | ((with_reducible refine zC (f := 102) rfl ?_); refine goesL_ (some 16) rfl rfl Try.func102 (by kernel_rfl) rfl #[.int .i64 a1] rfl (by (try simp only [List.map_toArray, List.map_cons, List.map_nil]); first | done | rfl | (simp only [List.length_drop, List.length_take]; rfl)) ?_; (with_reducible refine (sequiturref01_Far.calls a1 t318 _ A16.out).mono ?_); rintro e w' ⟨rfl, ⟨nd, rfl⟩⟩; refine ⟨_, rfl, ?_⟩))
   go_loopg [7] kj3 (fun kq v7 w' => ∃ (x7_2 : Int) (x315000_2 : Int) (x315001_2 : Int) (x318000_2 : Int) (x318001_2 : Int), v7 = .int .u64 x7_2 ∧ Aside0 (sequiturref01_Times.l0 kq x7_2 x315000_2 x315001_2 x318000_2 x318001_2 = some (r1, r2)) ∧ Aside0 (kq ≤ kj3) ∧ Aside0 (w'.heap[gb311]? = some (.cells #[.int .i64 0, .int .u64 0] 107 (0, 0))) ∧ Aside0 (w'.heap[gb314]? = some (.cells #[.int .i64 x315000_2, .int .u64 x315001_2] 107 (0, 0))) ∧ Aside0 (w'.heap[gb317]? = some (.cells #[.int .i64 x318000_2, .int .u64 x318001_2] 107 (0, 0))) ∧ Aside0 (Below w.heap.size w w'))
   case atStart => exact ⟨(t318), (x315000_3), (x315001_3), (0), (0), (by first | rfl | (simp; done) | (simp [*]; done)), H', ⟨Nat.le_refl _⟩, ⟨zb BK311⟩, ⟨zb BK314⟩, ⟨by refine zM ?_; refine blk_put (cs := #[.int .i64 0, .int .u64 0]) ?_ 1 _ rfl; refine zM ?_; refine blk_put (cs := #[.int .i64 0, .int .u64 0]) ?_ 0 _ rfl; refine zM ?_; exact BK317.out⟩, ⟨zo HB⟩⟩
   case round =>
    clear H'; try clear c1; try clear p2; try clear c7
    try clear c8; try clear c10; try clear c10b0; try clear c12
    try clear c18; try clear c19; try clear hcz13_0; try clear hcz13_1
    try clear hcz15_0; try clear hcz15_1; try clear hcz20_0; try clear hcz20_1
    try clear hcz9_0; try clear hcz9_1; try clear hfz13_0; try clear hfz13_1
    try clear hfz15_0; try clear hfz15_1; try clear hfz20_0; try clear hfz20_1
    try clear hfz9_0; try clear hfz9_1; try clear p2
    obtain ⟨x7_2, x315000_2, x315001_2, x318000_2, x318001_2, rfl, HA, HK2, BK311, BK314, BK317, HB⟩ := hrel
    cases gk with
    | zero => exact absurd HA.out (by simp [sequiturref01_Times.l0])
    | succ k2 =>
     have H := HA.out; clear HA
     simp only [sequiturref01_Times.l0] at H
     by_cases c21 : x7_2 > 0
     ·rw [if_pos c21] at H
      have c21b0 : decide (0 < x7_2) = true := decide_eq_true c21; clear c21
      by_cases c22 : (Int.tmod x7_2 2) = 1
      ·rw [if_pos c22] at H
       have c22b0 : ((Int.tmod x7_2 2) == 1) = true := beq_iff_eq.mpr c22
       have c22b1 : ((Int.tmod x7_2 2) != 1) = false := bne_eq_false_iff_eq.mpr c22
       clear c22; replace H := Option.bind_eq_some_iff.mp H
       obtain ⟨⟨t319, t320⟩, A230, H⟩ := H
       replace H : ((sequiturref01_Plus.f x315000_2 x315001_2 x315000_2 x315001_2).bind fun bt321 => (sequiturref01_Times.l0 k2 (IntKind.u64.wrap (Int.tdiv x7_2 2)) bt321.1 bt321.2 t319 t320)) = some (r1, r2) := H
       have A23 := zK A230; clear A230; replace H := Option.bind_eq_some_iff.mp H
       obtain ⟨⟨t321, t322⟩, A240, H⟩ := H
       replace H : (sequiturref01_Times.l0 k2 (IntKind.u64.wrap (Int.tdiv x7_2 2)) t321 t322 t319 t320) = some (r1, r2) := H
       have A24 := zK A240; clear A240
       have H' := zK H; clear H
       have hnb25 := NB317_311.out
       have hnc25 := NB311_317.out
       have hnb26 := NB317_314.out
       have hnc26 := NB314_317.out
       have hcz27_0 : wr.cell? ⟨gb317, 0, none⟩ = some (.int .i64 x318000_2) := (blk_cell BK317.out 0).trans rfl
       have hcz27_1 : wr.cell? ⟨gb317, 1, none⟩ = some (.int .u64 x318001_2) := (blk_cell BK317.out 1).trans rfl
       have hfz27_0 := blk_frozen BK317.out 0
       have hfz27_1 := blk_frozen BK317.out 1
       have hnb28 := NB314_311.out
       have hnc28 := NB311_314.out
       have hcz29_0 : wr.cell? ⟨gb314, 0, none⟩ = some (.int .i64 x315000_2) := (blk_cell BK314.out 0).trans rfl
       have hcz29_1 : wr.cell? ⟨gb314, 1, none⟩ = some (.int .u64 x315001_2) := (blk_cell BK314.out 1).trans rfl
       have hfz29_0 := blk_frozen BK314.out 0
       have hfz29_1 := blk_frozen BK314.out 1
       go_wp2_with (first | ((with_reducible refine zC (f := 79) rfl ?_); refine goesL_ (some 26) rfl rfl Try.func79 (by kernel_rfl) rfl #[.agg #[.int .i64 x318000_2, .int .u64 x318001_2], .agg #[.int .i64 x315000_2, .int .u64 x315001_2]] rfl (by (try simp only [List.map_toArray, List.map_cons, List.map_nil]); first | done | rfl | (simp only [List.length_drop, List.length_take]; rfl)) ?_; (with_reducible refine (sequiturref01_Plus.calls x318000_2 x318001_2 x315000_2 x315001_2 t319 t320 _ A23.out).mono ?_); rintro e w30 ⟨rfl, hb⟩; refine ⟨_, rfl, ?_⟩; replace BK311 := zK (blk_below (g := gb311) (o := .cells #[.int .i64 0, .int .u64 0] 107 (0, 0)) (zb BK311) hb); replace BK314 := zK (blk_below (g := gb314) (o := .cells #[.int .i64 x315000_2, .int .u64 x315001_2] 107 (0, 0)) (zb BK314) hb); replace BK317 := zK (blk_below (g := gb317) (o := .cells #[.int .i64 x318000_2, .int .u64 x318001_2] 107 (0, 0)) (zb BK317) hb); replace HB := zK (below_step (zo HB) hb); (try clear hb); (try clear hb2); (try clear hk); (try clear hi); have hcz31_0 : w30.cell? ⟨gb317, 0, none⟩ = some (.int .i64 x318000_2) := (blk_cell BK317.out 0).trans rfl; have hcz31_1 : w30.cell? ⟨gb317, 1, none⟩ = some (.int .u64 x318001_2) := (blk_cell BK317.out 1).trans rfl; have hfz31_0 := blk_frozen BK317.out 0; have hfz31_1 := blk_frozen BK317.out 1; have hcz32_0 : w30.cell? ⟨gb314, 0, none⟩ = some (.int .i64 x315000_2) := (blk_cell BK314.out 0).trans rfl; have hcz32_1 : w30.cell? ⟨gb314, 1, none⟩ = some (.int .u64 x315001_2) := (blk_cell BK314.out 1).trans rfl; have hfz32_0 := blk_frozen BK314.out 0; have hfz32_1 := blk_frozen BK314.out 1) | ((with_reducible refine zC (f := 79) rfl ?_); refine goesL_ (some 29) rfl rfl Try.func79 (by kernel_rfl) rfl #[.agg #[.int .i64 x315000_2, .int .u64 x315001_2], .agg #[.int .i64 x315000_2, .int .u64 x315001_2]] rfl (by (try simp only [List.map_toArray, List.map_cons, List.map_nil]); first | done | rfl | (simp only [List.length_drop, List.length_take]; rfl)) ?_; (with_reducible refine (sequiturref01_Plus.calls x315000_2 x315001_2 x315000_2 x315001_2 t321 t322 _ A24.out).mono ?_); rintro e w33 ⟨rfl, hb⟩; refine ⟨_, rfl, ?_⟩; replace BK311 := zK (blk_below (g := gb311) (o := .cells #[.int .i64 0, .int .u64 0] 107 (0, 0)) (zb BK311) hb); replace BK314 := zK (blk_below (g := gb314) (o := .cells #[.int .i64 x315000_2, .int .u64 x315001_2] 107 (0, 0)) (zb BK314) hb); replace BK317 := zK (blk_below (g := gb317) (o := .cells #[.int .i64 t319, .int .u64 t320] 107 (0, 0)) (by refine zM ?_; refine blk_put (cs := #[.int .i64 t319, .int .u64 x318001_2]) ?_ 1 _ rfl; refine zM ?_; refine blk_put (cs := #[.int .i64 x318000_2, .int .u64 x318001_2]) ?_ 0 _ rfl; refine zM ?_; exact BK317.out) hb); replace HB := zK (below_step (zo HB) hb); (try clear hb); (try clear hb2); (try clear hk); (try clear hi); have hcz34_0 : w33.cell? ⟨gb314, 0, none⟩ = some (.int .i64 x315000_2) := (blk_cell BK314.out 0).trans rfl; have hcz34_1 : w33.cell? ⟨gb314, 1, none⟩ = some (.int .u64 x315001_2) := (blk_cell BK314.out 1).trans rfl; have hfz34_0 := blk_frozen BK314.out 0; have hfz34_1 := blk_frozen BK314.out 1))
       go_roundg k2
       case measure => have := HJ3.out; have := HK2.out; omega
       case rel => exact ⟨(IntKind.u64.wrap (Int.tdiv x7_2 2)), (t321), (t322), (t319), (t320), (by first | rfl | (simp; done) | (simp [*]; done)), H', ⟨by have := HJ3.out; have := HK2.out; omega⟩, ⟨zb BK311⟩, ⟨by refine zM ?_; refine blk_put (cs := #[.int .i64 t321, .int .u64 x315001_2]) ?_ 1 _ rfl; refine zM ?_; refine blk_put (cs := #[.int .i64 x315000_2, .int .u64 x315001_2]) ?_ 0 _ rfl; refine zM ?_; exact BK314.out⟩, ⟨zb BK317⟩, ⟨zo HB⟩⟩
      ·rw [if_neg c22] at H
       have c22b0 : ((Int.tmod x7_2 2) == 1) = false := beq_eq_false_iff_ne.mpr c22
       have c22b1 : ((Int.tmod x7_2 2) != 1) = true := bne_iff_ne.mpr c22
       replace H := Option.bind_eq_some_iff.mp H
       obtain ⟨⟨t323, t324⟩, A350, H⟩ := H
       replace H : (sequiturref01_Times.l0 k2 (IntKind.u64.wrap (Int.tdiv x7_2 2)) t323 t324 x318000_2 x318001_2) = some (r1, r2) := H
       have A35 := zK A350; clear A350
       have H' := zK H; clear H
       have hnb36 := NB314_311.out
       have hnc36 := NB311_314.out
       have hnb37 := NB314_317.out
       have hnc37 := NB317_314.out
       have hcz38_0 : wr.cell? ⟨gb314, 0, none⟩ = some (.int .i64 x315000_2) := (blk_cell BK314.out 0).trans rfl
       have hcz38_1 : wr.cell? ⟨gb314, 1, none⟩ = some (.int .u64 x315001_2) := (blk_cell BK314.out 1).trans rfl
       have hfz38_0 := blk_frozen BK314.out 0
       have hfz38_1 := blk_frozen BK314.out 1
       go_wp2_with (first | ((with_reducible refine zC (f := 79) rfl ?_); refine goesL_ (some 29) rfl rfl Try.func79 (by kernel_rfl) rfl #[.agg #[.int .i64 x315000_2, .int .u64 x315001_2], .agg #[.int .i64 x315000_2, .int .u64 x315001_2]] rfl (by (try simp only [List.map_toArray, List.map_cons, List.map_nil]); first | done | rfl | (simp only [List.length_drop, List.length_take]; rfl)) ?_; (with_reducible refine (sequiturref01_Plus.calls x315000_2 x315001_2 x315000_2 x315001_2 t323 t324 _ A35.out).mono ?_); rintro e w39 ⟨rfl, hb⟩; refine ⟨_, rfl, ?_⟩; replace BK311 := zK (blk_below (g := gb311) (o := .cells #[.int .i64 0, .int .u64 0] 107 (0, 0)) (zb BK311) hb); replace BK314 := zK (blk_below (g := gb314) (o := .cells #[.int .i64 x315000_2, .int .u64 x315001_2] 107 (0, 0)) (zb BK314) hb); replace BK317 := zK (blk_below (g := gb317) (o := .cells #[.int .i64 x318000_2, .int .u64 x318001_2] 107 (0, 0)) (zb BK317) hb); replace HB := zK (below_step (zo HB) hb); (try clear hb); (try clear hb2); (try clear hk); (try clear hi); have hcz40_0 : w39.cell? ⟨gb314, 0, none⟩ = some (.int .i64 x315000_2) := (blk_cell BK314.out 0).trans rfl; have hcz40_1 : w39.cell? ⟨gb314, 1, none⟩ = some (.int .u64 x315001_2) := (blk_cell BK314.out 1).trans rfl; have hfz40_0 := blk_frozen BK314.out 0; have hfz40_1 := blk_frozen BK314.out 1))
       go_roundg k2
       case measure => have := HJ3.out; have := HK2.out; omega
       case rel => exact ⟨(IntKind.u64.wrap (Int.tdiv x7_2 2)), (t323), (t324), (x318000_2), (x318001_2), (by first | rfl | (simp; done) | (simp [*]; done)), H', ⟨by have := HJ3.out; have := HK2.out; omega⟩, ⟨zb BK311⟩, ⟨by refine zM ?_; refine blk_put (cs := #[.int .i64 t323, .int .u64 x315001_2]) ?_ 1 _ rfl; refine zM ?_; refine blk_put (cs := #[.int .i64 x315000_2, .int .u64 x315001_2]) ?_ 0 _ rfl; refine zM ?_; exact BK314.out⟩, ⟨zb BK317⟩, ⟨zo HB⟩⟩
     ·rw [if_neg c21] at H
      have c21b0 : decide (0 < x7_2) = false := decide_eq_false c21; clear c21
      simp only [Option.some.injEq, Prod.mk.injEq] at H
      obtain ⟨rfl, rfl⟩ := H
      have hnb41 := NB317_311.out
      have hnc41 := NB311_317.out
      have hnb42 := NB317_314.out
      have hnc42 := NB314_317.out
      have hcz43_0 : wr.cell? ⟨gb317, 0, none⟩ = some (.int .i64 x318000_2) := (blk_cell BK317.out 0).trans rfl
      have hcz43_1 : wr.cell? ⟨gb317, 1, none⟩ = some (.int .u64 x318001_2) := (blk_cell BK317.out 1).trans rfl
      have hfz43_0 := blk_frozen BK317.out 0
      have hfz43_1 := blk_frozen BK317.out 1
      have hnb44 := NB311_314.out
      have hnc44 := NB314_311.out
      have hcz45_0 : wr.cell? ⟨gb311, 0, none⟩ = some (.int .i64 0) := (blk_cell BK311.out 0).trans rfl
      have hcz45_1 : wr.cell? ⟨gb311, 1, none⟩ = some (.int .u64 0) := (blk_cell BK311.out 1).trans rfl
      have hfz45_0 := blk_frozen BK311.out 0
      have hfz45_1 := blk_frozen BK311.out 1
      go_wp2
      refine bodyPost_ret (results_cell_row rfl _ _ gb311 107 #[.int .i64 x318000_2, .int .u64 x318001_2] (0, 0) _ rfl (by refine zM ?_; refine blk_put (cs := #[.int .i64 x318000_2, .int .u64 0]) ?_ 1 _ rfl; refine zM ?_; refine blk_put (cs := #[.int .i64 0, .int .u64 0]) ?_ 0 _ rfl; refine zM ?_; exact BK311.out) Try.underlying107 rfl (by kernel_rfl)) rfl ?_
      exact ⟨by first | rfl | (simp [errW_none, errW_some] <;> rfl) | (simp [*, errW_none, errW_some] <;> rfl), zo HB⟩

/-! ### sequiturref27_More: function 71 -/
def sequiturref27_More.f (k : Nat) (a0_0 : Int) (a0_1 : Int) (a0_2 : Int) (a0_3 : Int) (a1 : Int) (a2 : Int) : Option (Int × Int × Int × Int) := (sequiturref01_Times.f k a1 a2).bind fun bt327 => ((sequiturref01_Of.f bt327.1).bind fun bt330 => ((sequiturref01_Plus.f a0_0 a0_1 bt330.1 bt330.2).bind fun bt332 => ((sequiturref01_Plus.f a0_2 a0_3 0 bt327.2).bind fun bt334 => (some (bt332.1, bt332.2, bt334.1, bt334.2)))))
theorem sequiturref27_More.mono : ∀ a0 a1 a2 a3 a4 a5 k, LeO (sequiturref27_More.f k a0 a1 a2 a3 a4 a5) (sequiturref27_More.f (k + 1) a0 a1 a2 a3 a4 a5) := by
 intro a0 a1 a2 a3 a4 a5 k
 unfold sequiturref27_More.f
 repeat' first
   | (with_reducible exact sequiturref01_Times.mono _ _ _)
   | (with_reducible exact LeO.refl _)
   | (with_reducible exact LeO.none _)
   | (with_reducible refine LeO.ite ?_ ?_)
   | (with_reducible refine LeO.bind ?_ (fun _ => ?_))
   | exact sequiturref01_Times.mono _ _ _
   | exact LeO.none _
   | refine LeO.ite ?_ ?_
   | refine LeO.bind ?_ (fun _ => ?_)
def sequiturref27_More.T2 : Bool × List (List Nat × List Nat) := (true, [([], []), ([0], [0]), ([], []), ([2], [2]), ([3], [3]), ([1, 4, 4], [1, 4]), ([0, 1, 2, 3, 4, 5], []), ([6, 5, 5, 0, 1, 2, 3, 4, 5], [5, 6])])
def sequiturref27_More.B2 : List Nat := [0, 1, 0, 4, 12, 31, 63, 127]
theorem sequiturref27_More.tab2 : rtab .any (opsOf Try.f71 2) = sequiturref27_More.T2 := by kernel_rfl
theorem sequiturref27_More.bits2 : waitsOk sequiturref27_More.T2.2 sequiturref27_More.B2 = true := by kernel_rfl
set_option maxHeartbeats 8000000 in
set_option maxRecDepth 100000 in
theorem sequiturref27_More.calls (k : Nat) (a0_0 : Int) (a0_1 : Int) (a0_2 : Int) (a0_3 : Int) (a1 : Int) (a2 : Int) (r1 : Int) (r2 : Int) (r3 : Int) (r4 : Int) (w : World) (h : sequiturref27_More.f k a0_0 a0_1 a0_2 a0_3 a1 a2 = some (r1, r2, r3, r4)) :
  Calls Try.prog 71 #[.agg #[.int .i64 a0_0, .int .u64 a0_1, .int .i64 a0_2, .int .u64 a0_3], .int .i64 a1, .int .i64 a2] w fun e w' => e = .returned (.agg #[.int .i64 r1, .int .u64 r2, .int .i64 r3, .int .u64 r4]) ∧ Below w.heap.size w w' := by
 have hu109 := Try.underlying109
 have hu107 := Try.underlying107
 have HB := zK (Below.refl w.heap.size w)
 have H : ((sequiturref01_Times.f k a1 a2).bind fun bt327 => ((sequiturref01_Of.f bt327.1).bind fun bt330 => ((sequiturref01_Plus.f a0_0 a0_1 bt330.1 bt330.2).bind fun bt332 => ((sequiturref01_Plus.f a0_2 a0_3 0 bt327.2).bind fun bt334 => (some (bt332.1, bt332.2, bt334.1, bt334.2)))))) = some (r1, r2, r3, r4) := h
 clear h; replace H := Option.bind_eq_some_iff.mp H
 obtain ⟨⟨t327, t328⟩, A40, H⟩ := H
 replace H : ((sequiturref01_Of.f t327).bind fun bt330 => ((sequiturref01_Plus.f a0_0 a0_1 bt330.1 bt330.2).bind fun bt332 => ((sequiturref01_Plus.f a0_2 a0_3 0 t328).bind fun bt334 => (some (bt332.1, bt332.2, bt334.1, bt334.2))))) = some (r1, r2, r3, r4) := H
 have A4 := zK A40; clear A40; replace H := Option.bind_eq_some_iff.mp H
 obtain ⟨⟨t330, t331⟩, A50, H⟩ := H
 replace H : ((sequiturref01_Plus.f a0_0 a0_1 t330 t331).bind fun bt332 => ((sequiturref01_Plus.f a0_2 a0_3 0 t328).bind fun bt334 => (some (bt332.1, bt332.2, bt334.1, bt334.2)))) = some (r1, r2, r3, r4) := H
 have A5 := zK A50; clear A50; replace H := Option.bind_eq_some_iff.mp H
 obtain ⟨⟨t332, t333⟩, A60, H⟩ := H
 replace H : ((sequiturref01_Plus.f a0_2 a0_3 0 t328).bind fun bt334 => (some (t332, t333, bt334.1, bt334.2))) = some (r1, r2, r3, r4) := H
 have A6 := zK A60; clear A60; replace H := Option.bind_eq_some_iff.mp H
 obtain ⟨⟨t334, t335⟩, A70, H⟩ := H
 replace H : (some (t332, t333, t334, t335)) = some (r1, r2, r3, r4) := H
 have A7 := zK A70; clear A70
 simp only [Option.some.injEq, Prod.mk.injEq] at H
 obtain ⟨rfl, rfl, rfl, rfl⟩ := H
 go_enter Try.func71, Try.ntmps71
 try go_wp2_with (first | ((with_reducible refine gate_dst (N := 3) rfl ?_); refine box_event ?hg (N := 3) ?hd (cs := #[.int .i64 a0_0, .int .u64 a0_1, .int .i64 a0_2, .int .u64 a0_3]) (t := 109) ?hr ?_; (case hd => rfl); (case hg => rfl); (case hr => first | (go_simp; done) | (go_simp; rfl)); intro gb325 hg w8 hbox hb; have BK325 := zK (hbox); have GW325 := zK ((by rw [hg]; exact (below_size (zo HB)) : w.heap.size ≤ gb325)); have GE325 := zK ((by rw [hg]; exact (below_size (zo HB)) : w.heap.size ≤ gb325)); replace HB := zK (below_step (zo HB) hb); clear hb hbox hg) | ((with_reducible refine gate_dst (N := 6) rfl ?_); refine box_event ?hg (N := 6) ?hd (cs := #[.int .i64 0, .int .u64 0, .int .i64 0, .int .u64 0]) (t := 109) ?hr ?_; (case hd => rfl); (case hg => rfl); (case hr => first | (go_simp; done) | (go_simp; rfl)); intro gb326 hg w9 hbox hb; have BK326 := zK (hbox); have GW326 := zK ((by rw [hg]; exact (below_size (zo HB)) : w.heap.size ≤ gb326)); have GE326 := zK ((by rw [hg]; exact (below_size (zo HB)) : w.heap.size ≤ gb326)); replace HB := zK (below_step (zo HB) hb); have NB325_326 := zK ((by rw [hg]; exact Nat.ne_of_lt (blk_lt (g := gb325) (o := .cells #[.int .i64 a0_0, .int .u64 a0_1, .int .i64 a0_2, .int .u64 a0_3] 109 (0, 0)) (zb BK325)) : gb325 ≠ gb326)); have NB326_325 := zK ((by rw [hg]; exact Nat.ne_of_gt (blk_lt (g := gb325) (o := .cells #[.int .i64 a0_0, .int .u64 a0_1, .int .i64 a0_2, .int .u64 a0_3] 109 (0, 0)) (zb BK325)) : gb326 ≠ gb325)); replace BK325 := zK (blk_below (g := gb325) (o := .cells #[.int .i64 a0_0, .int .u64 a0_1, .int .i64 a0_2, .int .u64 a0_3] 109 (0, 0)) (zb BK325) hb); clear hb hbox hg) | ((with_reducible refine zC (f := 78) rfl ?_); refine goesL_ (some 10) rfl rfl Try.func78 (by kernel_rfl) rfl #[.int .i64 a1, .int .i64 a2] rfl (by (try simp only [List.map_toArray, List.map_cons, List.map_nil]); first | done | rfl | (simp only [List.length_drop, List.length_take]; rfl)) ?_; (with_reducible refine (sequiturref01_Times.calls k a1 a2 t327 t328 _ A4.out).mono ?_); rintro e w10 ⟨rfl, hb⟩; refine ⟨_, rfl, ?_⟩; replace BK325 := zK (blk_below (g := gb325) (o := .cells #[.int .i64 a0_0, .int .u64 a0_1, .int .i64 a0_2, .int .u64 a0_3] 109 (0, 0)) (zb BK325) hb); replace BK326 := zK (blk_below (g := gb326) (o := .cells #[.int .i64 0, .int .u64 0, .int .i64 0, .int .u64 0] 109 (0, 0)) (zb BK326) hb); replace HB := zK (below_step (zo HB) hb); (try clear hb); (try clear hb2); (try clear hk); (try clear hi)) | ((with_reducible refine gate_dst (N := 7) rfl ?_); refine box_event ?hg (N := 7) ?hd (cs := #[.int .i64 0, .int .u64 0]) (t := 107) ?hr ?_; (case hd => rfl); (case hg => rfl); (case hr => first | (go_simp; done) | (go_simp; rfl)); intro gb329 hg w11 hbox hb; have BK329 := zK (hbox); have GW329 := zK ((by rw [hg]; exact (below_size (zo HB)) : w.heap.size ≤ gb329)); have GE329 := zK ((by rw [hg]; exact (below_size (zo HB)) : w.heap.size ≤ gb329)); replace HB := zK (below_step (zo HB) hb); have NB325_329 := zK ((by rw [hg]; exact Nat.ne_of_lt (blk_lt (g := gb325) (o := .cells #[.int .i64 a0_0, .int .u64 a0_1, .int .i64 a0_2, .int .u64 a0_3] 109 (0, 0)) (zb BK325)) : gb325 ≠ gb329)); have NB329_325 := zK ((by rw [hg]; exact Nat.ne_of_gt (blk_lt (g := gb325) (o := .cells #[.int .i64 a0_0, .int .u64 a0_1, .int .i64 a0_2, .int .u64 a0_3] 109 (0, 0)) (zb BK325)) : gb329 ≠ gb325)); replace BK325 := zK (blk_below (g := gb325) (o := .cells #[.int .i64 a0_0, .int .u64 a0_1, .int .i64 a0_2, .int .u64 a0_3] 109 (0, 0)) (zb BK325) hb); have NB326_329 := zK ((by rw [hg]; exact Nat.ne_of_lt (blk_lt (g := gb326) (o := .cells #[.int .i64 0, .int .u64 0, .int .i64 0, .int .u64 0] 109 (0, 0)) (zb BK326)) : gb326 ≠ gb329)); have NB329_326 := zK ((by rw [hg]; exact Nat.ne_of_gt (blk_lt (g := gb326) (o := .cells #[.int .i64 0, .int .u64 0, .int .i64 0, .int .u64 0] 109 (0, 0)) (zb BK326)) : gb329 ≠ gb326)); replace BK326 := zK (blk_below (g := gb326) (o := .cells #[.int .i64 0, .int .u64 0, .int .i64 0, .int .u64 0] 109 (0, 0)) (zb BK326) hb); clear hb hbox hg; have hnb12 := NB329_325.out; have hnc12 := NB325_329.out; have hnb13 := NB329_326.out; have hnc13 := NB326_329.out; have hcz14_0 : w11.cell? ⟨gb329, 0, none⟩ = some (.int .i64 0) := (blk_cell BK329.out 0).trans rfl; have hcz14_1 : w11.cell? ⟨gb329, 1, none⟩ = some (.int .u64 0) := (blk_cell BK329.out 1).trans rfl; have hfz14_0 := blk_frozen BK329.out 0; have hfz14_1 := blk_frozen BK329.out 1))
 have n0_ : Aside0 (((w11.setCell ⟨gb329, 0, none⟩ (.int .i64 t327)).setCell ⟨gb329, 1, none⟩ (.int .u64 t328)).heap[gb325]? = some (.cells #[.int .i64 a0_0, .int .u64 a0_1, .int .i64 a0_2, .int .u64 a0_3] 109 (0, 0))) := ⟨zb BK325⟩
 have n1_ : Aside0 (((w11.setCell ⟨gb329, 0, none⟩ (.int .i64 t327)).setCell ⟨gb329, 1, none⟩ (.int .u64 t328)).heap[gb326]? = some (.cells #[.int .i64 0, .int .u64 0, .int .i64 0, .int .u64 0] 109 (0, 0))) := ⟨zb BK326⟩
 have n2_ : Aside0 (((w11.setCell ⟨gb329, 0, none⟩ (.int .i64 t327)).setCell ⟨gb329, 1, none⟩ (.int .u64 t328)).heap[gb329]? = some (.cells #[.int .i64 t327, .int .u64 t328] 107 (0, 0))) := ⟨by refine zM ?_; refine blk_put (cs := #[.int .i64 t327, .int .u64 0]) ?_ 1 _ rfl; refine zM ?_; refine blk_put (cs := #[.int .i64 0, .int .u64 0]) ?_ 0 _ rfl; refine zM ?_; exact BK329.out⟩
 have n3_ : Aside0 (Below w.heap.size w ((w11.setCell ⟨gb329, 0, none⟩ (.int .i64 t327)).setCell ⟨gb329, 1, none⟩ (.int .u64 t328))) := ⟨zo HB⟩
 (try clear BK325)
 (try clear BK326)
 (try clear BK329)
 (try clear HB)
 generalize ((w11.setCell ⟨gb329, 0, none⟩ (.int .i64 t327)).setCell ⟨gb329, 1, none⟩ (.int .u64 t328)) = w15 at n0_ n1_ n2_ n3_ ⊢
 have BK325 := n0_
 have BK326 := n1_
 have BK329 := n2_
 have HB := n3_; clear n0_ n1_ n2_ n3_
 replace BK325 := zK (zD BK325.out)
 replace BK326 := zK (zD BK326.out)
 replace BK329 := zK (zD BK329.out)
 replace HB := zK (yD HB.out)
 refine start_ (n := 8) (S := fun w' => w'.cell? ⟨gb325, 0, none⟩ = some (.int .i64 a0_0) ∧ w'.cell? ⟨gb325, 1, none⟩ = some (.int .u64 a0_1) ∧ w'.cell? ⟨gb325, 2, none⟩ = some (.int .i64 a0_2) ∧ w'.cell? ⟨gb325, 3, none⟩ = some (.int .u64 a0_3) ∧ w'.cell? ⟨gb329, 0, none⟩ = some (.int .i64 t327) ∧ w'.cell? ⟨gb329, 1, none⟩ = some (.int .u64 t328)) (ds := [7]) #[F_,F_,F_,F_,F_,F_,F_,F_] (by kernel_rfl) rfl rfl ⟨(blk_cell BK325.out 0).trans rfl, (blk_cell BK325.out 1).trans rfl, (blk_cell BK325.out 2).trans rfl, (blk_cell BK325.out 3).trans rfl, (blk_cell BK329.out 0).trans rfl, (blk_cell BK329.out 1).trans rfl⟩ (fun hHeld => ?_); refine with_tabW sequiturref27_More.tab2 sequiturref27_More.bits2 (fun HT_ HW_ => ?_)
 generalize w15.drew = w16 at BK325 BK326 BK329 HB hHeld ⊢
 refine pure_ (i := 0) (N := some 11) (v := ?_) (a' := ?_) #[T_,F_,F_,F_,F_,F_,F_,F_] rfl rfl (any_of HT_.out (by kernel_rfl)) (fun _ _ _ h => h) (Or.inl ⟨by rfl, ?_⟩) ?_ ?_; rotate_left; (intro w'; go_simp; with_reducible rfl); rotate_left; (simp only [Act.put, zt, zz, zs, i64_w, i32_w]; rfl)
 refine pure_ (i := 2) (N := some 13) (v := ?_) (a' := ?_) #[T_,F_,T_,F_,F_,F_,F_,F_] rfl rfl (any_of HT_.out (by kernel_rfl)) (fun _ _ _ h => h) (Or.inl ⟨by rfl, ?_⟩) ?_ ?_; rotate_left; (intro w'; go_simp; with_reducible rfl); rotate_left; (simp only [Act.put, zt, zz, zs, i64_w, i32_w]; rfl)
 refine take_ (i := 1) (N := some 12) (v := ?_) (a' := ?_) #[T_,T_,T_,F_,F_,F_,F_,F_] rfl rfl (take_ofW HT_.out HW_.out (by kernel_rfl)) (fun _ _ _ h => h) (Or.inl ⟨by rfl, ?_⟩) hHeld ?_ ?_; rotate_left; (rintro w' ⟨s0, s1, s2, s3, s4, s5⟩; go_simp; with_reducible rfl); rotate_left; (simp only [Act.put, zt, zz, zs, i64_w, i32_w]; rfl)
 refine take_ (i := 3) (N := some 14) (v := ?_) (a' := ?_) #[T_,T_,T_,T_,F_,F_,F_,F_] rfl rfl (take_ofW HT_.out HW_.out (by kernel_rfl)) (fun _ _ _ h => h) (Or.inl ⟨by rfl, ?_⟩) hHeld ?_ ?_; rotate_left; (rintro w' ⟨s0, s1, s2, s3, s4, s5⟩; go_simp; with_reducible rfl); rotate_left; (simp only [Act.put, zt, zz, zs, i64_w, i32_w]; rfl)
 refine one_ (i := 4) (N := some 15) #[T_,T_,T_,T_,T_,F_,F_,F_] rfl rfl (one_of HT_.out (by kernel_rfl)) (by decide) (fun K hK => ?_)
 refine goes_ Try.func81 (by kernel_rfl) rfl #[.int .i64 t327] (by rfl) rfl rfl (by (try simp only [List.map_toArray, List.map_cons, List.map_nil]); first | done | rfl | (simp only [List.length_drop, List.length_take]; rfl)) ?_
 with_reducible refine (sequiturref01_Of.calls t327 t330 t331 _ A5.out).mono ?_
 rintro e w17 ⟨rfl, hb⟩
 refine ⟨_, rfl, ?_⟩
 replace BK325 := zK (blk_below (g := gb325) (o := .cells #[.int .i64 a0_0, .int .u64 a0_1, .int .i64 a0_2, .int .u64 a0_3] 109 (0, 0)) (zb BK325) hb)
 replace BK326 := zK (blk_below (g := gb326) (o := .cells #[.int .i64 0, .int .u64 0, .int .i64 0, .int .u64 0] 109 (0, 0)) (zb BK326) hb)
 replace BK329 := zK (blk_below (g := gb329) (o := .cells #[.int .i64 t327, .int .u64 t328] 107 (0, 0)) (zb BK329) hb)
 replace HB := zK (below_step (zo HB) hb)
 (try clear hb); (try clear hb2); (try clear hk); (try clear hi)
 refine hK.out _ _ ⟨(blk_cell BK325.out 0).trans rfl, (blk_cell BK325.out 1).trans rfl, (blk_cell BK325.out 2).trans rfl, (blk_cell BK325.out 3).trans rfl, (blk_cell BK329.out 0).trans rfl, (blk_cell BK329.out 1).trans rfl⟩ (fun hHeld => ?_)
 clear hK K
 refine norm_ (a' := ?_) ?_ ?_; rotate_left; (show Act.put _ (some 15) _ = _; simp only [Act.put, zt, zz, zs, i64_w, i32_w]; rfl)
 refine one_ (i := 5) (N := some 16) #[T_,T_,T_,T_,T_,T_,F_,F_] rfl rfl (one_of HT_.out (by kernel_rfl)) (by decide) (fun K hK => ?_)
 refine goes_ Try.func79 (by kernel_rfl) rfl #[.agg #[.int .i64 a0_0, .int .u64 a0_1], .agg #[.int .i64 t330, .int .u64 t331]] (by rfl) rfl rfl (by (try simp only [List.map_toArray, List.map_cons, List.map_nil]); first | done | rfl | (simp only [List.length_drop, List.length_take]; rfl)) ?_
 with_reducible refine (sequiturref01_Plus.calls a0_0 a0_1 t330 t331 t332 t333 _ A6.out).mono ?_
 rintro e w18 ⟨rfl, hb⟩
 refine ⟨_, rfl, ?_⟩
 replace BK325 := zK (blk_below (g := gb325) (o := .cells #[.int .i64 a0_0, .int .u64 a0_1, .int .i64 a0_2, .int .u64 a0_3] 109 (0, 0)) (zb BK325) hb)
 replace BK326 := zK (blk_below (g := gb326) (o := .cells #[.int .i64 0, .int .u64 0, .int .i64 0, .int .u64 0] 109 (0, 0)) (zb BK326) hb)
 replace BK329 := zK (blk_below (g := gb329) (o := .cells #[.int .i64 t327, .int .u64 t328] 107 (0, 0)) (zb BK329) hb)
 replace HB := zK (below_step (zo HB) hb)
 (try clear hb); (try clear hb2); (try clear hk); (try clear hi)
 refine hK.out _ _ ⟨(blk_cell BK325.out 0).trans rfl, (blk_cell BK325.out 1).trans rfl, (blk_cell BK325.out 2).trans rfl, (blk_cell BK325.out 3).trans rfl, (blk_cell BK329.out 0).trans rfl, (blk_cell BK329.out 1).trans rfl⟩ (fun hHeld => ?_)
 clear hK K
 refine norm_ (a' := ?_) ?_ ?_; rotate_left; (show Act.put _ (some 16) _ = _; simp only [Act.put, zt, zz, zs, i64_w, i32_w]; rfl)
 refine pure_ (i := 6) (N := some 17) (v := ?_) (a' := ?_) #[T_,T_,T_,T_,T_,T_,T_,F_] rfl rfl (any_of HT_.out (by kernel_rfl)) (fun _ _ _ h => h) (Or.inl ⟨by rfl, ?_⟩) ?_ ?_; rotate_left; (intro w'; go_simp; with_reducible rfl); rotate_left; (simp only [Act.put, zt, zz, zs, i64_w, i32_w]; rfl)
 refine last_ (i := 7) (N := none) #[T_,T_,T_,T_,T_,T_,T_,T_] rfl rfl (one_of HT_.out (by kernel_rfl)) (by decide) (fun K hK => ?_)
 have hs19 : w18.cell? ⟨gb325, 0, none⟩ = some (.int .i64 a0_0) := (blk_cell BK325.out 0).trans rfl
 have hfs19 := blk_frozen BK325.out 0
 have hns19_1 := NB326_325.out
 have hns19_2 := NB329_325.out
 have hms19_1 := NB325_326.out
 have hms19_2 := NB325_329.out
 have hs20 : w18.cell? ⟨gb325, 1, none⟩ = some (.int .u64 a0_1) := (blk_cell BK325.out 1).trans rfl
 have hfs20 := blk_frozen BK325.out 1
 have hns20_1 := NB326_325.out
 have hns20_2 := NB329_325.out
 have hms20_1 := NB325_326.out
 have hms20_2 := NB325_329.out
 refine skip_ (w1 := ?_) (by rfl) rfl ?_ ?_
 rotate_left
 ·go_simp
  rfl
 refine hK.out _ _ ?_
 clear hK K
 refine done_ (done_of HT_.out (by kernel_rfl)) ?_
 have hnb21 := NB325_326.out
 have hnc21 := NB326_325.out
 have hcz22_0 : w18.cell? ⟨gb325, 0, none⟩ = some (.int .i64 a0_0) := (blk_cell BK325.out 0).trans rfl
 have hcz22_1 : w18.cell? ⟨gb325, 1, none⟩ = some (.int .u64 a0_1) := (blk_cell BK325.out 1).trans rfl
 have hcz22_2 : w18.cell? ⟨gb325, 2, none⟩ = some (.int .i64 a0_2) := (blk_cell BK325.out 2).trans rfl
 have hcz22_3 : w18.cell? ⟨gb325, 3, none⟩ = some (.int .u64 a0_3) := (blk_cell BK325.out 3).trans rfl
 have hfz22_0 := blk_frozen BK325.out 0
 have hfz22_1 := blk_frozen BK325.out 1
 have hfz22_2 := blk_frozen BK325.out 2
 have hfz22_3 := blk_frozen BK325.out 3
 have hcz23_0 : w18.cell? ⟨gb329, 0, none⟩ = some (.int .i64 t327) := (blk_cell BK329.out 0).trans rfl
 have hcz23_1 : w18.cell? ⟨gb329, 1, none⟩ = some (.int .u64 t328) := (blk_cell BK329.out 1).trans rfl
 have hfz23_0 := blk_frozen BK329.out 0
 have hfz23_1 := blk_frozen BK329.out 1
 try go_wp2_with (first | ((with_reducible refine zC (f := 79) rfl ?_); refine goesL_ (some 23) rfl rfl Try.func79 (by kernel_rfl) rfl #[.agg #[.int .i64 a0_2, .int .u64 a0_3], .agg #[.int .i64 0, .int .u64 t328]] rfl (by (try simp only [List.map_toArray, List.map_cons, List.map_nil]); first | done | rfl | (simp only [List.length_drop, List.length_take]; rfl)) ?_; (with_reducible refine (sequiturref01_Plus.calls a0_2 a0_3 0 t328 t334 t335 _ A7.out).mono ?_); rintro e w24 ⟨rfl, hb⟩; refine ⟨_, rfl, ?_⟩; replace BK325 := zK (blk_below (g := gb325) (o := .cells #[.int .i64 t332, .int .u64 t333, .int .i64 a0_2, .int .u64 a0_3] 109 (0, 0)) (by refine zM ?_; refine blk_put (cs := #[.int .i64 t332, .int .u64 a0_1, .int .i64 a0_2, .int .u64 a0_3]) ?_ 1 _ rfl; refine zM ?_; refine blk_put (cs := #[.int .i64 a0_0, .int .u64 a0_1, .int .i64 a0_2, .int .u64 a0_3]) ?_ 0 _ rfl; refine zM ?_; exact BK325.out) hb); replace BK326 := zK (blk_below (g := gb326) (o := .cells #[.int .i64 0, .int .u64 0, .int .i64 0, .int .u64 0] 109 (0, 0)) (zb BK326) hb); replace BK329 := zK (blk_below (g := gb329) (o := .cells #[.int .i64 t327, .int .u64 t328] 107 (0, 0)) (zb BK329) hb); replace HB := zK (below_step (zo HB) hb); (try clear hb); (try clear hb2); (try clear hk); (try clear hi); have hcz25_0 : w24.cell? ⟨gb325, 0, none⟩ = some (.int .i64 t332) := (blk_cell BK325.out 0).trans rfl; have hcz25_1 : w24.cell? ⟨gb325, 1, none⟩ = some (.int .u64 t333) := (blk_cell BK325.out 1).trans rfl; have hcz25_2 : w24.cell? ⟨gb325, 2, none⟩ = some (.int .i64 a0_2) := (blk_cell BK325.out 2).trans rfl; have hcz25_3 : w24.cell? ⟨gb325, 3, none⟩ = some (.int .u64 a0_3) := (blk_cell BK325.out 3).trans rfl; have hfz25_0 := blk_frozen BK325.out 0; have hfz25_1 := blk_frozen BK325.out 1; have hfz25_2 := blk_frozen BK325.out 2; have hfz25_3 := blk_frozen BK325.out 3; have hcz26_0 : w24.cell? ⟨gb326, 0, none⟩ = some (.int .i64 0) := (blk_cell BK326.out 0).trans rfl; have hcz26_1 : w24.cell? ⟨gb326, 1, none⟩ = some (.int .u64 0) := (blk_cell BK326.out 1).trans rfl; have hcz26_2 : w24.cell? ⟨gb326, 2, none⟩ = some (.int .i64 0) := (blk_cell BK326.out 2).trans rfl; have hcz26_3 : w24.cell? ⟨gb326, 3, none⟩ = some (.int .u64 0) := (blk_cell BK326.out 3).trans rfl; have hfz26_0 := blk_frozen BK326.out 0; have hfz26_1 := blk_frozen BK326.out 1; have hfz26_2 := blk_frozen BK326.out 2; have hfz26_3 := blk_frozen BK326.out 3))
 refine bodyPost_ret (results_cell_row rfl _ _ gb326 109 #[.int .i64 t332, .int .u64 t333, .int .i64 t334, .int .u64 t335] (0, 0) _ rfl (by refine zM ?_; refine blk_put (cs := #[.int .i64 t332, .int .u64 t333, .int .i64 t334, .int .u64 0]) ?_ 3 _ rfl; refine zM ?_; refine blk_put (cs := #[.int .i64 t332, .int .u64 t333, .int .i64 0, .int .u64 0]) ?_ 2 _ rfl; refine zM ?_; refine blk_put (cs := #[.int .i64 t332, .int .u64 0, .int .i64 0, .int .u64 0]) ?_ 1 _ rfl; refine zM ?_; refine blk_put (cs := #[.int .i64 0, .int .u64 0, .int .i64 0, .int .u64 0]) ?_ 0 _ rfl; refine zM ?_; refine blk_far ?_ NB326_325.out _; refine zM ?_; refine blk_far ?_ NB326_325.out _; refine zM ?_; exact BK326.out) Try.underlying109 rfl (by kernel_rfl)) rfl ?_
 exact ⟨by first | rfl | (simp [errW_none, errW_some] <;> rfl) | (simp [*, errW_none, errW_some] <;> rfl), zo HB⟩

end Go.Proofs.Ytkfbfgkdabljiaa.PShadowSplits
