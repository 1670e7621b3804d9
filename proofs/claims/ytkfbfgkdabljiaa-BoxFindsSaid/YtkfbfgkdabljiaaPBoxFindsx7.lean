/- What the call of each function that the law reaches comes to: it answers as the plain function of the same name does, wherever that one answers; and the law itself out of its plain form. Written by a program of this session (an extended copy of the printer); no condition but what stands in each theorem. -/
import Derived.Test.YtkfbfgkdabljiaaPBoxFindsx0
import Derived.Test.YtkfbfgkdabljiaaPBoxFindsx5
import Derived.Test.YtkfbfgkdabljiaaPBoxFindsx6
namespace Go.Proofs.Ytkfbfgkdabljiaa.PBoxFinds
open Go.RowKit Go.Proofs.YtkfbfgkdabljiaaW.PrintWords Go.Proofs.YtkfbfgkdabljiaaW.PrintLast Go.Proofs.YtkfbfgkdabljiaaW.PrintMore
open Go.Proofs.YtkfbfgkdabljiaaW.PrintWords renaming blk_drewN → zN, blk_drew → zD, blk_alloc → zA, below_alloc → yA, pw_below_drewN → yN, below_drew1 → yD, below_set → yS, gate_callee → zC
open Go.Proofs.YtkfbfgkdabljiaaW.PrintWords.Kd renaming C_alloc → cA, C_drewN → cN, C_drew → cD
open Go.Proofs.YtkfbfgkdabljiaaW.PrintWords.Aside0 renaming mk → zK
attribute [local go_sem] max2_int min2_int max_two min_two max_three min_three max_four min_four   -- for this text's walks alone
set_option linter.unusedVariables false
set_option linter.unusedSimpArgs false

/-! ### sequiturref32_wrong: function 48 -/
def sequiturref32_wrong.l0 : Nat → List (S70) → Int → Int → Option (Int)
 | 0, _, _, _ => none
 | k + 1, x0, x7, x8 => if x8 < (x0.length : Int) then (if 0 ≤ x8 then ((sequiturref28_Form.f k ((rd_T70 x0 x8).f0.f0) ((rd_T70 x0 x8).f0.f1)).bind fun t198 => (if t198 = true then (sequiturref32_wrong.l0 k x0 x7 (wrap64 (x8 + 1))) else (some 1))) else (none)) else (if x7 > 65536 then (some 2) else (some 0))
def sequiturref32_wrong.f (k : Nat) (l0 : List (S70)) (l1 : List Int) (l2 : List Int) : Option (Int) := (sequiturref32_points.f k l1 l2).bind fun t196 => (if t196 = 0 then (some 1) else (sequiturref32_wrong.l0 k l0 t196 0))
theorem sequiturref32_wrong.mono_l : ∀ k, (∀ y0 y1 y2, LeO (sequiturref32_wrong.l0 k y0 y1 y2) (sequiturref32_wrong.l0 (k + 1) y0 y1 y2))
 | 0 => fun _ _ _ r h => by simp [sequiturref32_wrong.l0] at h
 | k + 1 => by
  have ih0 := sequiturref32_wrong.mono_l k
  ·intro y0 y1 y2
   unfold sequiturref32_wrong.l0
   repeat' first
   | (with_reducible exact ih0 _ _ _)
   | (with_reducible exact sequiturref28_Form.mono _ _ _)
   | (with_reducible exact sequiturref32_points.mono _ _ _)
   | (with_reducible exact LeO.refl _)
   | (with_reducible exact LeO.none _)
   | (with_reducible refine LeO.ite ?_ ?_)
   | (with_reducible refine LeO.bind ?_ (fun _ => ?_))
   | exact ih0 _ _ _
   | exact sequiturref28_Form.mono _ _ _
   | exact sequiturref32_points.mono _ _ _
   | exact LeO.none _
   | refine LeO.ite ?_ ?_
   | refine LeO.bind ?_ (fun _ => ?_)
theorem sequiturref32_wrong.mono : ∀ a0 a1 a2 k, LeO (sequiturref32_wrong.f k a0 a1 a2) (sequiturref32_wrong.f (k + 1) a0 a1 a2) := by
 intro a0 a1 a2 k
 have ih0 := sequiturref32_wrong.mono_l k
 unfold sequiturref32_wrong.f
 repeat' first
   | (with_reducible exact ih0 _ _ _)
   | (with_reducible exact sequiturref28_Form.mono _ _ _)
   | (with_reducible exact sequiturref32_points.mono _ _ _)
   | (with_reducible exact LeO.refl _)
   | (with_reducible exact LeO.none _)
   | (with_reducible refine LeO.ite ?_ ?_)
   | (with_reducible refine LeO.bind ?_ (fun _ => ?_))
   | exact ih0 _ _ _
   | exact sequiturref28_Form.mono _ _ _
   | exact sequiturref32_points.mono _ _ _
   | exact LeO.none _
   | refine LeO.ite ?_ ?_
   | refine LeO.bind ?_ (fun _ => ?_)
set_option maxHeartbeats 8000000 in
set_option maxRecDepth 100000 in
theorem sequiturref32_wrong.calls (k : Nat) (A0 : Option Addr) (c0 : Nat) (l0 : List (S70)) (A1 : Option Addr) (c1 : Nat) (l1 : List Int) (A2 : Option Addr) (c2 : Nat) (l2 : List Int) (r : Int) (w : World) (hr0 : Kd.C k70 w A0 l0.length l0) (hc0 : l0.length ≤ c0) (hr1 : Kd.C (Kd.int .i64) w A1 l1.length l1) (hc1 : l1.length ≤ c1) (hr2 : Kd.C (Kd.int .i64) w A2 l2.length l2) (hc2 : l2.length ≤ c2) (h : sequiturref32_wrong.f k l0 l1 l2 = some r) :
  Calls Try.prog 48 #[.slice A0 l0.length c0, .slice A1 l1.length c1, .slice A2 l2.length c2] w fun e w' => e = .returned (.int .i64 r) ∧ Below w.heap.size w w' := by
 have hu62 := Try.underlying62
 have HR0 := zK hr0
 have HC0 := zK hc0; clear hr0 hc0
 have HR1 := zK hr1
 have HC1 := zK hc1; clear hr1 hc1
 have HR2 := zK hr2
 have HC2 := zK hc2; clear hr2 hc2
 have HB := zK (Below.refl w.heap.size w)
 have H : ((sequiturref32_points.f k l1 l2).bind fun t196 => (if t196 = 0 then (some 1) else (sequiturref32_wrong.l0 k l0 t196 0))) = some r := h
 clear h; replace H := Option.bind_eq_some_iff.mp H
 obtain ⟨t196, A40, H⟩ := H
 replace H : (if t196 = 0 then (some 1) else (sequiturref32_wrong.l0 k l0 t196 0)) = some r := H
 have A4 := zK A40; clear A40
 by_cases c5 : t196 = 0
 ·rw [if_pos c5] at H
  have c5b0 : (t196 == 0) = true := beq_iff_eq.mpr c5
  have c5b1 : (t196 != 0) = false := bne_eq_false_iff_eq.mpr c5; clear c5
  obtain rfl := Option.some.inj H
  go_enter Try.func48, Try.ntmps48
  go_wp2_with (first | ((with_reducible refine zC (f := 50) rfl ?_); refine goesL_ (some 11) rfl rfl Try.func50 (by kernel_rfl) rfl #[.slice A1 l1.length c1, .slice A2 l2.length c2] rfl (by (try simp only [List.map_toArray, List.map_cons, List.map_nil]); first | done | rfl | (simp only [List.length_drop, List.length_take]; rfl)) ?_; (with_reducible refine (sequiturref32_points.calls k _ _ l1 _ _ l2 t196 _ ?side1 ?side2 ?side3 ?side4 A4.out).mono ?_); (case side1 => repeat (first | exact HR1.out | (with_reducible refine cA ?_ _) | (with_reducible refine cN ?_ _) | (with_reducible refine cD ?_))); (case side2 => exact HC1.out); (case side3 => repeat (first | exact HR2.out | (with_reducible refine cA ?_ _) | (with_reducible refine cN ?_ _) | (with_reducible refine cD ?_))); (case side4 => exact HC2.out); rintro e w' ⟨rfl, ⟨nd, rfl⟩⟩; refine ⟨_, rfl, ?_⟩))
  go_ret
  exact ⟨by first | rfl | (simp [errW_none, errW_some] <;> rfl) | (simp [*, errW_none, errW_some] <;> rfl), zo HB⟩
 ·rw [if_neg c5] at H
  have c5b0 : (t196 == 0) = false := beq_eq_false_iff_ne.mpr c5
  have c5b1 : (t196 != 0) = true := bne_iff_ne.mpr c5
  have H' := zK H; clear H
  go_enter Try.func48, Try.ntmps48
  go_wp2_with (first | ((with_reducible refine zC (f := 50) rfl ?_); refine goesL_ (some 11) rfl rfl Try.func50 (by kernel_rfl) rfl #[.slice A1 l1.length c1, .slice A2 l2.length c2] rfl (by (try simp only [List.map_toArray, List.map_cons, List.map_nil]); first | done | rfl | (simp only [List.length_drop, List.length_take]; rfl)) ?_; (with_reducible refine (sequiturref32_points.calls k _ _ l1 _ _ l2 t196 _ ?side1 ?side2 ?side3 ?side4 A4.out).mono ?_); (case side1 => repeat (first | exact HR1.out | (with_reducible refine cA ?_ _) | (with_reducible refine cN ?_ _) | (with_reducible refine cD ?_))); (case side2 => exact HC1.out); (case side3 => repeat (first | exact HR2.out | (with_reducible refine cA ?_ _) | (with_reducible refine cN ?_ _) | (with_reducible refine cD ?_))); (case side4 => exact HC2.out); rintro e w' ⟨rfl, ⟨nd, rfl⟩⟩; refine ⟨_, rfl, ?_⟩))
  go_loopg [8] k (fun kq v8 w' => ∃ (x8_1 : Int), v8 = .int .i64 x8_1 ∧ Aside0 (sequiturref32_wrong.l0 kq l0 t196 x8_1 = some r) ∧ Aside0 (kq ≤ k) ∧ Aside0 (Below w.heap.size w w'))
  case atStart => exact ⟨(0), (by first | rfl | (simp; done) | (simp [*]; done)), H', ⟨Nat.le_refl _⟩, ⟨zo HB⟩⟩
  case round =>
   clear H'; try clear c1; try clear c2; try clear p2
   try clear c4; try clear c5; try clear c5b0; try clear c5b1
   obtain ⟨x8_1, rfl, HA, HK1, HB⟩ := hrel
   cases gk with
   | zero => exact absurd HA.out (by simp [sequiturref32_wrong.l0])
   | succ k1 =>
    have H := HA.out; clear HA
    simp only [sequiturref32_wrong.l0] at H
    by_cases c6 : x8_1 < (l0.length : Int)
    ·rw [if_pos c6] at H
     have c6b0 : decide (x8_1 < (l0.length : Int)) = true := decide_eq_true c6
     clear c6
     by_cases c7 : 0 ≤ x8_1
     ·rw [if_pos c7] at H
      have c7b0 : decide (0 ≤ x8_1) = true := decide_eq_true c7; clear c7
      replace H := Option.bind_eq_some_iff.mp H
      obtain ⟨t198, A80, H⟩ := H
      replace H : (if t198 = true then (sequiturref32_wrong.l0 k1 l0 t196 (wrap64 (x8_1 + 1))) else (some 1)) = some r := H
      have A8 := zK A80; clear A80
      by_cases c9 : t198 = true
      ·subst c9
       have H1 : (sequiturref32_wrong.l0 k1 l0 t196 (wrap64 (x8_1 + 1))) = some r := by rw [if_pos rfl] at H; exact H
       clear H; have H := H1; clear H1
       have H' := zK H; clear H
       have p197 : 0 ≤ (x8_1 : Int) := of_decide_eq_true (by first | (with_reducible assumption) | assumption)
       have q197 : x8_1 < (l0.length : Int) := of_decide_eq_true (by first | (with_reducible assumption) | assumption)
       obtain ⟨ad197, A197_1, c197_1, e197, hx197_0, hx197_1, hx197_2, hl197_1, hi197_1⟩ := at_T70 HR0.out x8_1 p197 q197
       cases e197
       replace hx197_0 := (HB.out.cell (World.block_lt_of_cell? w _ hx197_0)).trans hx197_0
       replace hx197_1 := (HB.out.cell (World.block_lt_of_cell? w _ hx197_1)).trans hx197_1
       replace hx197_2 := (HB.out.cell (World.block_lt_of_cell? w _ hx197_2)).trans hx197_2
       have HR197_1 := zK hi197_1
       have HC197_1 := zK hl197_1; clear hi197_1 hl197_1
       replace p197 := eq_true p197
       replace q197 := eq_true q197
       go_wp2_with (first | ((with_reducible refine zC (f := 83) rfl ?_); refine goesL_ (some 25) rfl rfl Try.func83 (by kernel_rfl) rfl #[.agg #[.int .i64 ((rd_T70 l0 x8_1).f0.f0), .slice A197_1 ((rd_T70 l0 x8_1).f0.f1).length c197_1]] rfl (by (try simp only [List.map_toArray, List.map_cons, List.map_nil]); first | done | rfl | (simp only [List.length_drop, List.length_take]; rfl)) ?_; (with_reducible refine (sequiturref28_Form.calls k1 ((rd_T70 l0 x8_1).f0.f0) _ _ ((rd_T70 l0 x8_1).f0.f1) true _ ?side1 ?side2 A8.out).mono ?_); (case side1 => repeat (first | exact (Kd.C_below HR197_1.out HB.out) | (with_reducible refine cA ?_ _) | (with_reducible refine cN ?_ _) | (with_reducible refine cD ?_))); (case side2 => exact HC197_1.out); rintro e w10 ⟨rfl, hb⟩; refine ⟨_, rfl, ?_⟩; replace HB := zK (below_step (zo HB) hb); (try clear hb); (try clear hb2); (try clear hk); (try clear hi)))
       go_roundg k1
       case measure => have := HK1.out; omega
       case rel => exact ⟨(wrap64 (x8_1 + 1)), (by first | rfl | (simp; done) | (simp [*]; done)), H', ⟨by have := HK1.out; omega⟩, ⟨zo HB⟩⟩
      ·replace c9 := Bool.eq_false_iff.mpr c9
       subst c9
       have H1 : (some 1) = some r := by rw [if_neg (show ¬ (false = true) by decide)] at H; exact H
       clear H; have H := H1; clear H1
       obtain rfl := Option.some.inj H
       have p197 : 0 ≤ (x8_1 : Int) := of_decide_eq_true (by first | (with_reducible assumption) | assumption)
       have q197 : x8_1 < (l0.length : Int) := of_decide_eq_true (by first | (with_reducible assumption) | assumption)
       obtain ⟨ad197, A197_1, c197_1, e197, hx197_0, hx197_1, hx197_2, hl197_1, hi197_1⟩ := at_T70 HR0.out x8_1 p197 q197
       cases e197
       replace hx197_0 := (HB.out.cell (World.block_lt_of_cell? w _ hx197_0)).trans hx197_0
       replace hx197_1 := (HB.out.cell (World.block_lt_of_cell? w _ hx197_1)).trans hx197_1
       replace hx197_2 := (HB.out.cell (World.block_lt_of_cell? w _ hx197_2)).trans hx197_2
       have HR197_1 := zK hi197_1
       have HC197_1 := zK hl197_1; clear hi197_1 hl197_1
       replace p197 := eq_true p197
       replace q197 := eq_true q197
       go_wp2_with (first | ((with_reducible refine zC (f := 83) rfl ?_); refine goesL_ (some 25) rfl rfl Try.func83 (by kernel_rfl) rfl #[.agg #[.int .i64 ((rd_T70 l0 x8_1).f0.f0), .slice A197_1 ((rd_T70 l0 x8_1).f0.f1).length c197_1]] rfl (by (try simp only [List.map_toArray, List.map_cons, List.map_nil]); first | done | rfl | (simp only [List.length_drop, List.length_take]; rfl)) ?_; (with_reducible refine (sequiturref28_Form.calls k1 ((rd_T70 l0 x8_1).f0.f0) _ _ ((rd_T70 l0 x8_1).f0.f1) false _ ?side1 ?side2 A8.out).mono ?_); (case side1 => repeat (first | exact (Kd.C_below HR197_1.out HB.out) | (with_reducible refine cA ?_ _) | (with_reducible refine cN ?_ _) | (with_reducible refine cD ?_))); (case side2 => exact HC197_1.out); rintro e w11 ⟨rfl, hb⟩; refine ⟨_, rfl, ?_⟩; replace HB := zK (below_step (zo HB) hb); (try clear hb); (try clear hb2); (try clear hk); (try clear hi)))
       go_ret
       exact ⟨by first | rfl | (simp [errW_none, errW_some] <;> rfl) | (simp [*, errW_none, errW_some] <;> rfl), zo HB⟩
     ·rw [if_neg c7] at H
      exact absurd H (by simp)
    ·rw [if_neg c6] at H
     have c6b0 : decide (x8_1 < (l0.length : Int)) = false := decide_eq_false c6
     clear c6
     by_cases c12 : t196 > 65536
     ·rw [if_pos c12] at H
      have c12b0 : decide (65536 < t196) = true := decide_eq_true c12; clear c12
      obtain rfl := Option.some.inj H
      go_wp2
      go_ret
      exact ⟨by first | rfl | (simp [errW_none, errW_some] <;> rfl) | (simp [*, errW_none, errW_some] <;> rfl), zo HB⟩
     ·rw [if_neg c12] at H
      have c12b0 : decide (65536 < t196) = false := decide_eq_false c12; clear c12
      obtain rfl := Option.some.inj H
      go_wp2
      go_ret
      exact ⟨by first | rfl | (simp [errW_none, errW_some] <;> rfl) | (simp [*, errW_none, errW_some] <;> rfl), zo HB⟩

/-! ### sequiturref01_Plus: function 79 -/
def sequiturref01_Plus.f (a0_0 : Int) (a0_1 : Int) (a1_0 : Int) (a1_1 : Int) : Option (Int × Int) := if (IntKind.u64.wrap (a0_1 + a1_1)) < a0_1 then (some (wrap64 ((wrap64 (a0_0 + a1_0)) + 1), IntKind.u64.wrap (a0_1 + a1_1))) else (some (wrap64 (a0_0 + a1_0), IntKind.u64.wrap (a0_1 + a1_1)))
set_option maxHeartbeats 8000000 in
set_option maxRecDepth 100000 in
theorem sequiturref01_Plus.calls (a0_0 : Int) (a0_1 : Int) (a1_0 : Int) (a1_1 : Int) (r1 : Int) (r2 : Int) (w : World) (h : sequiturref01_Plus.f a0_0 a0_1 a1_0 a1_1 = some (r1, r2)) :
  Calls Try.prog 79 #[.agg #[.int .i64 a0_0, .int .u64 a0_1], .agg #[.int .i64 a1_0, .int .u64 a1_1]] w fun e w' => e = .returned (.agg #[.int .i64 r1, .int .u64 r2]) ∧ Below w.heap.size w w' := by
 have hu107 := Try.underlying107
 have HB := zK (Below.refl w.heap.size w)
 have H : (if (IntKind.u64.wrap (a0_1 + a1_1)) < a0_1 then (some (wrap64 ((wrap64 (a0_0 + a1_0)) + 1), IntKind.u64.wrap (a0_1 + a1_1))) else (some (wrap64 (a0_0 + a1_0), IntKind.u64.wrap (a0_1 + a1_1)))) = some (r1, r2) := h
 clear h
 by_cases c3 : (IntKind.u64.wrap (a0_1 + a1_1)) < a0_1
 ·rw [if_pos c3] at H
  have c3b0 : decide ((IntKind.u64.wrap (a0_1 + a1_1)) < a0_1) = true := decide_eq_true c3
  clear c3
  simp only [Option.some.injEq, Prod.mk.injEq] at H
  obtain ⟨rfl, rfl⟩ := H
  go_enter Try.func79, Try.ntmps79
  go_wp2_with (first | ((with_reducible refine gate_dst (N := 2) rfl ?_); refine box_event ?hg (N := 2) ?hd (cs := #[.int .i64 a0_0, .int .u64 a0_1]) (t := 107) ?hr ?_; (case hd => rfl); (case hg => rfl); (case hr => first | (go_simp; done) | (go_simp; rfl)); intro gb199 hg w4 hbox hb; have BK199 := zK (hbox); have GW199 := zK ((by rw [hg]; exact (below_size (zo HB)) : w.heap.size ≤ gb199)); have GE199 := zK ((by rw [hg]; exact (below_size (zo HB)) : w.heap.size ≤ gb199)); replace HB := zK (below_step (zo HB) hb); clear hb hbox hg) | ((with_reducible refine gate_dst (N := 3) rfl ?_); refine box_event ?hg (N := 3) ?hd (cs := #[.int .i64 a1_0, .int .u64 a1_1]) (t := 107) ?hr ?_; (case hd => rfl); (case hg => rfl); (case hr => first | (go_simp; done) | (go_simp; rfl)); intro gb200 hg w5 hbox hb; have BK200 := zK (hbox); have GW200 := zK ((by rw [hg]; exact (below_size (zo HB)) : w.heap.size ≤ gb200)); have GE200 := zK ((by rw [hg]; exact (below_size (zo HB)) : w.heap.size ≤ gb200)); replace HB := zK (below_step (zo HB) hb); have NB199_200 := zK ((by rw [hg]; exact Nat.ne_of_lt (blk_lt (g := gb199) (o := .cells #[.int .i64 a0_0, .int .u64 a0_1] 107 (0, 0)) (zb BK199)) : gb199 ≠ gb200)); have NB200_199 := zK ((by rw [hg]; exact Nat.ne_of_gt (blk_lt (g := gb199) (o := .cells #[.int .i64 a0_0, .int .u64 a0_1] 107 (0, 0)) (zb BK199)) : gb200 ≠ gb199)); replace BK199 := zK (blk_below (g := gb199) (o := .cells #[.int .i64 a0_0, .int .u64 a0_1] 107 (0, 0)) (zb BK199) hb); clear hb hbox hg) | ((with_reducible refine gate_dst (N := 4) rfl ?_); refine box_event ?hg (N := 4) ?hd (cs := #[.int .i64 0, .int .u64 0]) (t := 107) ?hr ?_; (case hd => rfl); (case hg => rfl); (case hr => first | (go_simp; done) | (go_simp; rfl)); intro gb201 hg w6 hbox hb; have BK201 := zK (hbox); have GW201 := zK ((by rw [hg]; exact (below_size (zo HB)) : w.heap.size ≤ gb201)); have GE201 := zK ((by rw [hg]; exact (below_size (zo HB)) : w.heap.size ≤ gb201)); replace HB := zK (below_step (zo HB) hb); have NB199_201 := zK ((by rw [hg]; exact Nat.ne_of_lt (blk_lt (g := gb199) (o := .cells #[.int .i64 a0_0, .int .u64 a0_1] 107 (0, 0)) (zb BK199)) : gb199 ≠ gb201)); have NB201_199 := zK ((by rw [hg]; exact Nat.ne_of_gt (blk_lt (g := gb199) (o := .cells #[.int .i64 a0_0, .int .u64 a0_1] 107 (0, 0)) (zb BK199)) : gb201 ≠ gb199)); replace BK199 := zK (blk_below (g := gb199) (o := .cells #[.int .i64 a0_0, .int .u64 a0_1] 107 (0, 0)) (zb BK199) hb); have NB200_201 := zK ((by rw [hg]; exact Nat.ne_of_lt (blk_lt (g := gb200) (o := .cells #[.int .i64 a1_0, .int .u64 a1_1] 107 (0, 0)) (zb BK200)) : gb200 ≠ gb201)); have NB201_200 := zK ((by rw [hg]; exact Nat.ne_of_gt (blk_lt (g := gb200) (o := .cells #[.int .i64 a1_0, .int .u64 a1_1] 107 (0, 0)) (zb BK200)) : gb201 ≠ gb200)); replace BK200 := zK (blk_below (g := gb200) (o := .cells #[.int .i64 a1_0, .int .u64 a1_1] 107 (0, 0)) (zb BK200) hb); clear hb hbox hg; have hnb7 := NB199_200.out; have hnc7 := NB200_199.out; have hnb8 := NB199_201.out; have hnc8 := NB201_199.out; have hcz9_0 : w6.cell? ⟨gb199, 0, none⟩ = some (.int .i64 a0_0) := (blk_cell BK199.out 0).trans rfl; have hcz9_1 : w6.cell? ⟨gb199, 1, none⟩ = some (.int .u64 a0_1) := (blk_cell BK199.out 1).trans rfl; have hfz9_0 := blk_frozen BK199.out 0; have hfz9_1 := blk_frozen BK199.out 1; have hnb10 := NB200_201.out; have hnc10 := NB201_200.out; have hcz11_0 : w6.cell? ⟨gb200, 0, none⟩ = some (.int .i64 a1_0) := (blk_cell BK200.out 0).trans rfl; have hcz11_1 : w6.cell? ⟨gb200, 1, none⟩ = some (.int .u64 a1_1) := (blk_cell BK200.out 1).trans rfl; have hfz11_0 := blk_frozen BK200.out 0; have hfz11_1 := blk_frozen BK200.out 1; have hcz12_0 : w6.cell? ⟨gb201, 0, none⟩ = some (.int .i64 0) := (blk_cell BK201.out 0).trans rfl; have hcz12_1 : w6.cell? ⟨gb201, 1, none⟩ = some (.int .u64 0) := (blk_cell BK201.out 1).trans rfl; have hfz12_0 := blk_frozen BK201.out 0; have hfz12_1 := blk_frozen BK201.out 1))
  refine bodyPost_ret (results_cell_row rfl _ _ gb201 107 #[.int .i64 (wrap64 ((wrap64 (a0_0 + a1_0)) + 1)), .int .u64 (IntKind.u64.wrap (a0_1 + a1_1))] (0, 0) _ rfl (by refine zM ?_; refine blk_put (cs := #[.int .i64 (wrap64 ((wrap64 (a0_0 + a1_0)) + 1)), .int .u64 0]) ?_ 1 _ rfl; refine zM ?_; refine blk_put (cs := #[.int .i64 0, .int .u64 0]) ?_ 0 _ rfl; refine zM ?_; exact BK201.out) Try.underlying107 rfl (by kernel_rfl)) rfl ?_
  exact ⟨by first | rfl | (simp [errW_none, errW_some] <;> rfl) | (simp [*, errW_none, errW_some] <;> rfl), zo HB⟩
 ·rw [if_neg c3] at H
  have c3b0 : decide ((IntKind.u64.wrap (a0_1 + a1_1)) < a0_1) = false := decide_eq_false c3
  clear c3
  simp only [Option.some.injEq, Prod.mk.injEq] at H
  obtain ⟨rfl, rfl⟩ := H
  go_enter Try.func79, Try.ntmps79
  go_wp2_with (first | ((with_reducible refine gate_dst (N := 2) rfl ?_); refine box_event ?hg (N := 2) ?hd (cs := #[.int .i64 a0_0, .int .u64 a0_1]) (t := 107) ?hr ?_; (case hd => rfl); (case hg => rfl); (case hr => first | (go_simp; done) | (go_simp; rfl)); intro gb199 hg w13 hbox hb; have BK199 := zK (hbox); have GW199 := zK ((by rw [hg]; exact (below_size (zo HB)) : w.heap.size ≤ gb199)); have GE199 := zK ((by rw [hg]; exact (below_size (zo HB)) : w.heap.size ≤ gb199)); replace HB := zK (below_step (zo HB) hb); clear hb hbox hg) | ((with_reducible refine gate_dst (N := 3) rfl ?_); refine box_event ?hg (N := 3) ?hd (cs := #[.int .i64 a1_0, .int .u64 a1_1]) (t := 107) ?hr ?_; (case hd => rfl); (case hg => rfl); (case hr => first | (go_simp; done) | (go_simp; rfl)); intro gb200 hg w14 hbox hb; have BK200 := zK (hbox); have GW200 := zK ((by rw [hg]; exact (below_size (zo HB)) : w.heap.size ≤ gb200)); have GE200 := zK ((by rw [hg]; exact (below_size (zo HB)) : w.heap.size ≤ gb200)); replace HB := zK (below_step (zo HB) hb); have NB199_200 := zK ((by rw [hg]; exact Nat.ne_of_lt (blk_lt (g := gb199) (o := .cells #[.int .i64 a0_0, .int .u64 a0_1] 107 (0, 0)) (zb BK199)) : gb199 ≠ gb200)); have NB200_199 := zK ((by rw [hg]; exact Nat.ne_of_gt (blk_lt (g := gb199) (o := .cells #[.int .i64 a0_0, .int .u64 a0_1] 107 (0, 0)) (zb BK199)) : gb200 ≠ gb199)); replace BK199 := zK (blk_below (g := gb199) (o := .cells #[.int .i64 a0_0, .int .u64 a0_1] 107 (0, 0)) (zb BK199) hb); clear hb hbox hg) | ((with_reducible refine gate_dst (N := 4) rfl ?_); refine box_event ?hg (N := 4) ?hd (cs := #[.int .i64 0, .int .u64 0]) (t := 107) ?hr ?_; (case hd => rfl); (case hg => rfl); (case hr => first | (go_simp; done) | (go_simp; rfl)); intro gb201 hg w15 hbox hb; have BK201 := zK (hbox); have GW201 := zK ((by rw [hg]; exact (below_size (zo HB)) : w.heap.size ≤ gb201)); have GE201 := zK ((by rw [hg]; exact (below_size (zo HB)) : w.heap.size ≤ gb201)); replace HB := zK (below_step (zo HB) hb); have NB199_201 := zK ((by rw [hg]; exact Nat.ne_of_lt (blk_lt (g := gb199) (o := .cells #[.int .i64 a0_0, .int .u64 a0_1] 107 (0, 0)) (zb BK199)) : gb199 ≠ gb201)); have NB201_199 := zK ((by rw [hg]; exact Nat.ne_of_gt (blk_lt (g := gb199) (o := .cells #[.int .i64 a0_0, .int .u64 a0_1] 107 (0, 0)) (zb BK199)) : gb201 ≠ gb199)); replace BK199 := zK (blk_below (g := gb199) (o := .cells #[.int .i64 a0_0, .int .u64 a0_1] 107 (0, 0)) (zb BK199) hb); have NB200_201 := zK ((by rw [hg]; exact Nat.ne_of_lt (blk_lt (g := gb200) (o := .cells #[.int .i64 a1_0, .int .u64 a1_1] 107 (0, 0)) (zb BK200)) : gb200 ≠ gb201)); have NB201_200 := zK ((by rw [hg]; exact Nat.ne_of_gt (blk_lt (g := gb200) (o := .cells #[.int .i64 a1_0, .int .u64 a1_1] 107 (0, 0)) (zb BK200)) : gb201 ≠ gb200)); replace BK200 := zK (blk_below (g := gb200) (o := .cells #[.int .i64 a1_0, .int .u64 a1_1] 107 (0, 0)) (zb BK200) hb); clear hb hbox hg; have hnb16 := NB199_200.out; have hnc16 := NB200_199.out; have hnb17 := NB199_201.out; have hnc17 := NB201_199.out; have hcz18_0 : w15.cell? ⟨gb199, 0, none⟩ = some (.int .i64 a0_0) := (blk_cell BK199.out 0).trans rfl; have hcz18_1 : w15.cell? ⟨gb199, 1, none⟩ = some (.int .u64 a0_1) := (blk_cell BK199.out 1).trans rfl; have hfz18_0 := blk_frozen BK199.out 0; have hfz18_1 := blk_frozen BK199.out 1; have hnb19 := NB200_201.out; have hnc19 := NB201_200.out; have hcz20_0 : w15.cell? ⟨gb200, 0, none⟩ = some (.int .i64 a1_0) := (blk_cell BK200.out 0).trans rfl; have hcz20_1 : w15.cell? ⟨gb200, 1, none⟩ = some (.int .u64 a1_1) := (blk_cell BK200.out 1).trans rfl; have hfz20_0 := blk_frozen BK200.out 0; have hfz20_1 := blk_frozen BK200.out 1; have hcz21_0 : w15.cell? ⟨gb201, 0, none⟩ = some (.int .i64 0) := (blk_cell BK201.out 0).trans rfl; have hcz21_1 : w15.cell? ⟨gb201, 1, none⟩ = some (.int .u64 0) := (blk_cell BK201.out 1).trans rfl; have hfz21_0 := blk_frozen BK201.out 0; have hfz21_1 := blk_frozen BK201.out 1))
  refine bodyPost_ret (results_cell_row rfl _ _ gb201 107 #[.int .i64 (wrap64 (a0_0 + a1_0)), .int .u64 (IntKind.u64.wrap (a0_1 + a1_1))] (0, 0) _ rfl (by refine zM ?_; refine blk_put (cs := #[.int .i64 (wrap64 (a0_0 + a1_0)), .int .u64 0]) ?_ 1 _ rfl; refine zM ?_; refine blk_put (cs := #[.int .i64 0, .int .u64 0]) ?_ 0 _ rfl; refine zM ?_; exact BK201.out) Try.underlying107 rfl (by kernel_rfl)) rfl ?_
  exact ⟨by first | rfl | (simp [errW_none, errW_some] <;> rfl) | (simp [*, errW_none, errW_some] <;> rfl), zo HB⟩

/-! ### sequiturref01_Minus: function 80 -/
def sequiturref01_Minus.f (a0_0 : Int) (a0_1 : Int) : Option (Int × Int) := (sequiturref01_Plus.f (wrap64 ((-1) - a0_0)) (Go.bits .xor .u64 18446744073709551615 a0_1) 0 1).bind fun bt204 => (some (bt204.1, bt204.2))
set_option maxHeartbeats 8000000 in
set_option maxRecDepth 100000 in
theorem sequiturref01_Minus.calls (a0_0 : Int) (a0_1 : Int) (r1 : Int) (r2 : Int) (w : World) (h : sequiturref01_Minus.f a0_0 a0_1 = some (r1, r2)) :
  Calls Try.prog 80 #[.agg #[.int .i64 a0_0, .int .u64 a0_1]] w fun e w' => e = .returned (.agg #[.int .i64 r1, .int .u64 r2]) ∧ Below w.heap.size w w' := by
 have hu107 := Try.underlying107
 have HB := zK (Below.refl w.heap.size w)
 have H : ((sequiturref01_Plus.f (wrap64 ((-1) - a0_0)) (Go.bits .xor .u64 18446744073709551615 a0_1) 0 1).bind fun bt204 => (some (bt204.1, bt204.2))) = some (r1, r2) := h
 clear h; replace H := Option.bind_eq_some_iff.mp H
 obtain ⟨⟨t204, t205⟩, A20, H⟩ := H
 replace H : (some (t204, t205)) = some (r1, r2) := H
 have A2 := zK A20; clear A20
 simp only [Option.some.injEq, Prod.mk.injEq] at H
 obtain ⟨rfl, rfl⟩ := H
 go_enter Try.func80, Try.ntmps80
 go_wp2_with (first | ((with_reducible refine gate_dst (N := 1) rfl ?_); refine box_event ?hg (N := 1) ?hd (cs := #[.int .i64 a0_0, .int .u64 a0_1]) (t := 107) ?hr ?_; (case hd => rfl); (case hg => rfl); (case hr => first | (go_simp; done) | (go_simp; rfl)); intro gb202 hg w3 hbox hb; have BK202 := zK (hbox); have GW202 := zK ((by rw [hg]; exact (below_size (zo HB)) : w.heap.size ≤ gb202)); have GE202 := zK ((by rw [hg]; exact (below_size (zo HB)) : w.heap.size ≤ gb202)); replace HB := zK (below_step (zo HB) hb); clear hb hbox hg) | ((with_reducible refine gate_dst (N := 2) rfl ?_); refine box_event ?hg (N := 2) ?hd (cs := #[.int .i64 0, .int .u64 0]) (t := 107) ?hr ?_; (case hd => rfl); (case hg => rfl); (case hr => first | (go_simp; done) | (go_simp; rfl)); intro gb203 hg w4 hbox hb; have BK203 := zK (hbox); have GW203 := zK ((by rw [hg]; exact (below_size (zo HB)) : w.heap.size ≤ gb203)); have GE203 := zK ((by rw [hg]; exact (below_size (zo HB)) : w.heap.size ≤ gb203)); replace HB := zK (below_step (zo HB) hb); have NB202_203 := zK ((by rw [hg]; exact Nat.ne_of_lt (blk_lt (g := gb202) (o := .cells #[.int .i64 a0_0, .int .u64 a0_1] 107 (0, 0)) (zb BK202)) : gb202 ≠ gb203)); have NB203_202 := zK ((by rw [hg]; exact Nat.ne_of_gt (blk_lt (g := gb202) (o := .cells #[.int .i64 a0_0, .int .u64 a0_1] 107 (0, 0)) (zb BK202)) : gb203 ≠ gb202)); replace BK202 := zK (blk_below (g := gb202) (o := .cells #[.int .i64 a0_0, .int .u64 a0_1] 107 (0, 0)) (zb BK202) hb); clear hb hbox hg; have hnb5 := NB202_203.out; have hnc5 := NB203_202.out; have hcz6_0 : w4.cell? ⟨gb202, 0, none⟩ = some (.int .i64 a0_0) := (blk_cell BK202.out 0).trans rfl; have hcz6_1 : w4.cell? ⟨gb202, 1, none⟩ = some (.int .u64 a0_1) := (blk_cell BK202.out 1).trans rfl; have hfz6_0 := blk_frozen BK202.out 0; have hfz6_1 := blk_frozen BK202.out 1) | ((with_reducible refine zC (f := 79) rfl ?_); refine goesL_ (some 11) rfl rfl Try.func79 (by kernel_rfl) rfl #[.agg #[.int .i64 (wrap64 ((-1) - a0_0)), .int .u64 (Go.bits .xor .u64 18446744073709551615 a0_1)], .agg #[.int .i64 0, .int .u64 1]] rfl (by (try simp only [List.map_toArray, List.map_cons, List.map_nil]); first | done | rfl | (simp only [List.length_drop, List.length_take]; rfl)) ?_; (with_reducible refine (sequiturref01_Plus.calls (wrap64 ((-1) - a0_0)) (Go.bits .xor .u64 18446744073709551615 a0_1) 0 1 t204 t205 _ A2.out).mono ?_); rintro e w7 ⟨rfl, hb⟩; refine ⟨_, rfl, ?_⟩; replace BK202 := zK (blk_below (g := gb202) (o := .cells #[.int .i64 a0_0, .int .u64 a0_1] 107 (0, 0)) (zb BK202) hb); replace BK203 := zK (blk_below (g := gb203) (o := .cells #[.int .i64 0, .int .u64 0] 107 (0, 0)) (zb BK203) hb); replace HB := zK (below_step (zo HB) hb); (try clear hb); (try clear hb2); (try clear hk); (try clear hi); have hcz8_0 : w7.cell? ⟨gb203, 0, none⟩ = some (.int .i64 0) := (blk_cell BK203.out 0).trans rfl; have hcz8_1 : w7.cell? ⟨gb203, 1, none⟩ = some (.int .u64 0) := (blk_cell BK203.out 1).trans rfl; have hfz8_0 := blk_frozen BK203.out 0; have hfz8_1 := blk_frozen BK203.out 1))
 refine bodyPost_ret (results_cell_row rfl _ _ gb203 107 #[.int .i64 t204, .int .u64 t205] (0, 0) _ rfl (by refine zM ?_; refine blk_put (cs := #[.int .i64 t204, .int .u64 0]) ?_ 1 _ rfl; refine zM ?_; refine blk_put (cs := #[.int .i64 0, .int .u64 0]) ?_ 0 _ rfl; refine zM ?_; exact BK203.out) Try.underlying107 rfl (by kernel_rfl)) rfl ?_
 exact ⟨by first | rfl | (simp [errW_none, errW_some] <;> rfl) | (simp [*, errW_none, errW_some] <;> rfl), zo HB⟩

/-! ### sequiturref01_Of: function 81 -/
def sequiturref01_Of.f (a0 : Int) : Option (Int × Int) := if a0 < 0 then (some ((-1), IntKind.u64.wrap (a0))) else (some (0, IntKind.u64.wrap (a0)))
set_option maxHeartbeats 8000000 in
set_option maxRecDepth 100000 in
theorem sequiturref01_Of.calls (a0 : Int) (r1 : Int) (r2 : Int) (w : World) (h : sequiturref01_Of.f a0 = some (r1, r2)) :
  Calls Try.prog 81 #[.int .i64 a0] w fun e w' => e = .returned (.agg #[.int .i64 r1, .int .u64 r2]) ∧ Below w.heap.size w w' := by
 have hu107 := Try.underlying107
 have HB := zK (Below.refl w.heap.size w)
 have H : (if a0 < 0 then (some ((-1), IntKind.u64.wrap (a0))) else (some (0, IntKind.u64.wrap (a0)))) = some (r1, r2) := h
 clear h
 by_cases c2 : a0 < 0
 ·rw [if_pos c2] at H
  have c2b0 : decide (a0 < 0) = true := decide_eq_true c2; clear c2
  simp only [Option.some.injEq, Prod.mk.injEq] at H
  obtain ⟨rfl, rfl⟩ := H
  go_enter Try.func81, Try.ntmps81
  go_wp2_with (first | ((with_reducible refine gate_dst (N := 2) rfl ?_); refine box_event ?hg (N := 2) ?hd (cs := #[.int .i64 0, .int .u64 0]) (t := 107) ?hr ?_; (case hd => rfl); (case hg => rfl); (case hr => first | (go_simp; done) | (go_simp; rfl)); intro gb206 hg w3 hbox hb; have BK206 := zK (hbox); have GW206 := zK ((by rw [hg]; exact (below_size (zo HB)) : w.heap.size ≤ gb206)); have GE206 := zK ((by rw [hg]; exact (below_size (zo HB)) : w.heap.size ≤ gb206)); replace HB := zK (below_step (zo HB) hb); clear hb hbox hg; have hcz4_0 : w3.cell? ⟨gb206, 0, none⟩ = some (.int .i64 0) := (blk_cell BK206.out 0).trans rfl; have hcz4_1 : w3.cell? ⟨gb206, 1, none⟩ = some (.int .u64 0) := (blk_cell BK206.out 1).trans rfl; have hfz4_0 := blk_frozen BK206.out 0; have hfz4_1 := blk_frozen BK206.out 1))
  refine bodyPost_ret (results_cell_row rfl _ _ gb206 107 #[.int .i64 (-1), .int .u64 (IntKind.u64.wrap (a0))] (0, 0) _ rfl (by refine zM ?_; refine blk_put (cs := #[.int .i64 (-1), .int .u64 0]) ?_ 1 _ rfl; refine zM ?_; refine blk_put (cs := #[.int .i64 0, .int .u64 0]) ?_ 0 _ rfl; refine zM ?_; exact BK206.out) Try.underlying107 rfl (by kernel_rfl)) rfl ?_
  exact ⟨by first | rfl | (simp [errW_none, errW_some] <;> rfl) | (simp [*, errW_none, errW_some] <;> rfl), zo HB⟩
 ·rw [if_neg c2] at H
  have c2b0 : decide (a0 < 0) = false := decide_eq_false c2; clear c2
  simp only [Option.some.injEq, Prod.mk.injEq] at H
  obtain ⟨rfl, rfl⟩ := H
  go_enter Try.func81, Try.ntmps81
  go_wp2_with (first | ((with_reducible refine gate_dst (N := 2) rfl ?_); refine box_event ?hg (N := 2) ?hd (cs := #[.int .i64 0, .int .u64 0]) (t := 107) ?hr ?_; (case hd => rfl); (case hg => rfl); (case hr => first | (go_simp; done) | (go_simp; rfl)); intro gb206 hg w5 hbox hb; have BK206 := zK (hbox); have GW206 := zK ((by rw [hg]; exact (below_size (zo HB)) : w.heap.size ≤ gb206)); have GE206 := zK ((by rw [hg]; exact (below_size (zo HB)) : w.heap.size ≤ gb206)); replace HB := zK (below_step (zo HB) hb); clear hb hbox hg; have hcz6_0 : w5.cell? ⟨gb206, 0, none⟩ = some (.int .i64 0) := (blk_cell BK206.out 0).trans rfl; have hcz6_1 : w5.cell? ⟨gb206, 1, none⟩ = some (.int .u64 0) := (blk_cell BK206.out 1).trans rfl; have hfz6_0 := blk_frozen BK206.out 0; have hfz6_1 := blk_frozen BK206.out 1))
  refine bodyPost_ret (results_cell_row rfl _ _ gb206 107 #[.int .i64 0, .int .u64 (IntKind.u64.wrap (a0))] (0, 0) _ rfl (by refine zM ?_; refine blk_put (cs := #[.int .i64 0, .int .u64 0]) ?_ 1 _ rfl; refine zM ?_; refine blk_put (cs := #[.int .i64 0, .int .u64 0]) ?_ 0 _ rfl; refine zM ?_; exact BK206.out) Try.underlying107 rfl (by kernel_rfl)) rfl ?_
  exact ⟨by first | rfl | (simp [errW_none, errW_some] <;> rfl) | (simp [*, errW_none, errW_some] <;> rfl), zo HB⟩

/-! ### sequiturref01_Far: function 102 -/
def sequiturref01_Far.f (a0 : Int) : Option (Int) := if a0 < 0 then (some (IntKind.u64.wrap (-(IntKind.u64.wrap (a0))))) else (some (IntKind.u64.wrap (a0)))
set_option maxHeartbeats 8000000 in
set_option maxRecDepth 100000 in
theorem sequiturref01_Far.calls (a0 : Int) (r : Int) (w : World) (h : sequiturref01_Far.f a0 = some r) :
  Calls Try.prog 102 #[.int .i64 a0] w fun e w' => e = .returned (.int .u64 r) ∧ Drawn0 w w' := by
 have H : (if a0 < 0 then (some (IntKind.u64.wrap (-(IntKind.u64.wrap (a0))))) else (some (IntKind.u64.wrap (a0)))) = some r := h
 clear h
 by_cases c2 : a0 < 0
 ·rw [if_pos c2] at H
  have c2b0 : decide (a0 < 0) = true := decide_eq_true c2; clear c2
  obtain rfl := Option.some.inj H
  go_enter Try.func102, Try.ntmps102
  go_wp2
  go_ret
  exact ⟨by first | rfl | (simp; done) | (simp [*]; done), by repeat (first | exact Drawn0.refl _ | apply Drawn0.step)⟩
 ·rw [if_neg c2] at H
  have c2b0 : decide (a0 < 0) = false := decide_eq_false c2; clear c2
  obtain rfl := Option.some.inj H
  go_enter Try.func102, Try.ntmps102
  go_wp2
  go_ret
  exact ⟨by first | rfl | (simp; done) | (simp [*]; done), by repeat (first | exact Drawn0.refl _ | apply Drawn0.step)⟩

/-! ### sequiturref01_Times: function 78 -/
mutual
def sequiturref01_Times.j0 : Nat → Int → Int → Int → Option (Int × Int)
 | 0, _, _, _ => none
 | k + 1, x1, x211000, x211001 => (sequiturref01_Far.f x1).bind fun t214 => (sequiturref01_Times.l0 k t214 x211000 x211001 0 0)
def sequiturref01_Times.l0 : Nat → Int → Int → Int → Int → Int → Option (Int × Int)
 | 0, _, _, _, _, _ => none
 | k + 1, x7, x211000, x211001, x214000, x214001 => if x7 > 0 then (if (Int.tmod x7 2) = 1 then ((sequiturref01_Plus.f x214000 x214001 x211000 x211001).bind fun bt215 => ((sequiturref01_Plus.f x211000 x211001 x211000 x211001).bind fun bt217 => (sequiturref01_Times.l0 k (IntKind.u64.wrap (Int.tdiv x7 2)) bt217.1 bt217.2 bt215.1 bt215.2))) else ((sequiturref01_Plus.f x211000 x211001 x211000 x211001).bind fun bt219 => (sequiturref01_Times.l0 k (IntKind.u64.wrap (Int.tdiv x7 2)) bt219.1 bt219.2 x214000 x214001))) else (some (x214000, x214001))
end
def sequiturref01_Times.f (k : Nat) (a0 : Int) (a1 : Int) : Option (Int × Int) := (sequiturref01_Of.f a0).bind fun bt208 => (if a1 < 0 then ((sequiturref01_Minus.f bt208.1 bt208.2).bind fun bt211 => (sequiturref01_Times.j0 k a1 bt211.1 bt211.2)) else (sequiturref01_Times.j0 k a1 bt208.1 bt208.2))
theorem sequiturref01_Times.mono_l : ∀ k, (∀ y0 y1 y2, LeO (sequiturref01_Times.j0 k y0 y1 y2) (sequiturref01_Times.j0 (k + 1) y0 y1 y2)) ∧ (∀ y0 y1 y2 y3 y4, LeO (sequiturref01_Times.l0 k y0 y1 y2 y3 y4) (sequiturref01_Times.l0 (k + 1) y0 y1 y2 y3 y4))
 | 0 => ⟨fun _ _ _ r h => by simp [sequiturref01_Times.j0] at h, fun _ _ _ _ _ r h => by simp [sequiturref01_Times.l0] at h⟩
 | k + 1 => by
  obtain ⟨ih0, ih1⟩ := sequiturref01_Times.mono_l k
  refine ⟨?_, ?_⟩
  ·intro y0 y1 y2
   unfold sequiturref01_Times.j0
   repeat' first
   | (with_reducible exact ih0 _ _ _)
   | (with_reducible exact ih1 _ _ _ _ _)
   | (with_reducible exact LeO.refl _)
   | (with_reducible exact LeO.none _)
   | (with_reducible refine LeO.ite ?_ ?_)
   | (with_reducible refine LeO.bind ?_ (fun _ => ?_))
   | exact ih0 _ _ _
   | exact ih1 _ _ _ _ _
   | exact LeO.none _
   | refine LeO.ite ?_ ?_
   | refine LeO.bind ?_ (fun _ => ?_)
  ·intro y0 y1 y2 y3 y4
   unfold sequiturref01_Times.l0
   repeat' first
   | (with_reducible exact ih0 _ _ _)
   | (with_reducible exact ih1 _ _ _ _ _)
   | (with_reducible exact LeO.refl _)
   | (with_reducible exact LeO.none _)
   | (with_reducible refine LeO.ite ?_ ?_)
   | (with_reducible refine LeO.bind ?_ (fun _ => ?_))
   | exact ih0 _ _ _
   | exact ih1 _ _ _ _ _
   | exact LeO.none _
   | refine LeO.ite ?_ ?_
   | refine LeO.bind ?_ (fun _ => ?_)
theorem sequiturref01_Times.mono : ∀ a0 a1 k, LeO (sequiturref01_Times.f k a0 a1) (sequiturref01_Times.f (k + 1) a0 a1) := by
 intro a0 a1 k
 obtain ⟨ih0, ih1⟩ := sequiturref01_Times.mono_l k
 unfold sequiturref01_Times.f
 repeat' first
   | (with_reducible exact ih0 _ _ _)
   | (with_reducible exact ih1 _ _ _ _ _)
   | (with_reducible exact LeO.refl _)
   | (with_reducible exact LeO.none _)
   | (with_reducible refine LeO.ite ?_ ?_)
   | (with_reducible refine LeO.bind ?_ (fun _ => ?_))
   | exact ih0 _ _ _
   | exact ih1 _ _ _ _ _
   | exact LeO.none _
   | refine LeO.ite ?_ ?_
   | refine LeO.bind ?_ (fun _ => ?_)
set_option maxHeartbeats 8000000 in
set_option maxRecDepth 100000 in
theorem sequiturref01_Times.calls (k : Nat) (a0 : Int) (a1 : Int) (r1 : Int) (r2 : Int) (w : World) (h : sequiturref01_Times.f k a0 a1 = some (r1, r2)) :
  Calls Try.prog 78 #[.int .i64 a0, .int .i64 a1] w fun e w' => e = .returned (.agg #[.int .i64 r1, .int .u64 r2]) ∧ Below w.heap.size w w' := by
 have hu107 := Try.underlying107
 have HB := zK (Below.refl w.heap.size w)
 have H : ((sequiturref01_Of.f a0).bind fun bt208 => (if a1 < 0 then ((sequiturref01_Minus.f bt208.1 bt208.2).bind fun bt211 => (sequiturref01_Times.j0 k a1 bt211.1 bt211.2)) else (sequiturref01_Times.j0 k a1 bt208.1 bt208.2))) = some (r1, r2) := h
 clear h; replace H := Option.bind_eq_some_iff.mp H
 obtain ⟨⟨t208, t209⟩, A30, H⟩ := H
 replace H : (if a1 < 0 then ((sequiturref01_Minus.f t208 t209).bind fun bt211 => (sequiturref01_Times.j0 k a1 bt211.1 bt211.2)) else (sequiturref01_Times.j0 k a1 t208 t209)) = some (r1, r2) := H
 have A3 := zK A30; clear A30
 have HC4 := zK H; clear H
 go_enter Try.func78, Try.ntmps78
 go_upto_if 11 with (first | ((with_reducible refine gate_dst (N := 4) rfl ?_); refine box_event ?hg (N := 4) ?hd (cs := #[.int .i64 0, .int .u64 0]) (t := 107) ?hr ?_; (case hd => rfl); (case hg => rfl); (case hr => first | (go_simp; done) | (go_simp; rfl)); intro gb207 hg w5 hbox hb; have BK207 := zK (hbox); have GW207 := zK ((by rw [hg]; exact (below_size (zo HB)) : w.heap.size ≤ gb207)); have GE207 := zK ((by rw [hg]; exact (below_size (zo HB)) : w.heap.size ≤ gb207)); replace HB := zK (below_step (zo HB) hb); clear hb hbox hg) | ((with_reducible refine zC (f := 81) rfl ?_); refine goesL_ (some 9) rfl rfl Try.func81 (by kernel_rfl) rfl #[.int .i64 a0] rfl (by (try simp only [List.map_toArray, List.map_cons, List.map_nil]); first | done | rfl | (simp only [List.length_drop, List.length_take]; rfl)) ?_; (with_reducible refine (sequiturref01_Of.calls a0 t208 t209 _ A3.out).mono ?_); rintro e w6 ⟨rfl, hb⟩; refine ⟨_, rfl, ?_⟩; replace BK207 := zK (blk_below (g := gb207) (o := .cells #[.int .i64 0, .int .u64 0] 107 (0, 0)) (zb BK207) hb); replace HB := zK (below_step (zo HB) hb); (try clear hb); (try clear hb2); (try clear hk); (try clear hi)) | ((with_reducible refine gate_dst (N := 5) rfl ?_); refine box_event ?hg (N := 5) ?hd (cs := #[.int .i64 0, .int .u64 0]) (t := 107) ?hr ?_; (case hd => rfl); (case hg => rfl); (case hr => first | (go_simp; done) | (go_simp; rfl)); intro gb210 hg w7 hbox hb; have BK210 := zK (hbox); have GW210 := zK ((by rw [hg]; exact (below_size (zo HB)) : w.heap.size ≤ gb210)); have GE210 := zK ((by rw [hg]; exact (below_size (zo HB)) : w.heap.size ≤ gb210)); replace HB := zK (below_step (zo HB) hb); have NB207_210 := zK ((by rw [hg]; exact Nat.ne_of_lt (blk_lt (g := gb207) (o := .cells #[.int .i64 0, .int .u64 0] 107 (0, 0)) (zb BK207)) : gb207 ≠ gb210)); have NB210_207 := zK ((by rw [hg]; exact Nat.ne_of_gt (blk_lt (g := gb207) (o := .cells #[.int .i64 0, .int .u64 0] 107 (0, 0)) (zb BK207)) : gb210 ≠ gb207)); replace BK207 := zK (blk_below (g := gb207) (o := .cells #[.int .i64 0, .int .u64 0] 107 (0, 0)) (zb BK207) hb); clear hb hbox hg; have hnb8 := NB210_207.out; have hnc8 := NB207_210.out; have hcz9_0 : w7.cell? ⟨gb210, 0, none⟩ = some (.int .i64 0) := (blk_cell BK210.out 0).trans rfl; have hcz9_1 : w7.cell? ⟨gb210, 1, none⟩ = some (.int .u64 0) := (blk_cell BK210.out 1).trans rfl; have hfz9_0 := blk_frozen BK210.out 0; have hfz9_1 := blk_frozen BK210.out 1))
 (try simp only [Act.put, List.setIfInBounds_toArray, List.set_cons_zero, List.set_cons_succ])
 go_cut [] (fun wc => ∃ (kq : Nat) (x211000_3 : Int) (x211001_3 : Int), Aside0 (sequiturref01_Times.j0 kq a1 x211000_3 x211001_3 = some (r1, r2)) ∧ Aside0 (kq ≤ k) ∧ Aside0 (wc.heap[gb207]? = some (.cells #[.int .i64 0, .int .u64 0] 107 (0, 0))) ∧ Aside0 (wc.heap[gb210]? = some (.cells #[.int .i64 x211000_3, .int .u64 x211001_3] 107 (0, 0))) ∧ Aside0 (Below w.heap.size w wc))
 case first =>
  have H := HC4.out; clear HC4
  by_cases c10 : a1 < 0
  ·rw [if_pos c10] at H
   have c10b0 : decide (a1 < 0) = true := decide_eq_true c10; clear c10
   (first | rw [c10b0] | (simp only [i64_w, i32_w]; rw [c10b0]) | skip)
   replace H := Option.bind_eq_some_iff.mp H
   obtain ⟨⟨t211, t212⟩, A110, H⟩ := H
   replace H : (sequiturref01_Times.j0 k a1 t211 t212) = some (r1, r2) := H
   have A11 := zK A110; clear A110
   have H' := zK H; clear H
   have hnb12 := NB210_207.out
   have hnc12 := NB207_210.out
   have hcz13_0 : w7.cell? ⟨gb210, 0, none⟩ = some (.int .i64 0) := (blk_cell BK210.out 0).trans rfl
   have hcz13_1 : w7.cell? ⟨gb210, 1, none⟩ = some (.int .u64 0) := (blk_cell BK210.out 1).trans rfl
   have hfz13_0 := blk_frozen BK210.out 0
   have hfz13_1 := blk_frozen BK210.out 1
   go_wp2_with (first | ((with_reducible refine zC (f := 80) rfl ?_); refine goesL_ (some 13) rfl rfl Try.func80 (by kernel_rfl) rfl #[.agg #[.int .i64 t208, .int .u64 t209]] rfl (by (try simp only [List.map_toArray, List.map_cons, List.map_nil]); first | done | rfl | (simp only [List.length_drop, List.length_take]; rfl)) ?_; (with_reducible refine (sequiturref01_Minus.calls t208 t209 t211 t212 _ A11.out).mono ?_); rintro e w14 ⟨rfl, hb⟩; refine ⟨_, rfl, ?_⟩; replace BK207 := zK (blk_below (g := gb207) (o := .cells #[.int .i64 0, .int .u64 0] 107 (0, 0)) (zb BK207) hb); replace BK210 := zK (blk_below (g := gb210) (o := .cells #[.int .i64 t208, .int .u64 t209] 107 (0, 0)) (by refine zM ?_; refine blk_put (cs := #[.int .i64 t208, .int .u64 0]) ?_ 1 _ rfl; refine zM ?_; refine blk_put (cs := #[.int .i64 0, .int .u64 0]) ?_ 0 _ rfl; refine zM ?_; exact BK210.out) hb); replace HB := zK (below_step (zo HB) hb); (try clear hb); (try clear hb2); (try clear hk); (try clear hi); have hcz15_0 : w14.cell? ⟨gb210, 0, none⟩ = some (.int .i64 t208) := (blk_cell BK210.out 0).trans rfl; have hcz15_1 : w14.cell? ⟨gb210, 1, none⟩ = some (.int .u64 t209) := (blk_cell BK210.out 1).trans rfl; have hfz15_0 := blk_frozen BK210.out 0; have hfz15_1 := blk_frozen BK210.out 1))
   go_meet
   case rel => exact ⟨_, (t211), (t212), H', ⟨by first | omega | exact Nat.le_refl _⟩, ⟨zb BK207⟩, ⟨by refine zM ?_; refine blk_put (cs := #[.int .i64 t211, .int .u64 t209]) ?_ 1 _ rfl; refine zM ?_; refine blk_put (cs := #[.int .i64 t208, .int .u64 t209]) ?_ 0 _ rfl; refine zM ?_; exact BK210.out⟩, ⟨zo HB⟩⟩
  ·rw [if_neg c10] at H
   have c10b0 : decide (a1 < 0) = false := decide_eq_false c10; clear c10
   (first | rw [c10b0] | (simp only [i64_w, i32_w]; rw [c10b0]) | skip)
   have H' := zK H; clear H
   go_wp2
   go_meet
   case rel => exact ⟨_, (t208), (t209), H', ⟨by first | omega | exact Nat.le_refl _⟩, ⟨zb BK207⟩, ⟨by refine zM ?_; refine blk_put (cs := #[.int .i64 t208, .int .u64 0]) ?_ 1 _ rfl; refine zM ?_; refine blk_put (cs := #[.int .i64 0, .int .u64 0]) ?_ 0 _ rfl; refine zM ?_; exact BK210.out⟩, ⟨zo HB⟩⟩
 case rest =>
  clear HC4; try clear c1; try clear p2; try clear c7
  try clear c8; try clear c10; try clear c10b0; try clear c12
  try clear hcz13_0; try clear hcz13_1; try clear hcz15_0; try clear hcz15_1
  try clear hcz9_0; try clear hcz9_1; try clear hfz13_0; try clear hfz13_1
  try clear hfz15_0; try clear hfz15_1; try clear hfz9_0; try clear hfz9_1
  obtain ⟨kq, x211000_3, x211001_3, HA, HJ3, BK207, BK210, HB⟩ := hcut
  cases kq with
  | zero => exact absurd HA.out (by simp [sequiturref01_Times.j0])
  | succ kj3 =>
   have H := HA.out; clear HA
   simp only [sequiturref01_Times.j0] at H
   replace H := Option.bind_eq_some_iff.mp H
   obtain ⟨t214, A160, H⟩ := H
   replace H : (sequiturref01_Times.l0 kj3 t214 x211000_3 x211001_3 0 0) = some (r1, r2) := H
   have A16 := zK A160; clear A160
   have H' := zK H; clear H
   go_wp2_with (first | ((with_reducible refine gate_dst (N := 6) rfl ?_); refine box_event ?hg (N := 6) ?hd (cs := #[.int .i64 0, .int .u64 0]) (t := 107) ?hr ?_; (case hd => rfl); (case hg => rfl); (case hr => first | (go_simp; done) | (go_simp; rfl)); intro gb213 hg w17 hbox hb; have BK213 := zK (hbox); have GW213 := zK ((by rw [hg]; exact (below_size (zo HB)) : w.heap.size ≤ gb213)); have GE213 := zK ((by rw [hg]; exact (below_size (zo HB)) : w.heap.size ≤ gb213)); replace HB := zK (below_step (zo HB) hb); have NB207_213 := zK ((by rw [hg]; exact Nat.ne_of_lt (blk_lt (g := gb207) (o := .cells #[.int .i64 0, .int .u64 0] 107 (0, 0)) (zb BK207)) : gb207 ≠ gb213)); have NB213_207 := zK ((by rw [hg]; exact Nat.ne_of_gt (blk_lt (g := gb207) (o := .cells #[.int .i64 0, .int .u64 0] 107 (0, 0)) (zb BK207)) : gb213 ≠ gb207)); replace BK207 := zK (blk_below (g := gb207) (o := .cells #[.int .i64 0, .int .u64 0] 107 (0, 0)) (zb BK207) hb); have NB210_213 := zK ((by rw [hg]; exact Nat.ne_of_lt (blk_lt (g := gb210) (o := .cells #[.int .i64 x211000_3, .int .u64 x211001_3] 107 (0, 0)) (zb BK210)) : gb210 ≠ gb213)); have NB213_210 := zK ((by rw [hg]; exact Nat.ne_of_gt (blk_lt (g := gb210) (o := .cells #[.int .i64 x211000_3, .int .u64 x211001_3] 107 (0, 0)) (zb BK210)) : gb213 ≠ gb210)); replace BK210 := zK (blk_below (g := gb210) (o := .cells #[.int .i64 x211000_3, .int .u64 x211001_3] 107 (0, 0)) (zb BK210) hb); clear hb hbox hg; have hnb18 := NB213_207.out; have hnc18 := NB207_213.out; have hnb19 := NB213_210.out; have hnc19 := NB210_213.out; have hcz20_0 : w17.cell? ⟨gb213, 0, none⟩ = some (.int .i64 0) := (blk_cell BK213.out 0).trans rfl; have hcz20_1 : w17.cell? ⟨gb213, 1, none⟩ = some (.int .u64 0) := (blk_cell BK213.out 1).trans rfl; have hfz20_0 := blk_frozen BK213.out 0; have hfz20_1 := blk_frozen BK213.out 1) | ((with_reducible refine zC (f := 102) rfl ?_); refine goesL_ (some 16) rfl rfl Try.func102 (by kernel_rfl) rfl #[.int .i64 a1] rfl (by (try simp only [List.map_toArray, List.map_cons, List.map_nil]); first | done | rfl | (simp only [List.length_drop, List.length_take]; rfl)) ?_; (with_reducible refine (sequiturref01_Far.calls a1 t214 _ A16.out).mono ?_); rintro e w' ⟨rfl, ⟨nd, rfl⟩⟩; refine ⟨_, rfl, ?_⟩))
   go_loopg [7] kj3 (fun kq v7 w' => ∃ (x7_2 : Int) (x211000_2 : Int) (x211001_2 : Int) (x214000_2 : Int) (x214001_2 : Int), v7 = .int .u64 x7_2 ∧ Aside0 (sequiturref01_Times.l0 kq x7_2 x211000_2 x211001_2 x214000_2 x214001_2 = some (r1, r2)) ∧ Aside0 (kq ≤ kj3) ∧ Aside0 (w'.heap[gb207]? = some (.cells #[.int .i64 0, .int .u64 0] 107 (0, 0))) ∧ Aside0 (w'.heap[gb210]? = some (.cells #[.int .i64 x211000_2, .int .u64 x211001_2] 107 (0, 0))) ∧ Aside0 (w'.heap[gb213]? = some (.cells #[.int .i64 x214000_2, .int .u64 x214001_2] 107 (0, 0))) ∧ Aside0 (Below w.heap.size w w'))
   case atStart => exact ⟨(t214), (x211000_3), (x211001_3), (0), (0), (by first | rfl | (simp; done) | (simp [*]; done)), H', ⟨Nat.le_refl _⟩, ⟨zb BK207⟩, ⟨zb BK210⟩, ⟨by refine zM ?_; refine blk_put (cs := #[.int .i64 0, .int .u64 0]) ?_ 1 _ rfl; refine zM ?_; refine blk_put (cs := #[.int .i64 0, .int .u64 0]) ?_ 0 _ rfl; refine zM ?_; exact BK213.out⟩, ⟨zo HB⟩⟩
   case round =>
    clear H'; try clear c1; try clear p2; try clear c7
    try clear c8; try clear c10; try clear c10b0; try clear c12
    try clear c18; try clear c19; try clear hcz13_0; try clear hcz13_1
    try clear hcz15_0; try clear hcz15_1; try clear hcz20_0; try clear hcz20_1
    try clear hcz9_0; try clear hcz9_1; try clear hfz13_0; try clear hfz13_1
    try clear hfz15_0; try clear hfz15_1; try clear hfz20_0; try clear hfz20_1
    try clear hfz9_0; try clear hfz9_1; try clear p2
    obtain ⟨x7_2, x211000_2, x211001_2, x214000_2, x214001_2, rfl, HA, HK2, BK207, BK210, BK213, HB⟩ := hrel
    cases gk with
    | zero => exact absurd HA.out (by simp [sequiturref01_Times.l0])
    | succ k2 =>
     have H := HA.out; clear HA
     simp only [sequiturref01_Times.l0] at H
     by_cases c21 : x7_2 > 0
     ·rw [if_pos c21] at H
      have c21b0 : decide (0 < x7_2) = true := decide_eq_true c21; clear c21
      by_cases c22 : (Int.tmod x7_2 2) = 1
      ·rw [if_pos c22] at H
       have c22b0 : ((Int.tmod x7_2 2) == 1) = true := beq_iff_eq.mpr c22
       have c22b1 : ((Int.tmod x7_2 2) != 1) = false := bne_eq_false_iff_eq.mpr c22
       clear c22; replace H := Option.bind_eq_some_iff.mp H
       obtain ⟨⟨t215, t216⟩, A230, H⟩ := H
       replace H : ((sequiturref01_Plus.f x211000_2 x211001_2 x211000_2 x211001_2).bind fun bt217 => (sequiturref01_Times.l0 k2 (IntKind.u64.wrap (Int.tdiv x7_2 2)) bt217.1 bt217.2 t215 t216)) = some (r1, r2) := H
       have A23 := zK A230; clear A230; replace H := Option.bind_eq_some_iff.mp H
       obtain ⟨⟨t217, t218⟩, A240, H⟩ := H
       replace H : (sequiturref01_Times.l0 k2 (IntKind.u64.wrap (Int.tdiv x7_2 2)) t217 t218 t215 t216) = some (r1, r2) := H
       have A24 := zK A240; clear A240
       have H' := zK H; clear H
       have hnb25 := NB213_207.out
       have hnc25 := NB207_213.out
       have hnb26 := NB213_210.out
       have hnc26 := NB210_213.out
       have hcz27_0 : wr.cell? ⟨gb213, 0, none⟩ = some (.int .i64 x214000_2) := (blk_cell BK213.out 0).trans rfl
       have hcz27_1 : wr.cell? ⟨gb213, 1, none⟩ = some (.int .u64 x214001_2) := (blk_cell BK213.out 1).trans rfl
       have hfz27_0 := blk_frozen BK213.out 0
       have hfz27_1 := blk_frozen BK213.out 1
       have hnb28 := NB210_207.out
       have hnc28 := NB207_210.out
       have hcz29_0 : wr.cell? ⟨gb210, 0, none⟩ = some (.int .i64 x211000_2) := (blk_cell BK210.out 0).trans rfl
       have hcz29_1 : wr.cell? ⟨gb210, 1, none⟩ = some (.int .u64 x211001_2) := (blk_cell BK210.out 1).trans rfl
       have hfz29_0 := blk_frozen BK210.out 0
       have hfz29_1 := blk_frozen BK210.out 1
       go_wp2_with (first | ((with_reducible refine zC (f := 79) rfl ?_); refine goesL_ (some 26) rfl rfl Try.func79 (by kernel_rfl) rfl #[.agg #[.int .i64 x214000_2, .int .u64 x214001_2], .agg #[.int .i64 x211000_2, .int .u64 x211001_2]] rfl (by (try simp only [List.map_toArray, List.map_cons, List.map_nil]); first | done | rfl | (simp only [List.length_drop, List.length_take]; rfl)) ?_; (with_reducible refine (sequiturref01_Plus.calls x214000_2 x214001_2 x211000_2 x211001_2 t215 t216 _ A23.out).mono ?_); rintro e w30 ⟨rfl, hb⟩; refine ⟨_, rfl, ?_⟩; replace BK207 := zK (blk_below (g := gb207) (o := .cells #[.int .i64 0, .int .u64 0] 107 (0, 0)) (zb BK207) hb); replace BK210 := zK (blk_below (g := gb210) (o := .cells #[.int .i64 x211000_2, .int .u64 x211001_2] 107 (0, 0)) (zb BK210) hb); replace BK213 := zK (blk_below (g := gb213) (o := .cells #[.int .i64 x214000_2, .int .u64 x214001_2] 107 (0, 0)) (zb BK213) hb); replace HB := zK (below_step (zo HB) hb); (try clear hb); (try clear hb2); (try clear hk); (try clear hi); have hcz31_0 : w30.cell? ⟨gb213, 0, none⟩ = some (.int .i64 x214000_2) := (blk_cell BK213.out 0).trans rfl; have hcz31_1 : w30.cell? ⟨gb213, 1, none⟩ = some (.int .u64 x214001_2) := (blk_cell BK213.out 1).trans rfl; have hfz31_0 := blk_frozen BK213.out 0; have hfz31_1 := blk_frozen BK213.out 1; have hcz32_0 : w30.cell? ⟨gb210, 0, none⟩ = some (.int .i64 x211000_2) := (blk_cell BK210.out 0).trans rfl; have hcz32_1 : w30.cell? ⟨gb210, 1, none⟩ = some (.int .u64 x211001_2) := (blk_cell BK210.out 1).trans rfl; have hfz32_0 := blk_frozen BK210.out 0; have hfz32_1 := blk_frozen BK210.out 1) | ((with_reducible refine zC (f := 79) rfl ?_); refine goesL_ (some 29) rfl rfl Try.func79 (by kernel_rfl) rfl #[.agg #[.int .i64 x211000_2, .int .u64 x211001_2], .agg #[.int .i64 x211000_2, .int .u64 x211001_2]] rfl (by (try simp only [List.map_toArray, List.map_cons, List.map_nil]); first | done | rfl | (simp only [List.length_drop, List.length_take]; rfl)) ?_; (with_reducible refine (sequiturref01_Plus.calls x211000_2 x211001_2 x211000_2 x211001_2 t217 t218 _ A24.out).mono ?_); rintro e w33 ⟨rfl, hb⟩; refine ⟨_, rfl, ?_⟩; replace BK207 := zK (blk_below (g := gb207) (o := .cells #[.int .i64 0, .int .u64 0] 107 (0, 0)) (zb BK207) hb); replace BK210 := zK (blk_below (g := gb210) (o := .cells #[.int .i64 x211000_2, .int .u64 x211001_2] 107 (0, 0)) (zb BK210) hb); replace BK213 := zK (blk_below (g := gb213) (o := .cells #[.int .i64 t215, .int .u64 t216] 107 (0, 0)) (by refine zM ?_; refine blk_put (cs := #[.int .i64 t215, .int .u64 x214001_2]) ?_ 1 _ rfl; refine zM ?_; refine blk_put (cs := #[.int .i64 x214000_2, .int .u64 x214001_2]) ?_ 0 _ rfl; refine zM ?_; exact BK213.out) hb); replace HB := zK (below_step (zo HB) hb); (try clear hb); (try clear hb2); (try clear hk); (try clear hi); have hcz34_0 : w33.cell? ⟨gb210, 0, none⟩ = some (.int .i64 x211000_2) := (blk_cell BK210.out 0).trans rfl; have hcz34_1 : w33.cell? ⟨gb210, 1, none⟩ = some (.int .u64 x211001_2) := (blk_cell BK210.out 1).trans rfl; have hfz34_0 := blk_frozen BK210.out 0; have hfz34_1 := blk_frozen BK210.out 1))
       go_roundg k2
       case measure => have := HJ3.out; have := HK2.out; omega
       case rel => exact ⟨(IntKind.u64.wrap (Int.tdiv x7_2 2)), (t217), (t218), (t215), (t216), (by first | rfl | (simp; done) | (simp [*]; done)), H', ⟨by have := HJ3.out; have := HK2.out; omega⟩, ⟨zb BK207⟩, ⟨by refine zM ?_; refine blk_put (cs := #[.int .i64 t217, .int .u64 x211001_2]) ?_ 1 _ rfl; refine zM ?_; refine blk_put (cs := #[.int .i64 x211000_2, .int .u64 x211001_2]) ?_ 0 _ rfl; refine zM ?_; exact BK210.out⟩, ⟨zb BK213⟩, ⟨zo HB⟩⟩
      ·rw [if_neg c22] at H
       have c22b0 : ((Int.tmod x7_2 2) == 1) = false := beq_eq_false_iff_ne.mpr c22
       have c22b1 : ((Int.tmod x7_2 2) != 1) = true := bne_iff_ne.mpr c22
       replace H := Option.bind_eq_some_iff.mp H
       obtain ⟨⟨t219, t220⟩, A350, H⟩ := H
       replace H : (sequiturref01_Times.l0 k2 (IntKind.u64.wrap (Int.tdiv x7_2 2)) t219 t220 x214000_2 x214001_2) = some (r1, r2) := H
       have A35 := zK A350; clear A350
       have H' := zK H; clear H
       have hnb36 := NB210_207.out
       have hnc36 := NB207_210.out
       have hnb37 := NB210_213.out
       have hnc37 := NB213_210.out
       have hcz38_0 : wr.cell? ⟨gb210, 0, none⟩ = some (.int .i64 x211000_2) := (blk_cell BK210.out 0).trans rfl
       have hcz38_1 : wr.cell? ⟨gb210, 1, none⟩ = some (.int .u64 x211001_2) := (blk_cell BK210.out 1).trans rfl
       have hfz38_0 := blk_frozen BK210.out 0
       have hfz38_1 := blk_frozen BK210.out 1
       go_wp2_with (first | ((with_reducible refine zC (f := 79) rfl ?_); refine goesL_ (some 29) rfl rfl Try.func79 (by kernel_rfl) rfl #[.agg #[.int .i64 x211000_2, .int .u64 x211001_2], .agg #[.int .i64 x211000_2, .int .u64 x211001_2]] rfl (by (try simp only [List.map_toArray, List.map_cons, List.map_nil]); first | done | rfl | (simp only [List.length_drop, List.length_take]; rfl)) ?_; (with_reducible refine (sequiturref01_Plus.calls x211000_2 x211001_2 x211000_2 x211001_2 t219 t220 _ A35.out).mono ?_); rintro e w39 ⟨rfl, hb⟩; refine ⟨_, rfl, ?_⟩; replace BK207 := zK (blk_below (g := gb207) (o := .cells #[.int .i64 0, .int .u64 0] 107 (0, 0)) (zb BK207) hb); replace BK210 := zK (blk_below (g := gb210) (o := .cells #[.int .i64 x211000_2, .int .u64 x211001_2] 107 (0, 0)) (zb BK210) hb); replace BK213 := zK (blk_below (g := gb213) (o := .cells #[.int .i64 x214000_2, .int .u64 x214001_2] 107 (0, 0)) (zb BK213) hb); replace HB := zK (below_step (zo HB) hb); (try clear hb); (try clear hb2); (try clear hk); (try clear hi); have hcz40_0 : w39.cell? ⟨gb210, 0, none⟩ = some (.int .i64 x211000_2) := (blk_cell BK210.out 0).trans rfl; have hcz40_1 : w39.cell? ⟨gb210, 1, none⟩ = some (.int .u64 x211001_2) := (blk_cell BK210.out 1).trans rfl; have hfz40_0 := blk_frozen BK210.out 0; have hfz40_1 := blk_frozen BK210.out 1))
       go_roundg k2
       case measure => have := HJ3.out; have := HK2.out; omega
       case rel => exact ⟨(IntKind.u64.wrap (Int.tdiv x7_2 2)), (t219), (t220), (x214000_2), (x214001_2), (by first | rfl | (simp; done) | (simp [*]; done)), H', ⟨by have := HJ3.out; have := HK2.out; omega⟩, ⟨zb BK207⟩, ⟨by refine zM ?_; refine blk_put (cs := #[.int .i64 t219, .int .u64 x211001_2]) ?_ 1 _ rfl; refine zM ?_; refine blk_put (cs := #[.int .i64 x211000_2, .int .u64 x211001_2]) ?_ 0 _ rfl; refine zM ?_; exact BK210.out⟩, ⟨zb BK213⟩, ⟨zo HB⟩⟩
     ·rw [if_neg c21] at H
      have c21b0 : decide (0 < x7_2) = false := decide_eq_false c21; clear c21
      simp only [Option.some.injEq, Prod.mk.injEq] at H
      obtain ⟨rfl, rfl⟩ := H
      have hnb41 := NB213_207.out
      have hnc41 := NB207_213.out
      have hnb42 := NB213_210.out
      have hnc42 := NB210_213.out
      have hcz43_0 : wr.cell? ⟨gb213, 0, none⟩ = some (.int .i64 x214000_2) := (blk_cell BK213.out 0).trans rfl
      have hcz43_1 : wr.cell? ⟨gb213, 1, none⟩ = some (.int .u64 x214001_2) := (blk_cell BK213.out 1).trans rfl
      have hfz43_0 := blk_frozen BK213.out 0
      have hfz43_1 := blk_frozen BK213.out 1
      have hnb44 := NB207_210.out
      have hnc44 := NB210_207.out
      have hcz45_0 : wr.cell? ⟨gb207, 0, none⟩ = some (.int .i64 0) := (blk_cell BK207.out 0).trans rfl
      have hcz45_1 : wr.cell? ⟨gb207, 1, none⟩ = some (.int .u64 0) := (blk_cell BK207.out 1).trans rfl
      have hfz45_0 := blk_frozen BK207.out 0
      have hfz45_1 := blk_frozen BK207.out 1
      go_wp2
      refine bodyPost_ret (results_cell_row rfl _ _ gb207 107 #[.int .i64 x214000_2, .int .u64 x214001_2] (0, 0) _ rfl (by refine zM ?_; refine blk_put (cs := #[.int .i64 x214000_2, .int .u64 0]) ?_ 1 _ rfl; refine zM ?_; refine blk_put (cs := #[.int .i64 0, .int .u64 0]) ?_ 0 _ rfl; refine zM ?_; exact BK207.out) Try.underlying107 rfl (by kernel_rfl)) rfl ?_
      exact ⟨by first | rfl | (simp [errW_none, errW_some] <;> rfl) | (simp [*, errW_none, errW_some] <;> rfl), zo HB⟩

end Go.Proofs.Ytkfbfgkdabljiaa.PBoxFinds
