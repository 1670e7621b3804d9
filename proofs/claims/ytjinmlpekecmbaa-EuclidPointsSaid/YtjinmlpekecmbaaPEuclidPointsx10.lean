/- What the call of each function that the law reaches comes to: it answers as the plain function of the same name does, wherever that one answers; and the law itself out of its plain form. Written by a program of this session (an extended copy of the printer); no condition but what stands in each theorem. -/
import Derived.Test.YtjinmlpekecmbaaPEuclidPointsx0
import Derived.Test.YtjinmlpekecmbaaPEuclidPointsx1
import Derived.Test.YtjinmlpekecmbaaPEuclidPointsx9
namespace Go.Proofs.Ytjinmlpekecmbaa.PEuclidPoints
open Go.RowKit Go.Proofs.YtjinmlpekecmbaaW.PrintWords Go.Proofs.YtjinmlpekecmbaaW.PrintLast Go.Proofs.YtjinmlpekecmbaaW.PrintMore
open Go.Proofs.YtjinmlpekecmbaaW.PrintWords renaming blk_drewN → zN, blk_drew → zD, blk_alloc → zA, below_alloc → yA, pw_below_drewN → yN, below_drew1 → yD, below_set → yS, gate_callee → zC
open Go.Proofs.YtjinmlpekecmbaaW.PrintWords.Aside0 renaming mk → zK
attribute [local go_sem] max2_int min2_int max_two min_two max_three min_three max_four min_four   -- for this text's walks alone
set_option linter.unusedVariables false
set_option linter.unusedSimpArgs false

/-! ### euclid_Point: function 21 -/
mutual
def euclid_Point.l0 : Nat → List Int → List (S41) → Int → Int → List (S41) → Int → Option (List Int × Int)
 | 0, _, _, _, _, _, _ => none
 | k + 1, x1, x19, x20, x21, x315000, x315001 => if x21 < x20 then (if 0 ≤ x21 then (if x21 < (x19.length : Int) then ((lin_Right.f k ((rd_T41 x19 x21).f0) ((rd_T41 x19 x21).f1)).bind fun t317 => (if t317 = 0 then (euclid_Point.l0 k x1 x19 x20 (wrap64 (x21 + 1)) x315000 x315001) else (some (([] : List Int), 1)))) else (none)) else (none)) else (euclid_Point.l1 k x1 ([] : List Int) x315000 (x315000.length : Int) 0)
def euclid_Point.l1 : Nat → List Int → List Int → List (S41) → Int → Int → Option (List Int × Int)
 | 0, _, _, _, _, _ => none
 | k + 1, x1, x8, x30, x31, x32 => if x32 < x31 then (if 0 ≤ x32 then (if x32 < (x30.length : Int) then ((lin_Eval.f k ((rd_T41 x30 x32).f0) ((rd_T41 x30 x32).f1) x1).bind fun bt320 => (if bt320.2 = 0 then (if x8.length < 17592186044416 then (euclid_Point.l1 k x1 (x8 ++ [bt320.1]) x30 x31 (wrap64 (x32 + 1))) else (none)) else (some (([] : List Int), bt320.2)))) else (none)) else (none)) else (some (x8, 0))
end
def euclid_Point.f (k : Nat) (l0_0 : List (S41)) (a0_1 : Int) (l1 : List Int) : Option (List Int × Int) := if (l1.length : Int) = a0_1 then (euclid_Point.l0 k l1 l0_0 (l0_0.length : Int) 0 l0_0 a0_1) else (some (([] : List Int), 1))
theorem euclid_Point.mono_l : ∀ k, (∀ y0 y1 y2 y3 y4 y5, LeO (euclid_Point.l0 k y0 y1 y2 y3 y4 y5) (euclid_Point.l0 (k + 1) y0 y1 y2 y3 y4 y5)) ∧ (∀ y0 y1 y2 y3 y4, LeO (euclid_Point.l1 k y0 y1 y2 y3 y4) (euclid_Point.l1 (k + 1) y0 y1 y2 y3 y4))
 | 0 => ⟨fun _ _ _ _ _ _ r h => by simp [euclid_Point.l0] at h, fun _ _ _ _ _ r h => by simp [euclid_Point.l1] at h⟩
 | k + 1 => by
  obtain ⟨ih0, ih1⟩ := euclid_Point.mono_l k
  refine ⟨?_, ?_⟩
  ·intro y0 y1 y2 y3 y4 y5
   unfold euclid_Point.l0
   repeat' first
   | (with_reducible exact ih0 _ _ _ _ _ _)
   | (with_reducible exact ih1 _ _ _ _ _)
   | (with_reducible exact lin_Eval.mono _ _ _ _)
   | (with_reducible exact lin_Right.mono _ _ _)
   | (with_reducible exact LeO.refl _)
   | (with_reducible exact LeO.none _)
   | (with_reducible refine LeO.ite ?_ ?_)
   | (with_reducible refine LeO.bind ?_ (fun _ => ?_))
   | exact ih0 _ _ _ _ _ _
   | exact ih1 _ _ _ _ _
   | exact lin_Eval.mono _ _ _ _
   | exact lin_Right.mono _ _ _
   | exact LeO.none _
   | refine LeO.ite ?_ ?_
   | refine LeO.bind ?_ (fun _ => ?_)
  ·intro y0 y1 y2 y3 y4
   unfold euclid_Point.l1
   repeat' first
   | (with_reducible exact ih0 _ _ _ _ _ _)
   | (with_reducible exact ih1 _ _ _ _ _)
   | (with_reducible exact lin_Eval.mono _ _ _ _)
   | (with_reducible exact lin_Right.mono _ _ _)
   | (with_reducible exact LeO.refl _)
   | (with_reducible exact LeO.none _)
   | (with_reducible refine LeO.ite ?_ ?_)
   | (with_reducible refine LeO.bind ?_ (fun _ => ?_))
   | exact ih0 _ _ _ _ _ _
   | exact ih1 _ _ _ _ _
   | exact lin_Eval.mono _ _ _ _
   | exact lin_Right.mono _ _ _
   | exact LeO.none _
   | refine LeO.ite ?_ ?_
   | refine LeO.bind ?_ (fun _ => ?_)
theorem euclid_Point.mono : ∀ a0 a1 a2 k, LeO (euclid_Point.f k a0 a1 a2) (euclid_Point.f (k + 1) a0 a1 a2) := by
 intro a0 a1 a2 k
 obtain ⟨ih0, ih1⟩ := euclid_Point.mono_l k
 unfold euclid_Point.f
 repeat' first
   | (with_reducible exact ih0 _ _ _ _ _ _)
   | (with_reducible exact ih1 _ _ _ _ _)
   | (with_reducible exact lin_Eval.mono _ _ _ _)
   | (with_reducible exact lin_Right.mono _ _ _)
   | (with_reducible exact LeO.refl _)
   | (with_reducible exact LeO.none _)
   | (with_reducible refine LeO.ite ?_ ?_)
   | (with_reducible refine LeO.bind ?_ (fun _ => ?_))
   | exact ih0 _ _ _ _ _ _
   | exact ih1 _ _ _ _ _
   | exact lin_Eval.mono _ _ _ _
   | exact lin_Right.mono _ _ _
   | exact LeO.none _
   | refine LeO.ite ?_ ?_
   | refine LeO.bind ?_ (fun _ => ?_)
set_option maxHeartbeats 8000000 in
set_option maxRecDepth 100000 in
theorem euclid_Point.calls (k : Nat) (A0_0 : Option Addr) (c0_0 : Nat) (l0_0 : List (S41)) (a0_1 : Int) (A1 : Option Addr) (c1 : Nat) (l1 : List Int) (r1 : List Int) (r2 : Int) (w : World) (hr0_0 : Kd.C k41 w A0_0 l0_0.length l0_0) (hc0_0 : l0_0.length ≤ c0_0) (hr1 : Kd.C (Kd.int .i64) w A1 l1.length l1) (hc1 : l1.length ≤ c1) (h : euclid_Point.f k l0_0 a0_1 l1 = some (r1, r2)) :
  Calls Try.prog 21 #[.agg #[.slice A0_0 l0_0.length c0_0, .int .i64 a0_1], .slice A1 l1.length c1] w fun e w' => ∃ v0_ : Value, e = .returned (.tuple #[v0_, .int .i64 r2]) ∧ Kd.R (Kd.int .i64) 2 w' w.heap.size (fun _ => True) v0_ r1 ∧ Below w.heap.size w w' := by
 have hu32 := Try.underlying32
 have hu41 := Try.underlying41
 have HR0_0 := zK hr0_0
 have HC0_0 := zK hc0_0; clear hr0_0 hc0_0
 have HR1 := zK hr1
 have HC1 := zK hc1; clear hr1 hc1
 have HB := zK (Below.refl w.heap.size w)
 have H : (if (l1.length : Int) = a0_1 then (euclid_Point.l0 k l1 l0_0 (l0_0.length : Int) 0 l0_0 a0_1) else (some (([] : List Int), 1))) = some (r1, r2) := h
 clear h
 by_cases c3 : (l1.length : Int) = a0_1
 ·rw [if_pos c3] at H
  have c3b0 : ((l1.length : Int) == a0_1) = true := beq_iff_eq.mpr c3
  have c3b1 : ((l1.length : Int) != a0_1) = false := bne_eq_false_iff_eq.mpr c3
  clear c3
  have H' := zK H; clear H
  go_enter Try.func21, Try.ntmps21
  go_wp2_with (first | ((with_reducible refine gate_dst (N := 2) rfl ?_); refine box_event ?hg (N := 2) ?hd (cs := #[.slice A0_0 l0_0.length c0_0, .int .i64 a0_1]) (t := 32) ?hr ?_; (case hd => rfl); (case hg => rfl); (case hr => first | (go_simp; done) | (go_simp; rfl)); intro gb314 hg w4 hbox hb; have BK314 := zK (hbox); have GW314 := zK ((by rw [hg]; exact (below_size (zo HB)) : w.heap.size ≤ gb314)); have GE314 := zK ((by rw [hg]; exact (below_size (zo HB)) : w.heap.size ≤ gb314)); replace HB := zK (below_step (zo HB) hb); clear hb hbox hg; have hcz5_0 : w4.cell? ⟨gb314, 0, none⟩ = some (.slice A0_0 l0_0.length c0_0) := (blk_cell BK314.out 0).trans rfl; have hcz5_1 : w4.cell? ⟨gb314, 1, none⟩ = some (.int .i64 a0_1) := (blk_cell BK314.out 1).trans rfl; have hfz5_0 := blk_frozen BK314.out 0; have hfz5_1 := blk_frozen BK314.out 1))
  go_loopg [21] k (fun kq v21 w' => ∃ (x21_1 : Int), v21 = .int .i64 x21_1 ∧ Aside0 (euclid_Point.l0 kq l1 l0_0 (l0_0.length : Int) x21_1 l0_0 a0_1 = some (r1, r2)) ∧ Aside0 (kq ≤ k) ∧ Aside0 (w'.heap[gb314]? = some (.cells #[(.slice A0_0 l0_0.length c0_0), .int .i64 a0_1] 32 (0, 0))) ∧ Aside0 (Below w.heap.size w w'))
  case atStart => exact ⟨(0), (by first | rfl | (simp; done) | (simp [*]; done)), H', ⟨Nat.le_refl _⟩, ⟨zb BK314⟩, ⟨zo HB⟩⟩
  case round =>
   clear H'; try clear c1; try clear c2; try clear p2
   try clear c3; try clear c3b0; try clear c3b1; try clear hcz5_0
   try clear hcz5_1; try clear hfz5_0; try clear hfz5_1
   obtain ⟨x21_1, rfl, HA, HK1, BK314, HB⟩ := hrel
   cases gk with
   | zero => exact absurd HA.out (by simp [euclid_Point.l0])
   | succ k1 =>
    have H := HA.out; clear HA
    simp only [euclid_Point.l0] at H
    by_cases c6 : x21_1 < (l0_0.length : Int)
    ·rw [if_pos c6] at H
     have c6b0 : decide (x21_1 < (l0_0.length : Int)) = true := decide_eq_true c6
     clear c6
     by_cases c7 : 0 ≤ x21_1
     ·rw [if_pos c7] at H
      have c7b0 : decide (0 ≤ x21_1) = true := decide_eq_true c7; clear c7
      by_cases c8 : x21_1 < (l0_0.length : Int)
      ·rw [if_pos c8] at H
       have c8b0 : decide (x21_1 < (l0_0.length : Int)) = true := decide_eq_true c8
       clear c8; replace H := Option.bind_eq_some_iff.mp H
       obtain ⟨t317, A90, H⟩ := H
       replace H : (if t317 = 0 then (euclid_Point.l0 k1 l1 l0_0 (l0_0.length : Int) (wrap64 (x21_1 + 1)) l0_0 a0_1) else (some (([] : List Int), 1))) = some (r1, r2) := H
       have A9 := zK A90; clear A90
       by_cases c10 : t317 = 0
       ·rw [if_pos c10] at H
        have c10b0 : (t317 == 0) = true := beq_iff_eq.mpr c10
        have c10b1 : (t317 != 0) = false := bne_eq_false_iff_eq.mpr c10; clear c10
        have H' := zK H; clear H
        have p315 : 0 ≤ (x21_1 : Int) := of_decide_eq_true (by first | (with_reducible assumption) | assumption)
        have q315 : x21_1 < (l0_0.length : Int) := of_decide_eq_true (by first | (with_reducible assumption) | assumption)
        obtain ⟨ad315, A315_1, c315_1, e315, hx315_0, hx315_1, hl315_1, hi315_1⟩ := at_T41 HR0_0.out x21_1 p315 q315
        cases e315
        replace hx315_0 := (HB.out.cell (World.block_lt_of_cell? w _ hx315_0)).trans hx315_0
        replace hx315_1 := (HB.out.cell (World.block_lt_of_cell? w _ hx315_1)).trans hx315_1
        have HR315_1 := zK hi315_1
        have HC315_1 := zK hl315_1; clear hi315_1 hl315_1
        replace p315 := eq_true p315
        replace q315 := eq_true q315
        go_wp2_with (first | ((with_reducible refine gate_dst (N := 7) rfl ?_); refine box_event ?hg (N := 7) ?hd (cs := #[.int .i64 0, .slice none 0 0]) (t := 41) ?hr ?_; (case hd => rfl); (case hg => rfl); (case hr => first | (go_simp; done) | (go_simp; rfl)); intro gb316 hg w11 hbox hb; have BK316 := zK (hbox); have GW316 := zK ((by rw [hg]; exact (below_size (zo HB)) : w.heap.size ≤ gb316)); have GE316 := zK ((by rw [hg]; exact (below_size (zo HB)) : w.heap.size ≤ gb316)); replace HB := zK (below_step (zo HB) hb); have NB314_316 := zK ((by rw [hg]; exact Nat.ne_of_lt (blk_lt (g := gb314) (o := .cells #[.slice (some ad315) l0_0.length c0_0, .int .i64 a0_1] 32 (0, 0)) (zb BK314)) : gb314 ≠ gb316)); have NB316_314 := zK ((by rw [hg]; exact Nat.ne_of_gt (blk_lt (g := gb314) (o := .cells #[.slice (some ad315) l0_0.length c0_0, .int .i64 a0_1] 32 (0, 0)) (zb BK314)) : gb316 ≠ gb314)); replace BK314 := zK (blk_below (g := gb314) (o := .cells #[.slice (some ad315) l0_0.length c0_0, .int .i64 a0_1] 32 (0, 0)) (zb BK314) hb); clear hb hbox hg; have hnb12 := NB316_314.out; have hnc12 := NB314_316.out; have hcz13_0 : w11.cell? ⟨gb316, 0, none⟩ = some (.int .i64 0) := (blk_cell BK316.out 0).trans rfl; have hcz13_1 : w11.cell? ⟨gb316, 1, none⟩ = some (.slice none 0 0) := (blk_cell BK316.out 1).trans rfl; have hfz13_0 := blk_frozen BK316.out 0; have hfz13_1 := blk_frozen BK316.out 1) | ((with_reducible refine zC (f := 18) rfl ?_); refine goesL_ (some 26) rfl rfl Try.func18 (by kernel_rfl) rfl #[.agg #[.int .i64 ((rd_T41 l0_0 x21_1).f0), .slice A315_1 ((rd_T41 l0_0 x21_1).f1).length c315_1]] rfl (by (try simp only [List.map_toArray, List.map_cons, List.map_nil]); first | done | rfl | (simp only [List.length_drop, List.length_take]; rfl)) ?_; (with_reducible refine (lin_Right.calls k1 ((rd_T41 l0_0 x21_1).f0) _ _ ((rd_T41 l0_0 x21_1).f1) t317 _ ?side1 ?side2 A9.out).mono ?_); (case side1 => exact Kd.C_below HR315_1.out (zo HB)); (case side2 => exact HC315_1.out); rintro e w14 ⟨rfl, hb⟩; refine ⟨_, rfl, ?_⟩; replace BK314 := zK (blk_below (g := gb314) (o := .cells #[.slice (some ad315) l0_0.length c0_0, .int .i64 a0_1] 32 (0, 0)) (zb BK314) hb); replace BK316 := zK (blk_below (g := gb316) (o := .cells #[.int .i64 ((rd_T41 l0_0 x21_1).f0), .slice A315_1 ((rd_T41 l0_0 x21_1).f1).length c315_1] 41 (0, 0)) (by refine zM ?_; refine blk_put (cs := #[.int .i64 ((rd_T41 l0_0 x21_1).f0), .slice none 0 0]) ?_ 1 _ rfl; refine zM ?_; refine blk_put (cs := #[.int .i64 0, .slice none 0 0]) ?_ 0 _ rfl; refine zM ?_; exact BK316.out) hb); replace HB := zK (below_step (zo HB) hb); (try clear hb); (try clear hb2); (try clear hk); (try clear hi)))
        go_roundg k1
        case measure => have := HK1.out; omega
        case rel => exact ⟨(wrap64 (x21_1 + 1)), (by first | rfl | (simp; done) | (simp [*]; done)), H', ⟨by have := HK1.out; omega⟩, ⟨zb BK314⟩, ⟨zo HB⟩⟩
       ·rw [if_neg c10] at H
        have c10b0 : (t317 == 0) = false := beq_eq_false_iff_ne.mpr c10
        have c10b1 : (t317 != 0) = true := bne_iff_ne.mpr c10
        simp only [Option.some.injEq, Prod.mk.injEq] at H
        obtain ⟨rfl, rfl⟩ := H
        have p315 : 0 ≤ (x21_1 : Int) := of_decide_eq_true (by first | (with_reducible assumption) | assumption)
        have q315 : x21_1 < (l0_0.length : Int) := of_decide_eq_true (by first | (with_reducible assumption) | assumption)
        obtain ⟨ad315, A315_1, c315_1, e315, hx315_0, hx315_1, hl315_1, hi315_1⟩ := at_T41 HR0_0.out x21_1 p315 q315
        cases e315
        replace hx315_0 := (HB.out.cell (World.block_lt_of_cell? w _ hx315_0)).trans hx315_0
        replace hx315_1 := (HB.out.cell (World.block_lt_of_cell? w _ hx315_1)).trans hx315_1
        have HR315_1 := zK hi315_1
        have HC315_1 := zK hl315_1; clear hi315_1 hl315_1
        replace p315 := eq_true p315
        replace q315 := eq_true q315
        go_wp2_with (first | ((with_reducible refine gate_dst (N := 7) rfl ?_); refine box_event ?hg (N := 7) ?hd (cs := #[.int .i64 0, .slice none 0 0]) (t := 41) ?hr ?_; (case hd => rfl); (case hg => rfl); (case hr => first | (go_simp; done) | (go_simp; rfl)); intro gb316 hg w15 hbox hb; have BK316 := zK (hbox); have GW316 := zK ((by rw [hg]; exact (below_size (zo HB)) : w.heap.size ≤ gb316)); have GE316 := zK ((by rw [hg]; exact (below_size (zo HB)) : w.heap.size ≤ gb316)); replace HB := zK (below_step (zo HB) hb); have NB314_316 := zK ((by rw [hg]; exact Nat.ne_of_lt (blk_lt (g := gb314) (o := .cells #[.slice (some ad315) l0_0.length c0_0, .int .i64 a0_1] 32 (0, 0)) (zb BK314)) : gb314 ≠ gb316)); have NB316_314 := zK ((by rw [hg]; exact Nat.ne_of_gt (blk_lt (g := gb314) (o := .cells #[.slice (some ad315) l0_0.length c0_0, .int .i64 a0_1] 32 (0, 0)) (zb BK314)) : gb316 ≠ gb314)); replace BK314 := zK (blk_below (g := gb314) (o := .cells #[.slice (some ad315) l0_0.length c0_0, .int .i64 a0_1] 32 (0, 0)) (zb BK314) hb); clear hb hbox hg; have hnb16 := NB316_314.out; have hnc16 := NB314_316.out; have hcz17_0 : w15.cell? ⟨gb316, 0, none⟩ = some (.int .i64 0) := (blk_cell BK316.out 0).trans rfl; have hcz17_1 : w15.cell? ⟨gb316, 1, none⟩ = some (.slice none 0 0) := (blk_cell BK316.out 1).trans rfl; have hfz17_0 := blk_frozen BK316.out 0; have hfz17_1 := blk_frozen BK316.out 1) | ((with_reducible refine zC (f := 18) rfl ?_); refine goesL_ (some 26) rfl rfl Try.func18 (by kernel_rfl) rfl #[.agg #[.int .i64 ((rd_T41 l0_0 x21_1).f0), .slice A315_1 ((rd_T41 l0_0 x21_1).f1).length c315_1]] rfl (by (try simp only [List.map_toArray, List.map_cons, List.map_nil]); first | done | rfl | (simp only [List.length_drop, List.length_take]; rfl)) ?_; (with_reducible refine (lin_Right.calls k1 ((rd_T41 l0_0 x21_1).f0) _ _ ((rd_T41 l0_0 x21_1).f1) t317 _ ?side1 ?side2 A9.out).mono ?_); (case side1 => exact Kd.C_below HR315_1.out (zo HB)); (case side2 => exact HC315_1.out); rintro e w18 ⟨rfl, hb⟩; refine ⟨_, rfl, ?_⟩; replace BK314 := zK (blk_below (g := gb314) (o := .cells #[.slice (some ad315) l0_0.length c0_0, .int .i64 a0_1] 32 (0, 0)) (zb BK314) hb); replace BK316 := zK (blk_below (g := gb316) (o := .cells #[.int .i64 ((rd_T41 l0_0 x21_1).f0), .slice A315_1 ((rd_T41 l0_0 x21_1).f1).length c315_1] 41 (0, 0)) (by refine zM ?_; refine blk_put (cs := #[.int .i64 ((rd_T41 l0_0 x21_1).f0), .slice none 0 0]) ?_ 1 _ rfl; refine zM ?_; refine blk_put (cs := #[.int .i64 0, .slice none 0 0]) ?_ 0 _ rfl; refine zM ?_; exact BK316.out) hb); replace HB := zK (below_step (zo HB) hb); (try clear hb); (try clear hb2); (try clear hk); (try clear hi)))
        go_ret2
        exact ⟨_, by first | rfl | (simp [errW_none, errW_some] <;> rfl) | (simp [*, errW_none, errW_some] <;> rfl), by first | exact Kd.R_nil _ _ _ _ _ | exact Kd.N_nil _ _ _ _ _ | exact Kd.V_nil _ _ _ _ _ | exact Kd.Q_nil _ _ _ _ _ | exact Kd.S_nil _ _ _ _ _, zo HB⟩
      ·rw [if_neg c8] at H
       exact absurd H (by simp)
     ·rw [if_neg c7] at H
      exact absurd H (by simp)
    ·rw [if_neg c6] at H
     have c6b0 : decide (x21_1 < (l0_0.length : Int)) = false := decide_eq_false c6
     clear c6
     have H' := zK H; clear H
     have hcz19_0 : wr.cell? ⟨gb314, 0, none⟩ = some (.slice A0_0 l0_0.length c0_0) := (blk_cell BK314.out 0).trans rfl
     have hcz19_1 : wr.cell? ⟨gb314, 1, none⟩ = some (.int .i64 a0_1) := (blk_cell BK314.out 1).trans rfl
     have hfz19_0 := blk_frozen BK314.out 0
     have hfz19_1 := blk_frozen BK314.out 1
     go_wp2
     go_loopg [8, 32] k1 (fun kq v8 v32 w' => ∃ (x8_2 : List Int) (x32_2 : Int), v32 = .int .i64 x32_2 ∧ Aside0 (euclid_Point.l1 kq l1 x8_2 l0_0 (l0_0.length : Int) x32_2 = some (r1, r2)) ∧ Aside0 (kq ≤ k1) ∧ Aside0 (Kd.R (Kd.int .i64) 2 w' w.heap.size (fun _ => True) v8 x8_2) ∧ Aside0 (w'.heap[gb314]? = some (.cells #[(.slice A0_0 l0_0.length c0_0), .int .i64 a0_1] 32 (0, 0))) ∧ Aside0 (Below w.heap.size w w'))
     case atStart => exact ⟨(([] : List Int)), (0), (by first | rfl | (simp; done) | (simp [*]; done)), H', ⟨Nat.le_refl _⟩, ⟨by first | exact Kd.R_nil _ _ _ _ _ | exact Kd.N_nil _ _ _ _ _ | exact Kd.V_nil _ _ _ _ _ | exact Kd.Q_nil _ _ _ _ _ | exact Kd.S_nil _ _ _ _ _⟩, ⟨zb BK314⟩, ⟨zo HB⟩⟩
     case round =>
      clear H'; try clear c1; try clear c2; try clear p2
      try clear c3; try clear c3b0; try clear c3b1; try clear p3
      try clear q3; try clear hx3; try clear c6; try clear c6b0
      try clear p6; try clear c7; try clear c7b0; try clear c8
      try clear c8b0; try clear c10; try clear c10b0; try clear c10b1
      try clear c12; try clear c16; try clear c18; try clear hcz13_0
      try clear hcz13_1; try clear hcz17_0; try clear hcz17_1; try clear hcz19_0
      try clear hcz19_1; try clear hcz5_0; try clear hcz5_1; try clear hfz13_0
      try clear hfz13_1; try clear hfz17_0; try clear hfz17_1; try clear hfz19_0
      try clear hfz19_1; try clear hfz5_0; try clear hfz5_1; try clear hx315_0
      try clear hx315_1; try clear p2; try clear p315; try clear q315
      obtain ⟨x8_2, x32_2, rfl, HA, HK2, HO_8, BK314, HB⟩ := hrel
      cases gk with
      | zero => exact absurd HA.out (by simp [euclid_Point.l1])
      | succ k2 =>
       have H := HA.out; clear HA
       simp only [euclid_Point.l1] at H
       by_cases c20 : x32_2 < (l0_0.length : Int)
       ·rw [if_pos c20] at H
        have c20b0 : decide (x32_2 < (l0_0.length : Int)) = true := decide_eq_true c20
        clear c20
        by_cases c21 : 0 ≤ x32_2
        ·rw [if_pos c21] at H
         have c21b0 : decide (0 ≤ x32_2) = true := decide_eq_true c21; clear c21
         by_cases c22 : x32_2 < (l0_0.length : Int)
         ·rw [if_pos c22] at H
          have c22b0 : decide (x32_2 < (l0_0.length : Int)) = true := decide_eq_true c22
          clear c22; replace H := Option.bind_eq_some_iff.mp H
          obtain ⟨⟨t320, t321⟩, A230, H⟩ := H
          replace H : (if t321 = 0 then (if x8_2.length < 17592186044416 then (euclid_Point.l1 k2 l1 (x8_2 ++ [t320]) l0_0 (l0_0.length : Int) (wrap64 (x32_2 + 1))) else (none)) else (some (([] : List Int), t321))) = some (r1, r2) := H
          have A23 := zK A230; clear A230
          by_cases c24 : t321 = 0
          ·rw [if_pos c24] at H
           have c24b0 : (t321 == 0) = true := beq_iff_eq.mpr c24
           have c24b1 : (t321 != 0) = false := bne_eq_false_iff_eq.mpr c24; clear c24
           by_cases c25 : x8_2.length < 17592186044416
           ·rw [if_pos c25] at H
            have LMc25 := zK c25; clear c25
            obtain ⟨y322, hy322⟩ : ∃ y_ : List Int, y_ = (x8_2 ++ [t320]) := ⟨_, rfl⟩
            replace H : (euclid_Point.l1 k2 l1 y322 l0_0 (l0_0.length : Int) (wrap64 (x32_2 + 1))) = some (r1, r2) := by first | (rw [hy322]; with_reducible exact H) | (have H2_ := (Option.bind_some _ _).symm.trans H; rw [hy322]; with_reducible exact H2_) | (have H2_ := (Option.bind_some _ _).symm.trans H; with_reducible exact H2_) | with_reducible exact H | (rw [hy322]; exact H) | exact H
            have Ny322 := zK hy322; clear hy322
            have H' := zK H; clear H
            have p318 : 0 ≤ (x32_2 : Int) := of_decide_eq_true (by first | (with_reducible assumption) | assumption)
            have q318 : x32_2 < (l0_0.length : Int) := of_decide_eq_true (by first | (with_reducible assumption) | assumption)
            obtain ⟨ad318, A318_1, c318_1, e318, hx318_0, hx318_1, hl318_1, hi318_1⟩ := at_T41 HR0_0.out x32_2 p318 q318
            cases e318
            replace hx318_0 := (HB.out.cell (World.block_lt_of_cell? w _ hx318_0)).trans hx318_0
            replace hx318_1 := (HB.out.cell (World.block_lt_of_cell? w _ hx318_1)).trans hx318_1
            have HR318_1 := zK hi318_1
            have HC318_1 := zK hl318_1; clear hi318_1 hl318_1
            replace p318 := eq_true p318
            replace q318 := eq_true q318
            go_wp2_with (first | ((with_reducible refine gate_dst (N := 10) rfl ?_); refine box_event ?hg (N := 10) ?hd (cs := #[.int .i64 0, .slice none 0 0]) (t := 41) ?hr ?_; (case hd => rfl); (case hg => rfl); (case hr => first | (go_simp; done) | (go_simp; rfl)); intro gb319 hg w26 hbox hb; replace HO_8 := zK (Kd.R_below (zr HO_8) hb); have BK319 := zK (hbox); have GW319 := zK ((by rw [hg]; exact (below_size (zo HB)) : w.heap.size ≤ gb319)); have GE319 := zK ((by rw [hg]; exact (below_size (zo HB)) : w.heap.size ≤ gb319)); replace HB := zK (below_step (zo HB) hb); have NB314_319 := zK ((by rw [hg]; exact Nat.ne_of_lt (blk_lt (g := gb314) (o := .cells #[.slice (some ad318) l0_0.length c0_0, .int .i64 a0_1] 32 (0, 0)) (zb BK314)) : gb314 ≠ gb319)); have NB319_314 := zK ((by rw [hg]; exact Nat.ne_of_gt (blk_lt (g := gb314) (o := .cells #[.slice (some ad318) l0_0.length c0_0, .int .i64 a0_1] 32 (0, 0)) (zb BK314)) : gb319 ≠ gb314)); replace BK314 := zK (blk_below (g := gb314) (o := .cells #[.slice (some ad318) l0_0.length c0_0, .int .i64 a0_1] 32 (0, 0)) (zb BK314) hb); clear hb hbox hg; have hnb27 := NB319_314.out; have hnc27 := NB314_319.out; have hcz28_0 : w26.cell? ⟨gb319, 0, none⟩ = some (.int .i64 0) := (blk_cell BK319.out 0).trans rfl; have hcz28_1 : w26.cell? ⟨gb319, 1, none⟩ = some (.slice none 0 0) := (blk_cell BK319.out 1).trans rfl; have hfz28_0 := blk_frozen BK319.out 0; have hfz28_1 := blk_frozen BK319.out 1) | ((with_reducible refine zC (f := 22) rfl ?_); refine goesL_ (some 39) rfl rfl Try.func22 (by kernel_rfl) rfl #[.agg #[.int .i64 ((rd_T41 l0_0 x32_2).f0), .slice A318_1 ((rd_T41 l0_0 x32_2).f1).length c318_1], .slice A1 l1.length c1] rfl (by (try simp only [List.map_toArray, List.map_cons, List.map_nil]); first | done | rfl | (simp only [List.length_drop, List.length_take]; rfl)) ?_; (with_reducible refine (lin_Eval.calls k2 ((rd_T41 l0_0 x32_2).f0) _ _ ((rd_T41 l0_0 x32_2).f1) _ _ l1 t320 t321 _ ?side1 ?side2 ?side3 ?side4 A23.out).mono ?_); (case side1 => exact Kd.C_below HR318_1.out (zo HB)); (case side2 => exact HC318_1.out); (case side3 => exact Kd.C_below HR1.out (zo HB)); (case side4 => exact HC1.out); rintro e w29 ⟨rfl, hb⟩; refine ⟨_, rfl, ?_⟩; replace HO_8 := zK (Kd.R_below (by (with_reducible repeat (first | apply Kd.R_alloc | apply Kd.R_drewN | apply Kd.R_drew)); exact (Kd.R_mono (Kd.R_far (p := ⟨gb319, 1, none⟩) (Kd.R_far (p := ⟨gb319, 0, none⟩) (Kd.R_types HO_8.out BK319.out (by decide)) (fun _ hk => hk.2) (.int .i64 ((rd_T41 l0_0 x32_2).f0))) (fun _ hk => hk.2) (.slice A318_1 ((rd_T41 l0_0 x32_2).f1).length c318_1)) (fun _ h_ => h_.1))) hb); replace BK314 := zK (blk_below (g := gb314) (o := .cells #[.slice (some ad318) l0_0.length c0_0, .int .i64 a0_1] 32 (0, 0)) (zb BK314) hb); replace BK319 := zK (blk_below (g := gb319) (o := .cells #[.int .i64 ((rd_T41 l0_0 x32_2).f0), .slice A318_1 ((rd_T41 l0_0 x32_2).f1).length c318_1] 41 (0, 0)) (by refine zM ?_; refine blk_put (cs := #[.int .i64 ((rd_T41 l0_0 x32_2).f0), .slice none 0 0]) ?_ 1 _ rfl; refine zM ?_; refine blk_put (cs := #[.int .i64 0, .slice none 0 0]) ?_ 0 _ rfl; refine zM ?_; exact BK319.out) hb); replace HB := zK (below_step (zo HB) hb); (try clear hb); (try clear hb2); (try clear hk); (try clear hi)) | ((with_reducible refine gate_builtin (b := .append) (xs := #[.tmp 45, .tmp 47]) rfl ?_); at_builtin; refine Kd.R_append (Kd.int .i64) (w0 := w) w.heap.size rfl (.tmp 45) (.tmp 47) 23 2 (.int .i64 0) 8 rfl Try.underlying23 info2 rfl (by decide) (by omega) u8 x8_2 t320 [.int .i64 t320] (fun _ => True) (fun _ => False) rfl rfl ?aP (fun _ hk => hk.elim) ?aF ?aO ?aB ?aS ?aL ?_; (case aP => exact rfl); (case aB => exact (zo HB)); (case aF => exact (fun _ _ => trivial)); (case aO => exact (zr HO_8)); (case aS => exact (below_size (zo HB))); (case aL => have := LMc25.out; omega); intro v323 w30 ho hb hg hat; rw [← Ny322.out] at ho; replace BK314 := zK (blk_grown (g := gb314) (o := .cells #[.slice (some ad318) l0_0.length c0_0, .int .i64 a0_1] 32 (0, 0)) (zb BK314) hg (Kd.R_ne HO_8.out BK314.out (by decide))); replace BK319 := zK (blk_grown (g := gb319) (o := .cells #[.int .i64 ((rd_T41 l0_0 x32_2).f0), .slice A318_1 ((rd_T41 l0_0 x32_2).f1).length c318_1] 41 (0, 0)) (zb BK319) hg (Kd.R_ne HO_8.out BK319.out (by decide))); replace HB := zK (hb); have HO324 := zK (ho); clear HO_8 ho hb hg hat))
            go_roundg k2
            case measure => have := HK1.out; have := HK2.out; omega
            case rel => exact ⟨(y322), (wrap64 (x32_2 + 1)), (by first | rfl | (simp; done) | (simp [*]; done)), H', ⟨by have := HK1.out; have := HK2.out; omega⟩, ⟨zr HO324⟩, ⟨zb BK314⟩, ⟨zo HB⟩⟩
           ·rw [if_neg c25] at H
            exact absurd H (by simp)
          ·rw [if_neg c24] at H
           have c24b0 : (t321 == 0) = false := beq_eq_false_iff_ne.mpr c24
           have c24b1 : (t321 != 0) = true := bne_iff_ne.mpr c24
           simp only [Option.some.injEq, Prod.mk.injEq] at H
           obtain ⟨rfl, rfl⟩ := H
           have p318 : 0 ≤ (x32_2 : Int) := of_decide_eq_true (by first | (with_reducible assumption) | assumption)
           have q318 : x32_2 < (l0_0.length : Int) := of_decide_eq_true (by first | (with_reducible assumption) | assumption)
           obtain ⟨ad318, A318_1, c318_1, e318, hx318_0, hx318_1, hl318_1, hi318_1⟩ := at_T41 HR0_0.out x32_2 p318 q318
           cases e318
           replace hx318_0 := (HB.out.cell (World.block_lt_of_cell? w _ hx318_0)).trans hx318_0
           replace hx318_1 := (HB.out.cell (World.block_lt_of_cell? w _ hx318_1)).trans hx318_1
           have HR318_1 := zK hi318_1
           have HC318_1 := zK hl318_1; clear hi318_1 hl318_1
           replace p318 := eq_true p318
           replace q318 := eq_true q318
           go_wp2_with (first | ((with_reducible refine gate_dst (N := 10) rfl ?_); refine box_event ?hg (N := 10) ?hd (cs := #[.int .i64 0, .slice none 0 0]) (t := 41) ?hr ?_; (case hd => rfl); (case hg => rfl); (case hr => first | (go_simp; done) | (go_simp; rfl)); intro gb319 hg w31 hbox hb; replace HO_8 := zK (Kd.R_below (zr HO_8) hb); have BK319 := zK (hbox); have GW319 := zK ((by rw [hg]; exact (below_size (zo HB)) : w.heap.size ≤ gb319)); have GE319 := zK ((by rw [hg]; exact (below_size (zo HB)) : w.heap.size ≤ gb319)); replace HB := zK (below_step (zo HB) hb); have NB314_319 := zK ((by rw [hg]; exact Nat.ne_of_lt (blk_lt (g := gb314) (o := .cells #[.slice (some ad318) l0_0.length c0_0, .int .i64 a0_1] 32 (0, 0)) (zb BK314)) : gb314 ≠ gb319)); have NB319_314 := zK ((by rw [hg]; exact Nat.ne_of_gt (blk_lt (g := gb314) (o := .cells #[.slice (some ad318) l0_0.length c0_0, .int .i64 a0_1] 32 (0, 0)) (zb BK314)) : gb319 ≠ gb314)); replace BK314 := zK (blk_below (g := gb314) (o := .cells #[.slice (some ad318) l0_0.length c0_0, .int .i64 a0_1] 32 (0, 0)) (zb BK314) hb); clear hb hbox hg; have hnb32 := NB319_314.out; have hnc32 := NB314_319.out; have hcz33_0 : w31.cell? ⟨gb319, 0, none⟩ = some (.int .i64 0) := (blk_cell BK319.out 0).trans rfl; have hcz33_1 : w31.cell? ⟨gb319, 1, none⟩ = some (.slice none 0 0) := (blk_cell BK319.out 1).trans rfl; have hfz33_0 := blk_frozen BK319.out 0; have hfz33_1 := blk_frozen BK319.out 1) | ((with_reducible refine zC (f := 22) rfl ?_); refine goesL_ (some 39) rfl rfl Try.func22 (by kernel_rfl) rfl #[.agg #[.int .i64 ((rd_T41 l0_0 x32_2).f0), .slice A318_1 ((rd_T41 l0_0 x32_2).f1).length c318_1], .slice A1 l1.length c1] rfl (by (try simp only [List.map_toArray, List.map_cons, List.map_nil]); first | done | rfl | (simp only [List.length_drop, List.length_take]; rfl)) ?_; (with_reducible refine (lin_Eval.calls k2 ((rd_T41 l0_0 x32_2).f0) _ _ ((rd_T41 l0_0 x32_2).f1) _ _ l1 t320 t321 _ ?side1 ?side2 ?side3 ?side4 A23.out).mono ?_); (case side1 => exact Kd.C_below HR318_1.out (zo HB)); (case side2 => exact HC318_1.out); (case side3 => exact Kd.C_below HR1.out (zo HB)); (case side4 => exact HC1.out); rintro e w34 ⟨rfl, hb⟩; refine ⟨_, rfl, ?_⟩; replace HO_8 := zK (Kd.R_below (by (with_reducible repeat (first | apply Kd.R_alloc | apply Kd.R_drewN | apply Kd.R_drew)); exact (Kd.R_mono (Kd.R_far (p := ⟨gb319, 1, none⟩) (Kd.R_far (p := ⟨gb319, 0, none⟩) (Kd.R_types HO_8.out BK319.out (by decide)) (fun _ hk => hk.2) (.int .i64 ((rd_T41 l0_0 x32_2).f0))) (fun _ hk => hk.2) (.slice A318_1 ((rd_T41 l0_0 x32_2).f1).length c318_1)) (fun _ h_ => h_.1))) hb); replace BK314 := zK (blk_below (g := gb314) (o := .cells #[.slice (some ad318) l0_0.length c0_0, .int .i64 a0_1] 32 (0, 0)) (zb BK314) hb); replace BK319 := zK (blk_below (g := gb319) (o := .cells #[.int .i64 ((rd_T41 l0_0 x32_2).f0), .slice A318_1 ((rd_T41 l0_0 x32_2).f1).length c318_1] 41 (0, 0)) (by refine zM ?_; refine blk_put (cs := #[.int .i64 ((rd_T41 l0_0 x32_2).f0), .slice none 0 0]) ?_ 1 _ rfl; refine zM ?_; refine blk_put (cs := #[.int .i64 0, .slice none 0 0]) ?_ 0 _ rfl; refine zM ?_; exact BK319.out) hb); replace HB := zK (below_step (zo HB) hb); (try clear hb); (try clear hb2); (try clear hk); (try clear hi)))
           go_ret2
           exact ⟨_, by first | rfl | (simp [errW_none, errW_some] <;> rfl) | (simp [*, errW_none, errW_some] <;> rfl), by first | exact Kd.R_nil _ _ _ _ _ | exact Kd.N_nil _ _ _ _ _ | exact Kd.V_nil _ _ _ _ _ | exact Kd.Q_nil _ _ _ _ _ | exact Kd.S_nil _ _ _ _ _, zo HB⟩
         ·rw [if_neg c22] at H
          exact absurd H (by simp)
        ·rw [if_neg c21] at H
         exact absurd H (by simp)
       ·rw [if_neg c20] at H
        have c20b0 : decide (x32_2 < (l0_0.length : Int)) = false := decide_eq_false c20
        clear c20
        simp only [Option.some.injEq, Prod.mk.injEq] at H
        obtain ⟨rfl, rfl⟩ := H
        go_wp2
        go_ret2
        exact ⟨_, by first | rfl | (simp [errW_none, errW_some] <;> rfl) | (simp [*, errW_none, errW_some] <;> rfl), by (with_reducible repeat (first | apply Kd.R_alloc | apply Kd.R_drewN | apply Kd.R_drew)); exact HO_8.out, zo HB⟩
 ·rw [if_neg c3] at H
  have c3b0 : ((l1.length : Int) == a0_1) = false := beq_eq_false_iff_ne.mpr c3
  have c3b1 : ((l1.length : Int) != a0_1) = true := bne_iff_ne.mpr c3
  simp only [Option.some.injEq, Prod.mk.injEq] at H
  obtain ⟨rfl, rfl⟩ := H
  go_enter Try.func21, Try.ntmps21
  go_wp2_with (first | ((with_reducible refine gate_dst (N := 2) rfl ?_); refine box_event ?hg (N := 2) ?hd (cs := #[.slice A0_0 l0_0.length c0_0, .int .i64 a0_1]) (t := 32) ?hr ?_; (case hd => rfl); (case hg => rfl); (case hr => first | (go_simp; done) | (go_simp; rfl)); intro gb314 hg w35 hbox hb; have BK314 := zK (hbox); have GW314 := zK ((by rw [hg]; exact (below_size (zo HB)) : w.heap.size ≤ gb314)); have GE314 := zK ((by rw [hg]; exact (below_size (zo HB)) : w.heap.size ≤ gb314)); replace HB := zK (below_step (zo HB) hb); clear hb hbox hg; have hcz36_0 : w35.cell? ⟨gb314, 0, none⟩ = some (.slice A0_0 l0_0.length c0_0) := (blk_cell BK314.out 0).trans rfl; have hcz36_1 : w35.cell? ⟨gb314, 1, none⟩ = some (.int .i64 a0_1) := (blk_cell BK314.out 1).trans rfl; have hfz36_0 := blk_frozen BK314.out 0; have hfz36_1 := blk_frozen BK314.out 1))
  go_ret2
  exact ⟨_, by first | rfl | (simp [errW_none, errW_some] <;> rfl) | (simp [*, errW_none, errW_some] <;> rfl), by first | exact Kd.R_nil _ _ _ _ _ | exact Kd.N_nil _ _ _ _ _ | exact Kd.V_nil _ _ _ _ _ | exact Kd.Q_nil _ _ _ _ _ | exact Kd.S_nil _ _ _ _ _, zo HB⟩

/-! ### sequiturbase_Int64s: function 23 -/
def sequiturbase_Int64s.l0 : Nat → List Int → List Int → Int → Option (Bool)
 | 0, _, _, _ => none
 | k + 1, x0, x1, x5 => if x5 < (x0.length : Int) then (if 0 ≤ x5 then (if x5 < (x1.length : Int) then (if (rd x0 x5) = (rd x1 x5) then (sequiturbase_Int64s.l0 k x0 x1 (wrap64 (x5 + 1))) else (some false)) else (none)) else (none)) else (some true)
def sequiturbase_Int64s.f (k : Nat) (l0 : List Int) (l1 : List Int) : Option (Bool) := if (l0.length : Int) = (l1.length : Int) then (sequiturbase_Int64s.l0 k l0 l1 0) else (some false)
theorem sequiturbase_Int64s.mono_l : ∀ k, (∀ y0 y1 y2, LeO (sequiturbase_Int64s.l0 k y0 y1 y2) (sequiturbase_Int64s.l0 (k + 1) y0 y1 y2))
 | 0 => fun _ _ _ r h => by simp [sequiturbase_Int64s.l0] at h
 | k + 1 => by
  have ih0 := sequiturbase_Int64s.mono_l k
  ·intro y0 y1 y2
   unfold sequiturbase_Int64s.l0
   repeat' first
   | (with_reducible exact ih0 _ _ _)
   | (with_reducible exact LeO.refl _)
   | (with_reducible exact LeO.none _)
   | (with_reducible refine LeO.ite ?_ ?_)
   | (with_reducible refine LeO.bind ?_ (fun _ => ?_))
   | exact ih0 _ _ _
   | exact LeO.none _
   | refine LeO.ite ?_ ?_
   | refine LeO.bind ?_ (fun _ => ?_)
theorem sequiturbase_Int64s.mono : ∀ a0 a1 k, LeO (sequiturbase_Int64s.f k a0 a1) (sequiturbase_Int64s.f (k + 1) a0 a1) := by
 intro a0 a1 k
 have ih0 := sequiturbase_Int64s.mono_l k
 unfold sequiturbase_Int64s.f
 repeat' first
   | (with_reducible exact ih0 _ _ _)
   | (with_reducible exact LeO.refl _)
   | (with_reducible exact LeO.none _)
   | (with_reducible refine LeO.ite ?_ ?_)
   | (with_reducible refine LeO.bind ?_ (fun _ => ?_))
   | exact ih0 _ _ _
   | exact LeO.none _
   | refine LeO.ite ?_ ?_
   | refine LeO.bind ?_ (fun _ => ?_)
set_option maxHeartbeats 8000000 in
set_option maxRecDepth 100000 in
theorem sequiturbase_Int64s.calls (k : Nat) (A0 : Option Addr) (c0 : Nat) (l0 : List Int) (A1 : Option Addr) (c1 : Nat) (l1 : List Int) (r : Bool) (w : World) (hr0 : Kd.C (Kd.int .i64) w A0 l0.length l0) (hc0 : l0.length ≤ c0) (hr1 : Kd.C (Kd.int .i64) w A1 l1.length l1) (hc1 : l1.length ≤ c1) (h : sequiturbase_Int64s.f k l0 l1 = some r) :
  Calls Try.prog 23 #[.slice A0 l0.length c0, .slice A1 l1.length c1] w fun e w' => e = .returned (.bool r) ∧ Drawn0 w w' := by
 have HR0 := zK hr0
 have HC0 := zK hc0; clear hr0 hc0
 have HR1 := zK hr1
 have HC1 := zK hc1; clear hr1 hc1
 have H : (if (l0.length : Int) = (l1.length : Int) then (sequiturbase_Int64s.l0 k l0 l1 0) else (some false)) = some r := h
 clear h
 by_cases c3 : (l0.length : Int) = (l1.length : Int)
 ·rw [if_pos c3] at H
  have c3b0 : ((l0.length : Int) == (l1.length : Int)) = true := beq_iff_eq.mpr c3
  have c3b1 : ((l0.length : Int) != (l1.length : Int)) = false := bne_eq_false_iff_eq.mpr c3
  have c3b2 : (l0.length == l1.length) = true := by first | simpa using c3 | (simp at c3 ⊢; omega)
  clear c3
  have H' := zK H; clear H
  go_enter Try.func23, Try.ntmps23
  go_wp2
  repeat (go_quiet (fail); try go_wp2)
  go_loopg [5] k (fun kq v5 w' => ∃ (x5_1 : Int), v5 = .int .i64 x5_1 ∧ Aside0 (sequiturbase_Int64s.l0 kq l0 l1 x5_1 = some r) ∧ Aside0 (kq ≤ k) ∧ Drawn0 w w')
  case atStart => exact ⟨(0), (by first | rfl | (simp; done) | (simp [*]; done)), H', ⟨Nat.le_refl _⟩, by repeat (first | exact Drawn0.refl _ | apply Drawn0.step)⟩
  case round =>
   clear H'; try clear c1; try clear c2; try clear p2
   try clear c3; try clear c3b0; try clear c3b1; try clear c3b2
   obtain ⟨x5_1, rfl, HA, HK1, ⟨m1, rfl⟩⟩ := hrel
   cases gk with
   | zero => exact absurd HA.out (by simp [sequiturbase_Int64s.l0])
   | succ k1 =>
    have H := HA.out; clear HA
    simp only [sequiturbase_Int64s.l0] at H
    by_cases c4 : x5_1 < (l0.length : Int)
    ·rw [if_pos c4] at H
     have c4b0 : decide (x5_1 < (l0.length : Int)) = true := decide_eq_true c4
     clear c4
     by_cases c5 : 0 ≤ x5_1
     ·rw [if_pos c5] at H
      have c5b0 : decide (0 ≤ x5_1) = true := decide_eq_true c5; clear c5
      by_cases c6 : x5_1 < (l1.length : Int)
      ·rw [if_pos c6] at H
       have c6b0 : decide (x5_1 < (l1.length : Int)) = true := decide_eq_true c6
       clear c6
       by_cases c7 : (rd l0 x5_1) = (rd l1 x5_1)
       ·rw [if_pos c7] at H
        have c7b0 : ((rd l0 x5_1) == (rd l1 x5_1)) = true := beq_iff_eq.mpr c7
        have c7b1 : ((rd l0 x5_1) != (rd l1 x5_1)) = false := bne_eq_false_iff_eq.mpr c7
        clear c7
        have H' := zK H; clear H
        have p325 : 0 ≤ (x5_1 : Int) := of_decide_eq_true (by first | (with_reducible assumption) | assumption)
        have q325 : x5_1 < (l0.length : Int) := of_decide_eq_true (by first | (with_reducible assumption) | assumption)
        obtain ⟨ad325, e325, hx325_0⟩ := Kd.at_int HR0.out x5_1 p325 q325
        cases e325
        replace p325 := eq_true p325
        replace q325 := eq_true q325
        have p326 : 0 ≤ (x5_1 : Int) := of_decide_eq_true (by first | (with_reducible assumption) | assumption)
        have q326 : x5_1 < (l1.length : Int) := of_decide_eq_true (by first | (with_reducible assumption) | assumption)
        obtain ⟨ad326, e326, hx326_0⟩ := Kd.at_int HR1.out x5_1 p326 q326
        cases e326
        replace p326 := eq_true p326
        replace q326 := eq_true q326
        go_wp2
        repeat (go_quiet (fail); try go_wp2)
        go_roundg k1
        case measure => have := HK1.out; omega
        case rel => exact ⟨(wrap64 (x5_1 + 1)), (by first | rfl | (simp; done) | (simp [*]; done)), H', ⟨by have := HK1.out; omega⟩, by repeat (first | exact Drawn0.refl _ | apply Drawn0.step)⟩
       ·rw [if_neg c7] at H
        have c7b0 : ((rd l0 x5_1) == (rd l1 x5_1)) = false := beq_eq_false_iff_ne.mpr c7
        have c7b1 : ((rd l0 x5_1) != (rd l1 x5_1)) = true := bne_iff_ne.mpr c7
        obtain rfl := Option.some.inj H
        have p325 : 0 ≤ (x5_1 : Int) := of_decide_eq_true (by first | (with_reducible assumption) | assumption)
        have q325 : x5_1 < (l0.length : Int) := of_decide_eq_true (by first | (with_reducible assumption) | assumption)
        obtain ⟨ad325, e325, hx325_0⟩ := Kd.at_int HR0.out x5_1 p325 q325
        cases e325
        replace p325 := eq_true p325
        replace q325 := eq_true q325
        have p326 : 0 ≤ (x5_1 : Int) := of_decide_eq_true (by first | (with_reducible assumption) | assumption)
        have q326 : x5_1 < (l1.length : Int) := of_decide_eq_true (by first | (with_reducible assumption) | assumption)
        obtain ⟨ad326, e326, hx326_0⟩ := Kd.at_int HR1.out x5_1 p326 q326
        cases e326
        replace p326 := eq_true p326
        replace q326 := eq_true q326
        go_wp2
        repeat (go_quiet (fail); try go_wp2)
        go_ret
        exact ⟨by first | rfl | (simp; done) | (simp [*]; done), by repeat (first | exact Drawn0.refl _ | apply Drawn0.step)⟩
      ·rw [if_neg c6] at H
       exact absurd H (by simp)
     ·rw [if_neg c5] at H
      exact absurd H (by simp)
    ·rw [if_neg c4] at H
     have c4b0 : decide (x5_1 < (l0.length : Int)) = false := decide_eq_false c4
     clear c4
     obtain rfl := Option.some.inj H
     go_wp2
     repeat (go_quiet (fail); try go_wp2)
     go_ret
     exact ⟨by first | rfl | (simp; done) | (simp [*]; done), by repeat (first | exact Drawn0.refl _ | apply Drawn0.step)⟩
 ·rw [if_neg c3] at H
  have c3b0 : ((l0.length : Int) == (l1.length : Int)) = false := beq_eq_false_iff_ne.mpr c3
  have c3b1 : ((l0.length : Int) != (l1.length : Int)) = true := bne_iff_ne.mpr c3
  have c3b2 : (l0.length == l1.length) = false := by first | simpa using c3 | (simp at c3 ⊢; omega)
  obtain rfl := Option.some.inj H
  go_enter Try.func23, Try.ntmps23
  go_wp2
  repeat (go_quiet (fail); try go_wp2)
  go_ret
  exact ⟨by first | rfl | (simp; done) | (simp [*]; done), by repeat (first | exact Drawn0.refl _ | apply Drawn0.step)⟩

end Go.Proofs.Ytjinmlpekecmbaa.PEuclidPoints
