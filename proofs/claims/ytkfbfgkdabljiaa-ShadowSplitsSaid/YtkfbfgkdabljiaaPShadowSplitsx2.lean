/- What the call of each function that the law reaches comes to: it answers as the plain function of the same name does, wherever that one answers; and the law itself out of its plain form. Written by a program of this session (an extended copy of the printer); no condition but what stands in each theorem. -/
import Derived.Test.YtkfbfgkdabljiaaPShadowSplitsx0
namespace Go.Proofs.Ytkfbfgkdabljiaa.PShadowSplits
open Go.RowKit Go.Proofs.YtkfbfgkdabljiaaW.PrintWords Go.Proofs.YtkfbfgkdabljiaaW.PrintLast Go.Proofs.YtkfbfgkdabljiaaW.PrintMore
open Go.Proofs.YtkfbfgkdabljiaaW.PrintWords renaming blk_drewN → zN, blk_drew → zD, blk_alloc → zA, below_alloc → yA, pw_below_drewN → yN, below_drew1 → yD, below_set → yS, gate_callee → zC
open Go.Proofs.YtkfbfgkdabljiaaW.PrintWords.Kd renaming C_alloc → cA, C_drewN → cN, C_drew → cD
open Go.Proofs.YtkfbfgkdabljiaaW.PrintWords.Aside0 renaming mk → zK
attribute [local go_sem] max2_int min2_int max_two min_two max_three min_three max_four min_four   -- for this text's walks alone
set_option linter.unusedVariables false
set_option linter.unusedSimpArgs false

/-! ### lin_By: function 46 -/
def lin_By.l0 : Nat → Int → List (S68) → Int → Int → Option (Int)
 | 0, _, _, _, _ => none
 | k + 1, x1, x8, x9, x10 => if x10 < x9 then (if 0 ≤ x10 then (if x10 < (x8.length : Int) then (if ((rd_T68 x8 x10).f0) = x1 then (some ((rd_T68 x8 x10).f1)) else (lin_By.l0 k x1 x8 x9 (wrap64 (x10 + 1)))) else (none)) else (none)) else (some 0)
def lin_By.f (k : Nat) (a0_0 : Int) (l0_1 : List (S68)) (a1 : Int) : Option (Int) := lin_By.l0 k a1 l0_1 (l0_1.length : Int) 0
theorem lin_By.mono_l : ∀ k, (∀ y0 y1 y2 y3, LeO (lin_By.l0 k y0 y1 y2 y3) (lin_By.l0 (k + 1) y0 y1 y2 y3))
 | 0 => fun _ _ _ _ r h => by simp [lin_By.l0] at h
 | k + 1 => by
  have ih0 := lin_By.mono_l k
  ·intro y0 y1 y2 y3
   unfold lin_By.l0
   repeat' first
   | (with_reducible exact ih0 _ _ _ _)
   | (with_reducible exact LeO.refl _)
   | (with_reducible exact LeO.none _)
   | (with_reducible refine LeO.ite ?_ ?_)
   | (with_reducible refine LeO.bind ?_ (fun _ => ?_))
   | exact ih0 _ _ _ _
   | exact LeO.none _
   | refine LeO.ite ?_ ?_
   | refine LeO.bind ?_ (fun _ => ?_)
theorem lin_By.mono : ∀ a0 a1 a2 k, LeO (lin_By.f k a0 a1 a2) (lin_By.f (k + 1) a0 a1 a2) := by
 intro a0 a1 a2 k
 have ih0 := lin_By.mono_l k
 unfold lin_By.f
 repeat' first
   | (with_reducible exact ih0 _ _ _ _)
   | (with_reducible exact LeO.refl _)
   | (with_reducible exact LeO.none _)
   | (with_reducible refine LeO.ite ?_ ?_)
   | (with_reducible refine LeO.bind ?_ (fun _ => ?_))
   | exact ih0 _ _ _ _
   | exact LeO.none _
   | refine LeO.ite ?_ ?_
   | refine LeO.bind ?_ (fun _ => ?_)
set_option maxHeartbeats 8000000 in
set_option maxRecDepth 100000 in
theorem lin_By.calls (k : Nat) (a0_0 : Int) (A0_1 : Option Addr) (c0_1 : Nat) (l0_1 : List (S68)) (a1 : Int) (r : Int) (w : World) (hr0_1 : Kd.C k68 w A0_1 l0_1.length l0_1) (hc0_1 : l0_1.length ≤ c0_1) (h : lin_By.f k a0_0 l0_1 a1 = some r) :
  Calls Try.prog 46 #[.agg #[.int .i64 a0_0, .slice A0_1 l0_1.length c0_1], .int .i64 a1] w fun e w' => e = .returned (.int .i64 r) ∧ Below w.heap.size w w' := by
 have hu62 := Try.underlying62
 have hu68 := Try.underlying68
 have HR0_1 := zK hr0_1
 have HC0_1 := zK hc0_1; clear hr0_1 hc0_1
 have HB := zK (Below.refl w.heap.size w)
 have H : (lin_By.l0 k a1 l0_1 (l0_1.length : Int) 0) = some r := h
 clear h
 have H' := zK H; clear H
 go_enter Try.func46, Try.ntmps46
 go_wp2_with (first | ((with_reducible refine gate_dst (N := 2) rfl ?_); refine box_event ?hg (N := 2) ?hd (cs := #[.int .i64 a0_0, .slice A0_1 l0_1.length c0_1]) (t := 62) ?hr ?_; (case hd => rfl); (case hg => rfl); (case hr => first | (go_simp; done) | (go_simp; rfl)); intro gb101 hg w3 hbox hb; have BK101 := zK (hbox); have GW101 := zK ((by rw [hg]; exact (below_size (zo HB)) : w.heap.size ≤ gb101)); have GE101 := zK ((by rw [hg]; exact (below_size (zo HB)) : w.heap.size ≤ gb101)); replace HB := zK (below_step (zo HB) hb); clear hb hbox hg; have hcz4_0 : w3.cell? ⟨gb101, 0, none⟩ = some (.int .i64 a0_0) := (blk_cell BK101.out 0).trans rfl; have hcz4_1 : w3.cell? ⟨gb101, 1, none⟩ = some (.slice A0_1 l0_1.length c0_1) := (blk_cell BK101.out 1).trans rfl; have hfz4_0 := blk_frozen BK101.out 0; have hfz4_1 := blk_frozen BK101.out 1))
 go_loopg [10] k (fun kq v10 w' => ∃ (x10_1 : Int), v10 = .int .i64 x10_1 ∧ Aside0 (lin_By.l0 kq a1 l0_1 (l0_1.length : Int) x10_1 = some r) ∧ Aside0 (kq ≤ k) ∧ Aside0 (w'.heap[gb101]? = some (.cells #[.int .i64 a0_0, (.slice A0_1 l0_1.length c0_1)] 62 (0, 0))) ∧ Aside0 (Below w.heap.size w w'))
 case atStart => exact ⟨(0), (by first | rfl | (simp; done) | (simp [*]; done)), H', ⟨Nat.le_refl _⟩, ⟨zb BK101⟩, ⟨zo HB⟩⟩
 case round =>
  clear H'; try clear p2; try clear c4; try clear hcz4_0
  try clear hcz4_1; try clear hfz4_0; try clear hfz4_1
  obtain ⟨x10_1, rfl, HA, HK1, BK101, HB⟩ := hrel
  cases gk with
  | zero => exact absurd HA.out (by simp [lin_By.l0])
  | succ k1 =>
   have H := HA.out; clear HA
   simp only [lin_By.l0] at H
   by_cases c5 : x10_1 < (l0_1.length : Int)
   ·rw [if_pos c5] at H
    have c5b0 : decide (x10_1 < (l0_1.length : Int)) = true := decide_eq_true c5
    clear c5
    by_cases c6 : 0 ≤ x10_1
    ·rw [if_pos c6] at H
     have c6b0 : decide (0 ≤ x10_1) = true := decide_eq_true c6; clear c6
     by_cases c7 : x10_1 < (l0_1.length : Int)
     ·rw [if_pos c7] at H
      have c7b0 : decide (x10_1 < (l0_1.length : Int)) = true := decide_eq_true c7
      clear c7
      by_cases c8 : ((rd_T68 l0_1 x10_1).f0) = a1
      ·rw [if_pos c8] at H
       have c8b0 : (((rd_T68 l0_1 x10_1).f0) == a1) = true := beq_iff_eq.mpr c8
       have c8b1 : (((rd_T68 l0_1 x10_1).f0) != a1) = false := bne_eq_false_iff_eq.mpr c8
       clear c8
       obtain rfl := Option.some.inj H
       have p102 : 0 ≤ (x10_1 : Int) := of_decide_eq_true (by first | (with_reducible assumption) | assumption)
       have q102 : x10_1 < (l0_1.length : Int) := of_decide_eq_true (by first | (with_reducible assumption) | assumption)
       obtain ⟨ad102, e102, hx102_0, hx102_1⟩ := at_T68 HR0_1.out x10_1 p102 q102
       cases e102
       replace hx102_0 := (HB.out.cell (World.block_lt_of_cell? w _ hx102_0)).trans hx102_0
       replace hx102_1 := (HB.out.cell (World.block_lt_of_cell? w _ hx102_1)).trans hx102_1
       replace p102 := eq_true p102
       replace q102 := eq_true q102
       go_wp2_with (first | ((with_reducible refine gate_dst (N := 6) rfl ?_); refine box_event ?hg (N := 6) ?hd (cs := #[.int .i64 0, .int .i64 0]) (t := 68) ?hr ?_; (case hd => rfl); (case hg => rfl); (case hr => first | (go_simp; done) | (go_simp; rfl)); intro gb103 hg w9 hbox hb; have BK103 := zK (hbox); have GW103 := zK ((by rw [hg]; exact (below_size (zo HB)) : w.heap.size ≤ gb103)); have GE103 := zK ((by rw [hg]; exact (below_size (zo HB)) : w.heap.size ≤ gb103)); replace HB := zK (below_step (zo HB) hb); have NB101_103 := zK ((by rw [hg]; exact Nat.ne_of_lt (blk_lt (g := gb101) (o := .cells #[.int .i64 a0_0, .slice (some ad102) l0_1.length c0_1] 62 (0, 0)) (zb BK101)) : gb101 ≠ gb103)); have NB103_101 := zK ((by rw [hg]; exact Nat.ne_of_gt (blk_lt (g := gb101) (o := .cells #[.int .i64 a0_0, .slice (some ad102) l0_1.length c0_1] 62 (0, 0)) (zb BK101)) : gb103 ≠ gb101)); replace BK101 := zK (blk_below (g := gb101) (o := .cells #[.int .i64 a0_0, .slice (some ad102) l0_1.length c0_1] 62 (0, 0)) (zb BK101) hb); clear hb hbox hg; have hnb10 := NB103_101.out; have hnc10 := NB101_103.out; have hcz11_0 : w9.cell? ⟨gb103, 0, none⟩ = some (.int .i64 0) := (blk_cell BK103.out 0).trans rfl; have hcz11_1 : w9.cell? ⟨gb103, 1, none⟩ = some (.int .i64 0) := (blk_cell BK103.out 1).trans rfl; have hfz11_0 := blk_frozen BK103.out 0; have hfz11_1 := blk_frozen BK103.out 1))
       go_ret
       exact ⟨by first | rfl | (simp [errW_none, errW_some] <;> rfl) | (simp [*, errW_none, errW_some] <;> rfl), zo HB⟩
      ·rw [if_neg c8] at H
       have c8b0 : (((rd_T68 l0_1 x10_1).f0) == a1) = false := beq_eq_false_iff_ne.mpr c8
       have c8b1 : (((rd_T68 l0_1 x10_1).f0) != a1) = true := bne_iff_ne.mpr c8
       have H' := zK H; clear H
       have p102 : 0 ≤ (x10_1 : Int) := of_decide_eq_true (by first | (with_reducible assumption) | assumption)
       have q102 : x10_1 < (l0_1.length : Int) := of_decide_eq_true (by first | (with_reducible assumption) | assumption)
       obtain ⟨ad102, e102, hx102_0, hx102_1⟩ := at_T68 HR0_1.out x10_1 p102 q102
       cases e102
       replace hx102_0 := (HB.out.cell (World.block_lt_of_cell? w _ hx102_0)).trans hx102_0
       replace hx102_1 := (HB.out.cell (World.block_lt_of_cell? w _ hx102_1)).trans hx102_1
       replace p102 := eq_true p102
       replace q102 := eq_true q102
       go_wp2_with (first | ((with_reducible refine gate_dst (N := 6) rfl ?_); refine box_event ?hg (N := 6) ?hd (cs := #[.int .i64 0, .int .i64 0]) (t := 68) ?hr ?_; (case hd => rfl); (case hg => rfl); (case hr => first | (go_simp; done) | (go_simp; rfl)); intro gb103 hg w12 hbox hb; have BK103 := zK (hbox); have GW103 := zK ((by rw [hg]; exact (below_size (zo HB)) : w.heap.size ≤ gb103)); have GE103 := zK ((by rw [hg]; exact (below_size (zo HB)) : w.heap.size ≤ gb103)); replace HB := zK (below_step (zo HB) hb); have NB101_103 := zK ((by rw [hg]; exact Nat.ne_of_lt (blk_lt (g := gb101) (o := .cells #[.int .i64 a0_0, .slice (some ad102) l0_1.length c0_1] 62 (0, 0)) (zb BK101)) : gb101 ≠ gb103)); have NB103_101 := zK ((by rw [hg]; exact Nat.ne_of_gt (blk_lt (g := gb101) (o := .cells #[.int .i64 a0_0, .slice (some ad102) l0_1.length c0_1] 62 (0, 0)) (zb BK101)) : gb103 ≠ gb101)); replace BK101 := zK (blk_below (g := gb101) (o := .cells #[.int .i64 a0_0, .slice (some ad102) l0_1.length c0_1] 62 (0, 0)) (zb BK101) hb); clear hb hbox hg; have hnb13 := NB103_101.out; have hnc13 := NB101_103.out; have hcz14_0 : w12.cell? ⟨gb103, 0, none⟩ = some (.int .i64 0) := (blk_cell BK103.out 0).trans rfl; have hcz14_1 : w12.cell? ⟨gb103, 1, none⟩ = some (.int .i64 0) := (blk_cell BK103.out 1).trans rfl; have hfz14_0 := blk_frozen BK103.out 0; have hfz14_1 := blk_frozen BK103.out 1))
       go_roundg k1
       case measure => have := HK1.out; omega
       case rel => exact ⟨(wrap64 (x10_1 + 1)), (by first | rfl | (simp; done) | (simp [*]; done)), H', ⟨by have := HK1.out; omega⟩, ⟨zb BK101⟩, ⟨zo HB⟩⟩
     ·rw [if_neg c7] at H
      exact absurd H (by simp)
    ·rw [if_neg c6] at H
     exact absurd H (by simp)
   ·rw [if_neg c5] at H
    have c5b0 : decide (x10_1 < (l0_1.length : Int)) = false := decide_eq_false c5
    clear c5
    obtain rfl := Option.some.inj H
    go_wp2
    go_ret
    exact ⟨by first | rfl | (simp [errW_none, errW_some] <;> rfl) | (simp [*, errW_none, errW_some] <;> rfl), zo HB⟩

/-! ### shadow_bounds_1: function 82 -/
def shadow_bounds_1.l0 : Nat → Int → List Int → List (S70) → Int → Int → Int → Option (List Int)
 | 0, _, _, _, _, _, _ => none
 | k + 1, x0, x5, x9, x10, x11, x106000 => if x11 < x10 then (if 0 ≤ x11 then (if x11 < (x9.length : Int) then ((lin_By.f k ((rd_T70 x9 x11).f0.f0) ((rd_T70 x9 x11).f0.f1) x106000).bind fun t108 => (if t108 < 0 then (if x0 < 0 then (if x5.length < 17592186044416 then (shadow_bounds_1.l0 k x0 (x5 ++ [x11]) x9 x10 (wrap64 (x11 + 1)) x106000) else (none)) else (if t108 > 0 then (if x0 > 0 then (if x5.length < 17592186044416 then (shadow_bounds_1.l0 k x0 (x5 ++ [x11]) x9 x10 (wrap64 (x11 + 1)) x106000) else (none)) else (if t108 = 0 then (if x0 = 0 then (if x5.length < 17592186044416 then (shadow_bounds_1.l0 k x0 (x5 ++ [x11]) x9 x10 (wrap64 (x11 + 1)) x106000) else (none)) else (shadow_bounds_1.l0 k x0 x5 x9 x10 (wrap64 (x11 + 1)) x106000)) else (shadow_bounds_1.l0 k x0 x5 x9 x10 (wrap64 (x11 + 1)) x106000))) else (if t108 = 0 then (if x0 = 0 then (if x5.length < 17592186044416 then (shadow_bounds_1.l0 k x0 (x5 ++ [x11]) x9 x10 (wrap64 (x11 + 1)) x106000) else (none)) else (shadow_bounds_1.l0 k x0 x5 x9 x10 (wrap64 (x11 + 1)) x106000)) else (shadow_bounds_1.l0 k x0 x5 x9 x10 (wrap64 (x11 + 1)) x106000)))) else (if t108 > 0 then (if x0 > 0 then (if x5.length < 17592186044416 then (shadow_bounds_1.l0 k x0 (x5 ++ [x11]) x9 x10 (wrap64 (x11 + 1)) x106000) else (none)) else (if t108 = 0 then (if x0 = 0 then (if x5.length < 17592186044416 then (shadow_bounds_1.l0 k x0 (x5 ++ [x11]) x9 x10 (wrap64 (x11 + 1)) x106000) else (none)) else (shadow_bounds_1.l0 k x0 x5 x9 x10 (wrap64 (x11 + 1)) x106000)) else (shadow_bounds_1.l0 k x0 x5 x9 x10 (wrap64 (x11 + 1)) x106000))) else (if t108 = 0 then (if x0 = 0 then (if x5.length < 17592186044416 then (shadow_bounds_1.l0 k x0 (x5 ++ [x11]) x9 x10 (wrap64 (x11 + 1)) x106000) else (none)) else (shadow_bounds_1.l0 k x0 x5 x9 x10 (wrap64 (x11 + 1)) x106000)) else (shadow_bounds_1.l0 k x0 x5 x9 x10 (wrap64 (x11 + 1)) x106000))))) else (none)) else (none)) else (some x5)
def shadow_bounds_1.f (k : Nat) (a0 : Int) (l1 : List (S70)) (a2 : Int) : Option (List Int) := shadow_bounds_1.l0 k a0 ([] : List Int) l1 (l1.length : Int) 0 a2
theorem shadow_bounds_1.mono_l : ∀ k, (∀ y0 y1 y2 y3 y4 y5, LeO (shadow_bounds_1.l0 k y0 y1 y2 y3 y4 y5) (shadow_bounds_1.l0 (k + 1) y0 y1 y2 y3 y4 y5))
 | 0 => fun _ _ _ _ _ _ r h => by simp [shadow_bounds_1.l0] at h
 | k + 1 => by
  have ih0 := shadow_bounds_1.mono_l k
  ·intro y0 y1 y2 y3 y4 y5
   unfold shadow_bounds_1.l0
   repeat' first
   | (with_reducible exact ih0 _ _ _ _ _ _)
   | (with_reducible exact lin_By.mono _ _ _ _)
   | (with_reducible exact LeO.refl _)
   | (with_reducible exact LeO.none _)
   | (with_reducible refine LeO.ite ?_ ?_)
   | (with_reducible refine LeO.bind ?_ (fun _ => ?_))
   | exact ih0 _ _ _ _ _ _
   | exact lin_By.mono _ _ _ _
   | exact LeO.none _
   | refine LeO.ite ?_ ?_
   | refine LeO.bind ?_ (fun _ => ?_)
theorem shadow_bounds_1.mono : ∀ a0 a1 a2 k, LeO (shadow_bounds_1.f k a0 a1 a2) (shadow_bounds_1.f (k + 1) a0 a1 a2) := by
 intro a0 a1 a2 k
 have ih0 := shadow_bounds_1.mono_l k
 unfold shadow_bounds_1.f
 repeat' first
   | (with_reducible exact ih0 _ _ _ _ _ _)
   | (with_reducible exact lin_By.mono _ _ _ _)
   | (with_reducible exact LeO.refl _)
   | (with_reducible exact LeO.none _)
   | (with_reducible refine LeO.ite ?_ ?_)
   | (with_reducible refine LeO.bind ?_ (fun _ => ?_))
   | exact ih0 _ _ _ _ _ _
   | exact lin_By.mono _ _ _ _
   | exact LeO.none _
   | refine LeO.ite ?_ ?_
   | refine LeO.bind ?_ (fun _ => ?_)
set_option maxHeartbeats 8000000 in
set_option maxRecDepth 100000 in
theorem shadow_bounds_1.calls (k : Nat) (a0 : Int) (A1 : Option Addr) (c1 : Nat) (l1 : List (S70)) (gq1 : Nat) (a2 : Int) (gq2 : Nat) (r : List Int) (w : World) (hr1 : Kd.C k70 w A1 l1.length l1) (hc1 : l1.length ≤ c1) (hk1 : w.heap[gq1]? = some (.cells #[.slice A1 l1.length c1] 22 (0, 0))) (hk2 : w.heap[gq2]? = some (.cells #[.int .i64 a2] 3 (0, 0))) (hn1_2 : gq1 ≠ gq2) (h : shadow_bounds_1.f k a0 l1 a2 = some r) :
  Calls Try.prog 82 #[.int .i64 a0, .pointer (some ⟨gq1, 0, none⟩), .pointer (some ⟨gq2, 0, none⟩)] w fun e w' => ∃ v0_ : Value, e = .returned (v0_) ∧ Kd.R (Kd.int .i64) 3 w' w.heap.size (fun _ => True) v0_ r ∧ Below w.heap.size w w' := by
 have hu70 := Try.underlying70
 have hu62 := Try.underlying62
 have HR1 := zK hr1
 have HC1 := zK hc1; clear hr1 hc1
 have HB := zK (Below.refl w.heap.size w)
 have H : (shadow_bounds_1.l0 k a0 ([] : List Int) l1 (l1.length : Int) 0 a2) = some r := h
 clear h
 have BK104 := zK hk1; clear hk1
 have BK105 := zK hk2; clear hk2
 have NB104_105 := zK hn1_2
 have NB105_104 := zK (Ne.symm hn1_2); clear hn1_2
 have H' := zK H; clear H
 have hnb4 := NB104_105.out
 have hnc4 := NB105_104.out
 have hcz5_0 : w.cell? ⟨gq1, 0, none⟩ = some (.slice A1 l1.length c1) := (blk_cell BK104.out 0).trans rfl
 have hfz5_0 := blk_frozen BK104.out 0
 go_enter Try.func82, Try.ntmps82
 go_wp2
 go_loopg [5, 11] k (fun kq v5 v11 w' => ∃ (x5_1 : List Int) (x11_1 : Int), v11 = .int .i64 x11_1 ∧ Aside0 (shadow_bounds_1.l0 kq a0 x5_1 l1 (l1.length : Int) x11_1 a2 = some r) ∧ Aside0 (kq ≤ k) ∧ Aside0 (Kd.R (Kd.int .i64) 3 w' w.heap.size (fun k_ => k_ ≠ gq2) v5 x5_1) ∧ Aside0 (w'.heap[gq1]? = some (.cells #[(.slice A1 l1.length c1)] 22 (0, 0))) ∧ Aside0 (w'.heap[gq2]? = some (.cells #[.int .i64 a2] 3 (0, 0))) ∧ Aside0 (Below w.heap.size w w'))
 case atStart => exact ⟨(([] : List Int)), (0), (by first | rfl | (simp; done) | (simp [*]; done)), H', ⟨Nat.le_refl _⟩, ⟨by first | exact Kd.R_nil _ _ _ _ _ | exact Kd.N_nil _ _ _ _ _ | exact Kd.V_nil _ _ _ _ _ | exact Kd.Q_nil _ _ _ _ _ | exact Kd.S_nil _ _ _ _ _⟩, ⟨zb BK104⟩, ⟨zb BK105⟩, ⟨zo HB⟩⟩
 case round =>
  clear H'; try clear c1; try clear q1; try clear p2
  try clear q2; try clear c4; try clear hcz5_0; try clear hfz5_0
  obtain ⟨x5_1, x11_1, rfl, HA, HK1, HO_5, BK104, BK105, HB⟩ := hrel
  cases gk with
  | zero => exact absurd HA.out (by simp [shadow_bounds_1.l0])
  | succ k1 =>
   have H := HA.out; clear HA
   simp only [shadow_bounds_1.l0] at H
   by_cases c6 : x11_1 < (l1.length : Int)
   ·rw [if_pos c6] at H
    have c6b0 : decide (x11_1 < (l1.length : Int)) = true := decide_eq_true c6
    clear c6
    by_cases c7 : 0 ≤ x11_1
    ·rw [if_pos c7] at H
     have c7b0 : decide (0 ≤ x11_1) = true := decide_eq_true c7; clear c7
     by_cases c8 : x11_1 < (l1.length : Int)
     ·rw [if_pos c8] at H
      have c8b0 : decide (x11_1 < (l1.length : Int)) = true := decide_eq_true c8
      clear c8; replace H := Option.bind_eq_some_iff.mp H
      obtain ⟨t108, A90, H⟩ := H
      replace H : (if t108 < 0 then (if a0 < 0 then (if x5_1.length < 17592186044416 then (shadow_bounds_1.l0 k1 a0 (x5_1 ++ [x11_1]) l1 (l1.length : Int) (wrap64 (x11_1 + 1)) a2) else (none)) else (if t108 > 0 then (if a0 > 0 then (if x5_1.length < 17592186044416 then (shadow_bounds_1.l0 k1 a0 (x5_1 ++ [x11_1]) l1 (l1.length : Int) (wrap64 (x11_1 + 1)) a2) else (none)) else (if t108 = 0 then (if a0 = 0 then (if x5_1.length < 17592186044416 then (shadow_bounds_1.l0 k1 a0 (x5_1 ++ [x11_1]) l1 (l1.length : Int) (wrap64 (x11_1 + 1)) a2) else (none)) else (shadow_bounds_1.l0 k1 a0 x5_1 l1 (l1.length : Int) (wrap64 (x11_1 + 1)) a2)) else (shadow_bounds_1.l0 k1 a0 x5_1 l1 (l1.length : Int) (wrap64 (x11_1 + 1)) a2))) else (if t108 = 0 then (if a0 = 0 then (if x5_1.length < 17592186044416 then (shadow_bounds_1.l0 k1 a0 (x5_1 ++ [x11_1]) l1 (l1.length : Int) (wrap64 (x11_1 + 1)) a2) else (none)) else (shadow_bounds_1.l0 k1 a0 x5_1 l1 (l1.length : Int) (wrap64 (x11_1 + 1)) a2)) else (shadow_bounds_1.l0 k1 a0 x5_1 l1 (l1.length : Int) (wrap64 (x11_1 + 1)) a2)))) else (if t108 > 0 then (if a0 > 0 then (if x5_1.length < 17592186044416 then (shadow_bounds_1.l0 k1 a0 (x5_1 ++ [x11_1]) l1 (l1.length : Int) (wrap64 (x11_1 + 1)) a2) else (none)) else (if t108 = 0 then (if a0 = 0 then (if x5_1.length < 17592186044416 then (shadow_bounds_1.l0 k1 a0 (x5_1 ++ [x11_1]) l1 (l1.length : Int) (wrap64 (x11_1 + 1)) a2) else (none)) else (shadow_bounds_1.l0 k1 a0 x5_1 l1 (l1.length : Int) (wrap64 (x11_1 + 1)) a2)) else (shadow_bounds_1.l0 k1 a0 x5_1 l1 (l1.length : Int) (wrap64 (x11_1 + 1)) a2))) else (if t108 = 0 then (if a0 = 0 then (if x5_1.length < 17592186044416 then (shadow_bounds_1.l0 k1 a0 (x5_1 ++ [x11_1]) l1 (l1.length : Int) (wrap64 (x11_1 + 1)) a2) else (none)) else (shadow_bounds_1.l0 k1 a0 x5_1 l1 (l1.length : Int) (wrap64 (x11_1 + 1)) a2)) else (shadow_bounds_1.l0 k1 a0 x5_1 l1 (l1.length : Int) (wrap64 (x11_1 + 1)) a2)))) = some r := H
      have A9 := zK A90; clear A90
      by_cases c10 : t108 < 0
      ·rw [if_pos c10] at H
       have c10b0 : decide (t108 < 0) = true := decide_eq_true c10; clear c10
       by_cases c11 : a0 < 0
       ·rw [if_pos c11] at H
        have c11b0 : decide (a0 < 0) = true := decide_eq_true c11; clear c11
        by_cases c12 : x5_1.length < 17592186044416
        ·rw [if_pos c12] at H
         have LMc12 := zK c12; clear c12
         obtain ⟨y109, hy109⟩ : ∃ y_ : List Int, y_ = (x5_1 ++ [x11_1]) := ⟨_, rfl⟩
         replace H : (shadow_bounds_1.l0 k1 a0 y109 l1 (l1.length : Int) (wrap64 (x11_1 + 1)) a2) = some r := by first | (rw [hy109]; with_reducible exact H) | (have H2_ := (Option.bind_some _ _).symm.trans H; rw [hy109]; with_reducible exact H2_) | (have H2_ := (Option.bind_some _ _).symm.trans H; with_reducible exact H2_) | with_reducible exact H | (rw [hy109]; exact H) | exact H
         have Ny109 := zK hy109; clear hy109
         have H' := zK H; clear H
         have p106 : 0 ≤ (x11_1 : Int) := of_decide_eq_true (by first | (with_reducible assumption) | assumption)
         have q106 : x11_1 < (l1.length : Int) := of_decide_eq_true (by first | (with_reducible assumption) | assumption)
         obtain ⟨ad106, A106_1, c106_1, e106, hx106_0, hx106_1, hx106_2, hl106_1, hi106_1⟩ := at_T70 HR1.out x11_1 p106 q106
         cases e106
         replace hx106_0 := (HB.out.cell (World.block_lt_of_cell? w _ hx106_0)).trans hx106_0
         replace hx106_1 := (HB.out.cell (World.block_lt_of_cell? w _ hx106_1)).trans hx106_1
         replace hx106_2 := (HB.out.cell (World.block_lt_of_cell? w _ hx106_2)).trans hx106_2
         have HR106_1 := zK hi106_1
         have HC106_1 := zK hl106_1; clear hi106_1 hl106_1
         replace p106 := eq_true p106
         replace q106 := eq_true q106
         go_wp2_with (first | ((with_reducible refine gate_dst (N := 7) rfl ?_); refine box_event ?hg (N := 7) ?hd (cs := #[.int .i64 0, .slice none 0 0, .bool false]) (t := 70) ?hr ?_; (case hd => rfl); (case hg => rfl); (case hr => first | (go_simp; done) | (go_simp; rfl)); intro gb107 hg w13 hbox hb; replace HO_5 := zK (Kd.R_below (zr HO_5) hb); have BK107 := zK (hbox); have GW107 := zK ((by rw [hg]; exact (below_size (zo HB)) : w.heap.size ≤ gb107)); have GE107 := zK ((by rw [hg]; exact (below_size (zo HB)) : w.heap.size ≤ gb107)); replace HB := zK (below_step (zo HB) hb); have NB104_107 := zK ((by rw [hg]; exact Nat.ne_of_lt (blk_lt (g := gq1) (o := .cells #[.slice (some ad106) l1.length c1] 22 (0, 0)) (zb BK104)) : gq1 ≠ gb107)); have NB107_104 := zK ((by rw [hg]; exact Nat.ne_of_gt (blk_lt (g := gq1) (o := .cells #[.slice (some ad106) l1.length c1] 22 (0, 0)) (zb BK104)) : gb107 ≠ gq1)); replace BK104 := zK (blk_below (g := gq1) (o := .cells #[.slice (some ad106) l1.length c1] 22 (0, 0)) (zb BK104) hb); have NB105_107 := zK ((by rw [hg]; exact Nat.ne_of_lt (blk_lt (g := gq2) (o := .cells #[.int .i64 a2] 3 (0, 0)) (zb BK105)) : gq2 ≠ gb107)); have NB107_105 := zK ((by rw [hg]; exact Nat.ne_of_gt (blk_lt (g := gq2) (o := .cells #[.int .i64 a2] 3 (0, 0)) (zb BK105)) : gb107 ≠ gq2)); replace BK105 := zK (blk_below (g := gq2) (o := .cells #[.int .i64 a2] 3 (0, 0)) (zb BK105) hb); clear hb hbox hg; have hnb14 := NB107_104.out; have hnc14 := NB104_107.out; have hnb15 := NB107_105.out; have hnc15 := NB105_107.out; have hcz16_0 : w13.cell? ⟨gb107, 0, none⟩ = some (.int .i64 0) := (blk_cell BK107.out 0).trans rfl; have hcz16_1 : w13.cell? ⟨gb107, 1, none⟩ = some (.slice none 0 0) := (blk_cell BK107.out 1).trans rfl; have hcz16_2 : w13.cell? ⟨gb107, 2, none⟩ = some (.bool false) := (blk_cell BK107.out 2).trans rfl; have hfz16_0 := blk_frozen BK107.out 0; have hfz16_1 := blk_frozen BK107.out 1; have hfz16_2 := blk_frozen BK107.out 2; have hnb17 := NB105_104.out; have hnc17 := NB104_105.out; have hcz18_0 : w13.cell? ⟨gq2, 0, none⟩ = some (.int .i64 a2) := (blk_cell BK105.out 0).trans rfl; have hfz18_0 := blk_frozen BK105.out 0) | ((with_reducible refine zC (f := 46) rfl ?_); refine goesL_ (some 19) rfl rfl Try.func46 (by kernel_rfl) rfl #[.agg #[.int .i64 ((rd_T70 l1 x11_1).f0.f0), .slice A106_1 ((rd_T70 l1 x11_1).f0.f1).length c106_1], .int .i64 a2] rfl (by (try simp only [List.map_toArray, List.map_cons, List.map_nil]); first | done | rfl | (simp only [List.length_drop, List.length_take]; rfl)) ?_; (with_reducible refine (lin_By.calls k1 ((rd_T70 l1 x11_1).f0.f0) _ _ ((rd_T70 l1 x11_1).f0.f1) a2 t108 _ ?side1 ?side2 A9.out).mono ?_); (case side1 => exact Kd.C_below HR106_1.out (zo HB)); (case side2 => exact HC106_1.out); rintro e w19 ⟨rfl, hb⟩; refine ⟨_, rfl, ?_⟩; replace HO_5 := zK (Kd.R_below (by (with_reducible repeat (first | apply Kd.R_alloc | apply Kd.R_drewN | apply Kd.R_drew)); exact (Kd.R_mono (Kd.R_far (p := ⟨gb107, 2, none⟩) (Kd.R_far (p := ⟨gb107, 1, none⟩) (Kd.R_far (p := ⟨gb107, 0, none⟩) (Kd.R_types HO_5.out BK107.out (by decide)) (fun _ hk => hk.2) (.int .i64 ((rd_T70 l1 x11_1).f0.f0))) (fun _ hk => hk.2) (.slice A106_1 ((rd_T70 l1 x11_1).f0.f1).length c106_1)) (fun _ hk => hk.2) (.bool ((rd_T70 l1 x11_1).f1))) (fun _ h_ => h_.1))) hb); replace BK104 := zK (blk_below (g := gq1) (o := .cells #[.slice (some ad106) l1.length c1] 22 (0, 0)) (zb BK104) hb); replace BK105 := zK (blk_below (g := gq2) (o := .cells #[.int .i64 a2] 3 (0, 0)) (zb BK105) hb); replace BK107 := zK (blk_below (g := gb107) (o := .cells #[.int .i64 ((rd_T70 l1 x11_1).f0.f0), .slice A106_1 ((rd_T70 l1 x11_1).f0.f1).length c106_1, .bool ((rd_T70 l1 x11_1).f1)] 70 (0, 0)) (by refine zM ?_; refine blk_put (cs := #[.int .i64 ((rd_T70 l1 x11_1).f0.f0), .slice A106_1 ((rd_T70 l1 x11_1).f0.f1).length c106_1, .bool false]) ?_ 2 _ rfl; refine zM ?_; refine blk_put (cs := #[.int .i64 ((rd_T70 l1 x11_1).f0.f0), .slice none 0 0, .bool false]) ?_ 1 _ rfl; refine zM ?_; refine blk_put (cs := #[.int .i64 0, .slice none 0 0, .bool false]) ?_ 0 _ rfl; refine zM ?_; exact BK107.out) hb); replace HB := zK (below_step (zo HB) hb); (try clear hb); (try clear hb2); (try clear hk); (try clear hi)) | ((with_reducible refine gate_builtin (b := .append) (xs := #[.tmp 42, .tmp 44]) rfl ?_); at_builtin; refine Kd.R_append (Kd.int .i64) (w0 := w) w.heap.size rfl (.tmp 42) (.tmp 44) 83 3 (.int .i64 0) 8 rfl Try.underlying83 info3 rfl (by decide) (by omega) u5 x5_1 x11_1 [.int .i64 x11_1] (fun k_ => k_ ≠ gq2) (fun _ => False) rfl rfl ?aP (fun _ hk => hk.elim) ?aF ?aO ?aB ?aS ?aL ?_; (case aP => exact rfl); (case aB => exact (zo HB)); (case aF => exact (fun k_ hk => Kd.freshB (g := gq2) (o := .cells #[.int .i64 a2] 3 (0, 0)) (zb BK105) k_ hk)); (case aO => exact (zr HO_5)); (case aS => exact (below_size (zo HB))); (case aL => have := LMc12.out; omega); intro v110 w20 ho hb hg hat; rw [← Ny109.out] at ho; replace BK104 := zK (blk_grown (g := gq1) (o := .cells #[.slice (some ad106) l1.length c1] 22 (0, 0)) (zb BK104) hg (Kd.R_ne HO_5.out BK104.out (by decide))); replace BK105 := zK (blk_grown (g := gq2) (o := .cells #[.int .i64 a2] 3 (0, 0)) (zb BK105) hg (Kd.R_away HO_5.out (fun _ hk => hk))); replace BK107 := zK (blk_grown (g := gb107) (o := .cells #[.int .i64 ((rd_T70 l1 x11_1).f0.f0), .slice A106_1 ((rd_T70 l1 x11_1).f0.f1).length c106_1, .bool ((rd_T70 l1 x11_1).f1)] 70 (0, 0)) (zb BK107) hg (Kd.R_ne HO_5.out BK107.out (by decide))); replace HB := zK (hb); have HO111 := zK (ho); clear HO_5 ho hb hg hat))
         go_roundg k1
         case measure => have := HK1.out; omega
         case rel => exact ⟨(y109), (wrap64 (x11_1 + 1)), (by first | rfl | (simp; done) | (simp [*]; done)), H', ⟨by have := HK1.out; omega⟩, ⟨zr HO111⟩, ⟨zb BK104⟩, ⟨zb BK105⟩, ⟨zo HB⟩⟩
        ·rw [if_neg c12] at H
         exact absurd H (by simp)
       ·rw [if_neg c11] at H
        have c11b0 : decide (a0 < 0) = false := decide_eq_false c11; clear c11
        by_cases c21 : t108 > 0
        ·rw [if_pos c21] at H
         have c21b0 : decide (0 < t108) = true := decide_eq_true c21; clear c21
         by_cases c22 : a0 > 0
         ·rw [if_pos c22] at H
          have c22b0 : decide (0 < a0) = true := decide_eq_true c22; clear c22
          by_cases c23 : x5_1.length < 17592186044416
          ·rw [if_pos c23] at H
           have LMc23 := zK c23; clear c23
           obtain ⟨y112, hy112⟩ : ∃ y_ : List Int, y_ = (x5_1 ++ [x11_1]) := ⟨_, rfl⟩
           replace H : (shadow_bounds_1.l0 k1 a0 y112 l1 (l1.length : Int) (wrap64 (x11_1 + 1)) a2) = some r := by first | (rw [hy112]; with_reducible exact H) | (have H2_ := (Option.bind_some _ _).symm.trans H; rw [hy112]; with_reducible exact H2_) | (have H2_ := (Option.bind_some _ _).symm.trans H; with_reducible exact H2_) | with_reducible exact H | (rw [hy112]; exact H) | exact H
           have Ny112 := zK hy112; clear hy112
           have H' := zK H; clear H
           have p106 : 0 ≤ (x11_1 : Int) := of_decide_eq_true (by first | (with_reducible assumption) | assumption)
           have q106 : x11_1 < (l1.length : Int) := of_decide_eq_true (by first | (with_reducible assumption) | assumption)
           obtain ⟨ad106, A106_1, c106_1, e106, hx106_0, hx106_1, hx106_2, hl106_1, hi106_1⟩ := at_T70 HR1.out x11_1 p106 q106
           cases e106
           replace hx106_0 := (HB.out.cell (World.block_lt_of_cell? w _ hx106_0)).trans hx106_0
           replace hx106_1 := (HB.out.cell (World.block_lt_of_cell? w _ hx106_1)).trans hx106_1
           replace hx106_2 := (HB.out.cell (World.block_lt_of_cell? w _ hx106_2)).trans hx106_2
           have HR106_1 := zK hi106_1
           have HC106_1 := zK hl106_1; clear hi106_1 hl106_1
           replace p106 := eq_true p106
           replace q106 := eq_true q106
           go_wp2_with (first | ((with_reducible refine gate_dst (N := 7) rfl ?_); refine box_event ?hg (N := 7) ?hd (cs := #[.int .i64 0, .slice none 0 0, .bool false]) (t := 70) ?hr ?_; (case hd => rfl); (case hg => rfl); (case hr => first | (go_simp; done) | (go_simp; rfl)); intro gb107 hg w24 hbox hb; replace HO_5 := zK (Kd.R_below (zr HO_5) hb); have BK107 := zK (hbox); have GW107 := zK ((by rw [hg]; exact (below_size (zo HB)) : w.heap.size ≤ gb107)); have GE107 := zK ((by rw [hg]; exact (below_size (zo HB)) : w.heap.size ≤ gb107)); replace HB := zK (below_step (zo HB) hb); have NB104_107 := zK ((by rw [hg]; exact Nat.ne_of_lt (blk_lt (g := gq1) (o := .cells #[.slice (some ad106) l1.length c1] 22 (0, 0)) (zb BK104)) : gq1 ≠ gb107)); have NB107_104 := zK ((by rw [hg]; exact Nat.ne_of_gt (blk_lt (g := gq1) (o := .cells #[.slice (some ad106) l1.length c1] 22 (0, 0)) (zb BK104)) : gb107 ≠ gq1)); replace BK104 := zK (blk_below (g := gq1) (o := .cells #[.slice (some ad106) l1.length c1] 22 (0, 0)) (zb BK104) hb); have NB105_107 := zK ((by rw [hg]; exact Nat.ne_of_lt (blk_lt (g := gq2) (o := .cells #[.int .i64 a2] 3 (0, 0)) (zb BK105)) : gq2 ≠ gb107)); have NB107_105 := zK ((by rw [hg]; exact Nat.ne_of_gt (blk_lt (g := gq2) (o := .cells #[.int .i64 a2] 3 (0, 0)) (zb BK105)) : gb107 ≠ gq2)); replace BK105 := zK (blk_below (g := gq2) (o := .cells #[.int .i64 a2] 3 (0, 0)) (zb BK105) hb); clear hb hbox hg; have hnb25 := NB107_104.out; have hnc25 := NB104_107.out; have hnb26 := NB107_105.out; have hnc26 := NB105_107.out; have hcz27_0 : w24.cell? ⟨gb107, 0, none⟩ = some (.int .i64 0) := (blk_cell BK107.out 0).trans rfl; have hcz27_1 : w24.cell? ⟨gb107, 1, none⟩ = some (.slice none 0 0) := (blk_cell BK107.out 1).trans rfl; have hcz27_2 : w24.cell? ⟨gb107, 2, none⟩ = some (.bool false) := (blk_cell BK107.out 2).trans rfl; have hfz27_0 := blk_frozen BK107.out 0; have hfz27_1 := blk_frozen BK107.out 1; have hfz27_2 := blk_frozen BK107.out 2; have hnb28 := NB105_104.out; have hnc28 := NB104_105.out; have hcz29_0 : w24.cell? ⟨gq2, 0, none⟩ = some (.int .i64 a2) := (blk_cell BK105.out 0).trans rfl; have hfz29_0 := blk_frozen BK105.out 0) | ((with_reducible refine zC (f := 46) rfl ?_); refine goesL_ (some 19) rfl rfl Try.func46 (by kernel_rfl) rfl #[.agg #[.int .i64 ((rd_T70 l1 x11_1).f0.f0), .slice A106_1 ((rd_T70 l1 x11_1).f0.f1).length c106_1], .int .i64 a2] rfl (by (try simp only [List.map_toArray, List.map_cons, List.map_nil]); first | done | rfl | (simp only [List.length_drop, List.length_take]; rfl)) ?_; (with_reducible refine (lin_By.calls k1 ((rd_T70 l1 x11_1).f0.f0) _ _ ((rd_T70 l1 x11_1).f0.f1) a2 t108 _ ?side1 ?side2 A9.out).mono ?_); (case side1 => exact Kd.C_below HR106_1.out (zo HB)); (case side2 => exact HC106_1.out); rintro e w30 ⟨rfl, hb⟩; refine ⟨_, rfl, ?_⟩; replace HO_5 := zK (Kd.R_below (by (with_reducible repeat (first | apply Kd.R_alloc | apply Kd.R_drewN | apply Kd.R_drew)); exact (Kd.R_mono (Kd.R_far (p := ⟨gb107, 2, none⟩) (Kd.R_far (p := ⟨gb107, 1, none⟩) (Kd.R_far (p := ⟨gb107, 0, none⟩) (Kd.R_types HO_5.out BK107.out (by decide)) (fun _ hk => hk.2) (.int .i64 ((rd_T70 l1 x11_1).f0.f0))) (fun _ hk => hk.2) (.slice A106_1 ((rd_T70 l1 x11_1).f0.f1).length c106_1)) (fun _ hk => hk.2) (.bool ((rd_T70 l1 x11_1).f1))) (fun _ h_ => h_.1))) hb); replace BK104 := zK (blk_below (g := gq1) (o := .cells #[.slice (some ad106) l1.length c1] 22 (0, 0)) (zb BK104) hb); replace BK105 := zK (blk_below (g := gq2) (o := .cells #[.int .i64 a2] 3 (0, 0)) (zb BK105) hb); replace BK107 := zK (blk_below (g := gb107) (o := .cells #[.int .i64 ((rd_T70 l1 x11_1).f0.f0), .slice A106_1 ((rd_T70 l1 x11_1).f0.f1).length c106_1, .bool ((rd_T70 l1 x11_1).f1)] 70 (0, 0)) (by refine zM ?_; refine blk_put (cs := #[.int .i64 ((rd_T70 l1 x11_1).f0.f0), .slice A106_1 ((rd_T70 l1 x11_1).f0.f1).length c106_1, .bool false]) ?_ 2 _ rfl; refine zM ?_; refine blk_put (cs := #[.int .i64 ((rd_T70 l1 x11_1).f0.f0), .slice none 0 0, .bool false]) ?_ 1 _ rfl; refine zM ?_; refine blk_put (cs := #[.int .i64 0, .slice none 0 0, .bool false]) ?_ 0 _ rfl; refine zM ?_; exact BK107.out) hb); replace HB := zK (below_step (zo HB) hb); (try clear hb); (try clear hb2); (try clear hk); (try clear hi)) | ((with_reducible refine gate_builtin (b := .append) (xs := #[.tmp 42, .tmp 44]) rfl ?_); at_builtin; refine Kd.R_append (Kd.int .i64) (w0 := w) w.heap.size rfl (.tmp 42) (.tmp 44) 83 3 (.int .i64 0) 8 rfl Try.underlying83 info3 rfl (by decide) (by omega) u5 x5_1 x11_1 [.int .i64 x11_1] (fun k_ => k_ ≠ gq2) (fun _ => False) rfl rfl ?aP (fun _ hk => hk.elim) ?aF ?aO ?aB ?aS ?aL ?_; (case aP => exact rfl); (case aB => exact (zo HB)); (case aF => exact (fun k_ hk => Kd.freshB (g := gq2) (o := .cells #[.int .i64 a2] 3 (0, 0)) (zb BK105) k_ hk)); (case aO => exact (zr HO_5)); (case aS => exact (below_size (zo HB))); (case aL => have := LMc23.out; omega); intro v113 w31 ho hb hg hat; rw [← Ny112.out] at ho; replace BK104 := zK (blk_grown (g := gq1) (o := .cells #[.slice (some ad106) l1.length c1] 22 (0, 0)) (zb BK104) hg (Kd.R_ne HO_5.out BK104.out (by decide))); replace BK105 := zK (blk_grown (g := gq2) (o := .cells #[.int .i64 a2] 3 (0, 0)) (zb BK105) hg (Kd.R_away HO_5.out (fun _ hk => hk))); replace BK107 := zK (blk_grown (g := gb107) (o := .cells #[.int .i64 ((rd_T70 l1 x11_1).f0.f0), .slice A106_1 ((rd_T70 l1 x11_1).f0.f1).length c106_1, .bool ((rd_T70 l1 x11_1).f1)] 70 (0, 0)) (zb BK107) hg (Kd.R_ne HO_5.out BK107.out (by decide))); replace HB := zK (hb); have HO114 := zK (ho); clear HO_5 ho hb hg hat))
           go_roundg k1
           case measure => have := HK1.out; omega
           case rel => exact ⟨(y112), (wrap64 (x11_1 + 1)), (by first | rfl | (simp; done) | (simp [*]; done)), H', ⟨by have := HK1.out; omega⟩, ⟨zr HO114⟩, ⟨zb BK104⟩, ⟨zb BK105⟩, ⟨zo HB⟩⟩
          ·rw [if_neg c23] at H
           exact absurd H (by simp)
         ·rw [if_neg c22] at H
          have c22b0 : decide (0 < a0) = false := decide_eq_false c22; clear c22
          by_cases c32 : t108 = 0
          ·rw [if_pos c32] at H
           have c32b0 : (t108 == 0) = true := beq_iff_eq.mpr c32
           have c32b1 : (t108 != 0) = false := bne_eq_false_iff_eq.mpr c32; clear c32
           by_cases c33 : a0 = 0
           ·rw [if_pos c33] at H
            have c33b0 : (a0 == 0) = true := beq_iff_eq.mpr c33
            have c33b1 : (a0 != 0) = false := bne_eq_false_iff_eq.mpr c33; clear c33
            by_cases c34 : x5_1.length < 17592186044416
            ·rw [if_pos c34] at H
             have LMc34 := zK c34; clear c34
             obtain ⟨y115, hy115⟩ : ∃ y_ : List Int, y_ = (x5_1 ++ [x11_1]) := ⟨_, rfl⟩
             replace H : (shadow_bounds_1.l0 k1 a0 y115 l1 (l1.length : Int) (wrap64 (x11_1 + 1)) a2) = some r := by first | (rw [hy115]; with_reducible exact H) | (have H2_ := (Option.bind_some _ _).symm.trans H; rw [hy115]; with_reducible exact H2_) | (have H2_ := (Option.bind_some _ _).symm.trans H; with_reducible exact H2_) | with_reducible exact H | (rw [hy115]; exact H) | exact H
             have Ny115 := zK hy115; clear hy115
             have H' := zK H; clear H
             have p106 : 0 ≤ (x11_1 : Int) := of_decide_eq_true (by first | (with_reducible assumption) | assumption)
             have q106 : x11_1 < (l1.length : Int) := of_decide_eq_true (by first | (with_reducible assumption) | assumption)
             obtain ⟨ad106, A106_1, c106_1, e106, hx106_0, hx106_1, hx106_2, hl106_1, hi106_1⟩ := at_T70 HR1.out x11_1 p106 q106
             cases e106
             replace hx106_0 := (HB.out.cell (World.block_lt_of_cell? w _ hx106_0)).trans hx106_0
             replace hx106_1 := (HB.out.cell (World.block_lt_of_cell? w _ hx106_1)).trans hx106_1
             replace hx106_2 := (HB.out.cell (World.block_lt_of_cell? w _ hx106_2)).trans hx106_2
             have HR106_1 := zK hi106_1
             have HC106_1 := zK hl106_1; clear hi106_1 hl106_1
             replace p106 := eq_true p106
             replace q106 := eq_true q106
             go_wp2_with (first | ((with_reducible refine gate_dst (N := 7) rfl ?_); refine box_event ?hg (N := 7) ?hd (cs := #[.int .i64 0, .slice none 0 0, .bool false]) (t := 70) ?hr ?_; (case hd => rfl); (case hg => rfl); (case hr => first | (go_simp; done) | (go_simp; rfl)); intro gb107 hg w35 hbox hb; replace HO_5 := zK (Kd.R_below (zr HO_5) hb); have BK107 := zK (hbox); have GW107 := zK ((by rw [hg]; exact (below_size (zo HB)) : w.heap.size ≤ gb107)); have GE107 := zK ((by rw [hg]; exact (below_size (zo HB)) : w.heap.size ≤ gb107)); replace HB := zK (below_step (zo HB) hb); have NB104_107 := zK ((by rw [hg]; exact Nat.ne_of_lt (blk_lt (g := gq1) (o := .cells #[.slice (some ad106) l1.length c1] 22 (0, 0)) (zb BK104)) : gq1 ≠ gb107)); have NB107_104 := zK ((by rw [hg]; exact Nat.ne_of_gt (blk_lt (g := gq1) (o := .cells #[.slice (some ad106) l1.length c1] 22 (0, 0)) (zb BK104)) : gb107 ≠ gq1)); replace BK104 := zK (blk_below (g := gq1) (o := .cells #[.slice (some ad106) l1.length c1] 22 (0, 0)) (zb BK104) hb); have NB105_107 := zK ((by rw [hg]; exact Nat.ne_of_lt (blk_lt (g := gq2) (o := .cells #[.int .i64 a2] 3 (0, 0)) (zb BK105)) : gq2 ≠ gb107)); have NB107_105 := zK ((by rw [hg]; exact Nat.ne_of_gt (blk_lt (g := gq2) (o := .cells #[.int .i64 a2] 3 (0, 0)) (zb BK105)) : gb107 ≠ gq2)); replace BK105 := zK (blk_below (g := gq2) (o := .cells #[.int .i64 a2] 3 (0, 0)) (zb BK105) hb); clear hb hbox hg; have hnb36 := NB107_104.out; have hnc36 := NB104_107.out; have hnb37 := NB107_105.out; have hnc37 := NB105_107.out; have hcz38_0 : w35.cell? ⟨gb107, 0, none⟩ = some (.int .i64 0) := (blk_cell BK107.out 0).trans rfl; have hcz38_1 : w35.cell? ⟨gb107, 1, none⟩ = some (.slice none 0 0) := (blk_cell BK107.out 1).trans rfl; have hcz38_2 : w35.cell? ⟨gb107, 2, none⟩ = some (.bool false) := (blk_cell BK107.out 2).trans rfl; have hfz38_0 := blk_frozen BK107.out 0; have hfz38_1 := blk_frozen BK107.out 1; have hfz38_2 := blk_frozen BK107.out 2; have hnb39 := NB105_104.out; have hnc39 := NB104_105.out; have hcz40_0 : w35.cell? ⟨gq2, 0, none⟩ = some (.int .i64 a2) := (blk_cell BK105.out 0).trans rfl; have hfz40_0 := blk_frozen BK105.out 0) | ((with_reducible refine zC (f := 46) rfl ?_); refine goesL_ (some 19) rfl rfl Try.func46 (by kernel_rfl) rfl #[.agg #[.int .i64 ((rd_T70 l1 x11_1).f0.f0), .slice A106_1 ((rd_T70 l1 x11_1).f0.f1).length c106_1], .int .i64 a2] rfl (by (try simp only [List.map_toArray, List.map_cons, List.map_nil]); first | done | rfl | (simp only [List.length_drop, List.length_take]; rfl)) ?_; (with_reducible refine (lin_By.calls k1 ((rd_T70 l1 x11_1).f0.f0) _ _ ((rd_T70 l1 x11_1).f0.f1) a2 t108 _ ?side1 ?side2 A9.out).mono ?_); (case side1 => exact Kd.C_below HR106_1.out (zo HB)); (case side2 => exact HC106_1.out); rintro e w41 ⟨rfl, hb⟩; refine ⟨_, rfl, ?_⟩; replace HO_5 := zK (Kd.R_below (by (with_reducible repeat (first | apply Kd.R_alloc | apply Kd.R_drewN | apply Kd.R_drew)); exact (Kd.R_mono (Kd.R_far (p := ⟨gb107, 2, none⟩) (Kd.R_far (p := ⟨gb107, 1, none⟩) (Kd.R_far (p := ⟨gb107, 0, none⟩) (Kd.R_types HO_5.out BK107.out (by decide)) (fun _ hk => hk.2) (.int .i64 ((rd_T70 l1 x11_1).f0.f0))) (fun _ hk => hk.2) (.slice A106_1 ((rd_T70 l1 x11_1).f0.f1).length c106_1)) (fun _ hk => hk.2) (.bool ((rd_T70 l1 x11_1).f1))) (fun _ h_ => h_.1))) hb); replace BK104 := zK (blk_below (g := gq1) (o := .cells #[.slice (some ad106) l1.length c1] 22 (0, 0)) (zb BK104) hb); replace BK105 := zK (blk_below (g := gq2) (o := .cells #[.int .i64 a2] 3 (0, 0)) (zb BK105) hb); replace BK107 := zK (blk_below (g := gb107) (o := .cells #[.int .i64 ((rd_T70 l1 x11_1).f0.f0), .slice A106_1 ((rd_T70 l1 x11_1).f0.f1).length c106_1, .bool ((rd_T70 l1 x11_1).f1)] 70 (0, 0)) (by refine zM ?_; refine blk_put (cs := #[.int .i64 ((rd_T70 l1 x11_1).f0.f0), .slice A106_1 ((rd_T70 l1 x11_1).f0.f1).length c106_1, .bool false]) ?_ 2 _ rfl; refine zM ?_; refine blk_put (cs := #[.int .i64 ((rd_T70 l1 x11_1).f0.f0), .slice none 0 0, .bool false]) ?_ 1 _ rfl; refine zM ?_; refine blk_put (cs := #[.int .i64 0, .slice none 0 0, .bool false]) ?_ 0 _ rfl; refine zM ?_; exact BK107.out) hb); replace HB := zK (below_step (zo HB) hb); (try clear hb); (try clear hb2); (try clear hk); (try clear hi)) | ((with_reducible refine gate_builtin (b := .append) (xs := #[.tmp 42, .tmp 44]) rfl ?_); at_builtin; refine Kd.R_append (Kd.int .i64) (w0 := w) w.heap.size rfl (.tmp 42) (.tmp 44) 83 3 (.int .i64 0) 8 rfl Try.underlying83 info3 rfl (by decide) (by omega) u5 x5_1 x11_1 [.int .i64 x11_1] (fun k_ => k_ ≠ gq2) (fun _ => False) rfl rfl ?aP (fun _ hk => hk.elim) ?aF ?aO ?aB ?aS ?aL ?_; (case aP => exact rfl); (case aB => exact (zo HB)); (case aF => exact (fun k_ hk => Kd.freshB (g := gq2) (o := .cells #[.int .i64 a2] 3 (0, 0)) (zb BK105) k_ hk)); (case aO => exact (zr HO_5)); (case aS => exact (below_size (zo HB))); (case aL => have := LMc34.out; omega); intro v116 w42 ho hb hg hat; rw [← Ny115.out] at ho; replace BK104 := zK (blk_grown (g := gq1) (o := .cells #[.slice (some ad106) l1.length c1] 22 (0, 0)) (zb BK104) hg (Kd.R_ne HO_5.out BK104.out (by decide))); replace BK105 := zK (blk_grown (g := gq2) (o := .cells #[.int .i64 a2] 3 (0, 0)) (zb BK105) hg (Kd.R_away HO_5.out (fun _ hk => hk))); replace BK107 := zK (blk_grown (g := gb107) (o := .cells #[.int .i64 ((rd_T70 l1 x11_1).f0.f0), .slice A106_1 ((rd_T70 l1 x11_1).f0.f1).length c106_1, .bool ((rd_T70 l1 x11_1).f1)] 70 (0, 0)) (zb BK107) hg (Kd.R_ne HO_5.out BK107.out (by decide))); replace HB := zK (hb); have HO117 := zK (ho); clear HO_5 ho hb hg hat))
             go_roundg k1
             case measure => have := HK1.out; omega
             case rel => exact ⟨(y115), (wrap64 (x11_1 + 1)), (by first | rfl | (simp; done) | (simp [*]; done)), H', ⟨by have := HK1.out; omega⟩, ⟨zr HO117⟩, ⟨zb BK104⟩, ⟨zb BK105⟩, ⟨zo HB⟩⟩
            ·rw [if_neg c34] at H
             exact absurd H (by simp)
           ·rw [if_neg c33] at H
            have c33b0 : (a0 == 0) = false := beq_eq_false_iff_ne.mpr c33
            have c33b1 : (a0 != 0) = true := bne_iff_ne.mpr c33
            have H' := zK H; clear H
            have p106 : 0 ≤ (x11_1 : Int) := of_decide_eq_true (by first | (with_reducible assumption) | assumption)
            have q106 : x11_1 < (l1.length : Int) := of_decide_eq_true (by first | (with_reducible assumption) | assumption)
            obtain ⟨ad106, A106_1, c106_1, e106, hx106_0, hx106_1, hx106_2, hl106_1, hi106_1⟩ := at_T70 HR1.out x11_1 p106 q106
            cases e106
            replace hx106_0 := (HB.out.cell (World.block_lt_of_cell? w _ hx106_0)).trans hx106_0
            replace hx106_1 := (HB.out.cell (World.block_lt_of_cell? w _ hx106_1)).trans hx106_1
            replace hx106_2 := (HB.out.cell (World.block_lt_of_cell? w _ hx106_2)).trans hx106_2
            have HR106_1 := zK hi106_1
            have HC106_1 := zK hl106_1; clear hi106_1 hl106_1
            replace p106 := eq_true p106
            replace q106 := eq_true q106
            go_wp2_with (first | ((with_reducible refine gate_dst (N := 7) rfl ?_); refine box_event ?hg (N := 7) ?hd (cs := #[.int .i64 0, .slice none 0 0, .bool false]) (t := 70) ?hr ?_; (case hd => rfl); (case hg => rfl); (case hr => first | (go_simp; done) | (go_simp; rfl)); intro gb107 hg w43 hbox hb; replace HO_5 := zK (Kd.R_below (zr HO_5) hb); have BK107 := zK (hbox); have GW107 := zK ((by rw [hg]; exact (below_size (zo HB)) : w.heap.size ≤ gb107)); have GE107 := zK ((by rw [hg]; exact (below_size (zo HB)) : w.heap.size ≤ gb107)); replace HB := zK (below_step (zo HB) hb); have NB104_107 := zK ((by rw [hg]; exact Nat.ne_of_lt (blk_lt (g := gq1) (o := .cells #[.slice (some ad106) l1.length c1] 22 (0, 0)) (zb BK104)) : gq1 ≠ gb107)); have NB107_104 := zK ((by rw [hg]; exact Nat.ne_of_gt (blk_lt (g := gq1) (o := .cells #[.slice (some ad106) l1.length c1] 22 (0, 0)) (zb BK104)) : gb107 ≠ gq1)); replace BK104 := zK (blk_below (g := gq1) (o := .cells #[.slice (some ad106) l1.length c1] 22 (0, 0)) (zb BK104) hb); have NB105_107 := zK ((by rw [hg]; exact Nat.ne_of_lt (blk_lt (g := gq2) (o := .cells #[.int .i64 a2] 3 (0, 0)) (zb BK105)) : gq2 ≠ gb107)); have NB107_105 := zK ((by rw [hg]; exact Nat.ne_of_gt (blk_lt (g := gq2) (o := .cells #[.int .i64 a2] 3 (0, 0)) (zb BK105)) : gb107 ≠ gq2)); replace BK105 := zK (blk_below (g := gq2) (o := .cells #[.int .i64 a2] 3 (0, 0)) (zb BK105) hb); clear hb hbox hg; have hnb44 := NB107_104.out; have hnc44 := NB104_107.out; have hnb45 := NB107_105.out; have hnc45 := NB105_107.out; have hcz46_0 : w43.cell? ⟨gb107, 0, none⟩ = some (.int .i64 0) := (blk_cell BK107.out 0).trans rfl; have hcz46_1 : w43.cell? ⟨gb107, 1, none⟩ = some (.slice none 0 0) := (blk_cell BK107.out 1).trans rfl; have hcz46_2 : w43.cell? ⟨gb107, 2, none⟩ = some (.bool false) := (blk_cell BK107.out 2).trans rfl; have hfz46_0 := blk_frozen BK107.out 0; have hfz46_1 := blk_frozen BK107.out 1; have hfz46_2 := blk_frozen BK107.out 2; have hnb47 := NB105_104.out; have hnc47 := NB104_105.out; have hcz48_0 : w43.cell? ⟨gq2, 0, none⟩ = some (.int .i64 a2) := (blk_cell BK105.out 0).trans rfl; have hfz48_0 := blk_frozen BK105.out 0) | ((with_reducible refine zC (f := 46) rfl ?_); refine goesL_ (some 19) rfl rfl Try.func46 (by kernel_rfl) rfl #[.agg #[.int .i64 ((rd_T70 l1 x11_1).f0.f0), .slice A106_1 ((rd_T70 l1 x11_1).f0.f1).length c106_1], .int .i64 a2] rfl (by (try simp only [List.map_toArray, List.map_cons, List.map_nil]); first | done | rfl | (simp only [List.length_drop, List.length_take]; rfl)) ?_; (with_reducible refine (lin_By.calls k1 ((rd_T70 l1 x11_1).f0.f0) _ _ ((rd_T70 l1 x11_1).f0.f1) a2 t108 _ ?side1 ?side2 A9.out).mono ?_); (case side1 => exact Kd.C_below HR106_1.out (zo HB)); (case side2 => exact HC106_1.out); rintro e w49 ⟨rfl, hb⟩; refine ⟨_, rfl, ?_⟩; replace HO_5 := zK (Kd.R_below (by (with_reducible repeat (first | apply Kd.R_alloc | apply Kd.R_drewN | apply Kd.R_drew)); exact (Kd.R_mono (Kd.R_far (p := ⟨gb107, 2, none⟩) (Kd.R_far (p := ⟨gb107, 1, none⟩) (Kd.R_far (p := ⟨gb107, 0, none⟩) (Kd.R_types HO_5.out BK107.out (by decide)) (fun _ hk => hk.2) (.int .i64 ((rd_T70 l1 x11_1).f0.f0))) (fun _ hk => hk.2) (.slice A106_1 ((rd_T70 l1 x11_1).f0.f1).length c106_1)) (fun _ hk => hk.2) (.bool ((rd_T70 l1 x11_1).f1))) (fun _ h_ => h_.1))) hb); replace BK104 := zK (blk_below (g := gq1) (o := .cells #[.slice (some ad106) l1.length c1] 22 (0, 0)) (zb BK104) hb); replace BK105 := zK (blk_below (g := gq2) (o := .cells #[.int .i64 a2] 3 (0, 0)) (zb BK105) hb); replace BK107 := zK (blk_below (g := gb107) (o := .cells #[.int .i64 ((rd_T70 l1 x11_1).f0.f0), .slice A106_1 ((rd_T70 l1 x11_1).f0.f1).length c106_1, .bool ((rd_T70 l1 x11_1).f1)] 70 (0, 0)) (by refine zM ?_; refine blk_put (cs := #[.int .i64 ((rd_T70 l1 x11_1).f0.f0), .slice A106_1 ((rd_T70 l1 x11_1).f0.f1).length c106_1, .bool false]) ?_ 2 _ rfl; refine zM ?_; refine blk_put (cs := #[.int .i64 ((rd_T70 l1 x11_1).f0.f0), .slice none 0 0, .bool false]) ?_ 1 _ rfl; refine zM ?_; refine blk_put (cs := #[.int .i64 0, .slice none 0 0, .bool false]) ?_ 0 _ rfl; refine zM ?_; exact BK107.out) hb); replace HB := zK (below_step (zo HB) hb); (try clear hb); (try clear hb2); (try clear hk); (try clear hi)))
            go_roundg k1
            case measure => have := HK1.out; omega
            case rel => exact ⟨(x5_1), (wrap64 (x11_1 + 1)), (by first | rfl | (simp; done) | (simp [*]; done)), H', ⟨by have := HK1.out; omega⟩, ⟨zr HO_5⟩, ⟨zb BK104⟩, ⟨zb BK105⟩, ⟨zo HB⟩⟩
          ·rw [if_neg c32] at H
           have c32b0 : (t108 == 0) = false := beq_eq_false_iff_ne.mpr c32
           have c32b1 : (t108 != 0) = true := bne_iff_ne.mpr c32
           have H' := zK H; clear H
           have p106 : 0 ≤ (x11_1 : Int) := of_decide_eq_true (by first | (with_reducible assumption) | assumption)
           have q106 : x11_1 < (l1.length : Int) := of_decide_eq_true (by first | (with_reducible assumption) | assumption)
           obtain ⟨ad106, A106_1, c106_1, e106, hx106_0, hx106_1, hx106_2, hl106_1, hi106_1⟩ := at_T70 HR1.out x11_1 p106 q106
           cases e106
           replace hx106_0 := (HB.out.cell (World.block_lt_of_cell? w _ hx106_0)).trans hx106_0
           replace hx106_1 := (HB.out.cell (World.block_lt_of_cell? w _ hx106_1)).trans hx106_1
           replace hx106_2 := (HB.out.cell (World.block_lt_of_cell? w _ hx106_2)).trans hx106_2
           have HR106_1 := zK hi106_1
           have HC106_1 := zK hl106_1; clear hi106_1 hl106_1
           replace p106 := eq_true p106
           replace q106 := eq_true q106
           go_wp2_with (first | ((with_reducible refine gate_dst (N := 7) rfl ?_); refine box_event ?hg (N := 7) ?hd (cs := #[.int .i64 0, .slice none 0 0, .bool false]) (t := 70) ?hr ?_; (case hd => rfl); (case hg => rfl); (case hr => first | (go_simp; done) | (go_simp; rfl)); intro gb107 hg w50 hbox hb; replace HO_5 := zK (Kd.R_below (zr HO_5) hb); have BK107 := zK (hbox); have GW107 := zK ((by rw [hg]; exact (below_size (zo HB)) : w.heap.size ≤ gb107)); have GE107 := zK ((by rw [hg]; exact (below_size (zo HB)) : w.heap.size ≤ gb107)); replace HB := zK (below_step (zo HB) hb); have NB104_107 := zK ((by rw [hg]; exact Nat.ne_of_lt (blk_lt (g := gq1) (o := .cells #[.slice (some ad106) l1.length c1] 22 (0, 0)) (zb BK104)) : gq1 ≠ gb107)); have NB107_104 := zK ((by rw [hg]; exact Nat.ne_of_gt (blk_lt (g := gq1) (o := .cells #[.slice (some ad106) l1.length c1] 22 (0, 0)) (zb BK104)) : gb107 ≠ gq1)); replace BK104 := zK (blk_below (g := gq1) (o := .cells #[.slice (some ad106) l1.length c1] 22 (0, 0)) (zb BK104) hb); have NB105_107 := zK ((by rw [hg]; exact Nat.ne_of_lt (blk_lt (g := gq2) (o := .cells #[.int .i64 a2] 3 (0, 0)) (zb BK105)) : gq2 ≠ gb107)); have NB107_105 := zK ((by rw [hg]; exact Nat.ne_of_gt (blk_lt (g := gq2) (o := .cells #[.int .i64 a2] 3 (0, 0)) (zb BK105)) : gb107 ≠ gq2)); replace BK105 := zK (blk_below (g := gq2) (o := .cells #[.int .i64 a2] 3 (0, 0)) (zb BK105) hb); clear hb hbox hg; have hnb51 := NB107_104.out; have hnc51 := NB104_107.out; have hnb52 := NB107_105.out; have hnc52 := NB105_107.out; have hcz53_0 : w50.cell? ⟨gb107, 0, none⟩ = some (.int .i64 0) := (blk_cell BK107.out 0).trans rfl; have hcz53_1 : w50.cell? ⟨gb107, 1, none⟩ = some (.slice none 0 0) := (blk_cell BK107.out 1).trans rfl; have hcz53_2 : w50.cell? ⟨gb107, 2, none⟩ = some (.bool false) := (blk_cell BK107.out 2).trans rfl; have hfz53_0 := blk_frozen BK107.out 0; have hfz53_1 := blk_frozen BK107.out 1; have hfz53_2 := blk_frozen BK107.out 2; have hnb54 := NB105_104.out; have hnc54 := NB104_105.out; have hcz55_0 : w50.cell? ⟨gq2, 0, none⟩ = some (.int .i64 a2) := (blk_cell BK105.out 0).trans rfl; have hfz55_0 := blk_frozen BK105.out 0) | ((with_reducible refine zC (f := 46) rfl ?_); refine goesL_ (some 19) rfl rfl Try.func46 (by kernel_rfl) rfl #[.agg #[.int .i64 ((rd_T70 l1 x11_1).f0.f0), .slice A106_1 ((rd_T70 l1 x11_1).f0.f1).length c106_1], .int .i64 a2] rfl (by (try simp only [List.map_toArray, List.map_cons, List.map_nil]); first | done | rfl | (simp only [List.length_drop, List.length_take]; rfl)) ?_; (with_reducible refine (lin_By.calls k1 ((rd_T70 l1 x11_1).f0.f0) _ _ ((rd_T70 l1 x11_1).f0.f1) a2 t108 _ ?side1 ?side2 A9.out).mono ?_); (case side1 => exact Kd.C_below HR106_1.out (zo HB)); (case side2 => exact HC106_1.out); rintro e w56 ⟨rfl, hb⟩; refine ⟨_, rfl, ?_⟩; replace HO_5 := zK (Kd.R_below (by (with_reducible repeat (first | apply Kd.R_alloc | apply Kd.R_drewN | apply Kd.R_drew)); exact (Kd.R_mono (Kd.R_far (p := ⟨gb107, 2, none⟩) (Kd.R_far (p := ⟨gb107, 1, none⟩) (Kd.R_far (p := ⟨gb107, 0, none⟩) (Kd.R_types HO_5.out BK107.out (by decide)) (fun _ hk => hk.2) (.int .i64 ((rd_T70 l1 x11_1).f0.f0))) (fun _ hk => hk.2) (.slice A106_1 ((rd_T70 l1 x11_1).f0.f1).length c106_1)) (fun _ hk => hk.2) (.bool ((rd_T70 l1 x11_1).f1))) (fun _ h_ => h_.1))) hb); replace BK104 := zK (blk_below (g := gq1) (o := .cells #[.slice (some ad106) l1.length c1] 22 (0, 0)) (zb BK104) hb); replace BK105 := zK (blk_below (g := gq2) (o := .cells #[.int .i64 a2] 3 (0, 0)) (zb BK105) hb); replace BK107 := zK (blk_below (g := gb107) (o := .cells #[.int .i64 ((rd_T70 l1 x11_1).f0.f0), .slice A106_1 ((rd_T70 l1 x11_1).f0.f1).length c106_1, .bool ((rd_T70 l1 x11_1).f1)] 70 (0, 0)) (by refine zM ?_; refine blk_put (cs := #[.int .i64 ((rd_T70 l1 x11_1).f0.f0), .slice A106_1 ((rd_T70 l1 x11_1).f0.f1).length c106_1, .bool false]) ?_ 2 _ rfl; refine zM ?_; refine blk_put (cs := #[.int .i64 ((rd_T70 l1 x11_1).f0.f0), .slice none 0 0, .bool false]) ?_ 1 _ rfl; refine zM ?_; refine blk_put (cs := #[.int .i64 0, .slice none 0 0, .bool false]) ?_ 0 _ rfl; refine zM ?_; exact BK107.out) hb); replace HB := zK (below_step (zo HB) hb); (try clear hb); (try clear hb2); (try clear hk); (try clear hi)))
           go_roundg k1
           case measure => have := HK1.out; omega
           case rel => exact ⟨(x5_1), (wrap64 (x11_1 + 1)), (by first | rfl | (simp; done) | (simp [*]; done)), H', ⟨by have := HK1.out; omega⟩, ⟨zr HO_5⟩, ⟨zb BK104⟩, ⟨zb BK105⟩, ⟨zo HB⟩⟩
        ·rw [if_neg c21] at H
         have c21b0 : decide (0 < t108) = false := decide_eq_false c21; clear c21
         by_cases c57 : t108 = 0
         ·rw [if_pos c57] at H
          have c57b0 : (t108 == 0) = true := beq_iff_eq.mpr c57
          have c57b1 : (t108 != 0) = false := bne_eq_false_iff_eq.mpr c57; clear c57
          by_cases c58 : a0 = 0
          ·rw [if_pos c58] at H
           have c58b0 : (a0 == 0) = true := beq_iff_eq.mpr c58
           have c58b1 : (a0 != 0) = false := bne_eq_false_iff_eq.mpr c58; clear c58
           by_cases c59 : x5_1.length < 17592186044416
           ·rw [if_pos c59] at H
            have LMc59 := zK c59; clear c59
            obtain ⟨y118, hy118⟩ : ∃ y_ : List Int, y_ = (x5_1 ++ [x11_1]) := ⟨_, rfl⟩
            replace H : (shadow_bounds_1.l0 k1 a0 y118 l1 (l1.length : Int) (wrap64 (x11_1 + 1)) a2) = some r := by first | (rw [hy118]; with_reducible exact H) | (have H2_ := (Option.bind_some _ _).symm.trans H; rw [hy118]; with_reducible exact H2_) | (have H2_ := (Option.bind_some _ _).symm.trans H; with_reducible exact H2_) | with_reducible exact H | (rw [hy118]; exact H) | exact H
            have Ny118 := zK hy118; clear hy118
            have H' := zK H; clear H
            have p106 : 0 ≤ (x11_1 : Int) := of_decide_eq_true (by first | (with_reducible assumption) | assumption)
            have q106 : x11_1 < (l1.length : Int) := of_decide_eq_true (by first | (with_reducible assumption) | assumption)
            obtain ⟨ad106, A106_1, c106_1, e106, hx106_0, hx106_1, hx106_2, hl106_1, hi106_1⟩ := at_T70 HR1.out x11_1 p106 q106
            cases e106
            replace hx106_0 := (HB.out.cell (World.block_lt_of_cell? w _ hx106_0)).trans hx106_0
            replace hx106_1 := (HB.out.cell (World.block_lt_of_cell? w _ hx106_1)).trans hx106_1
            replace hx106_2 := (HB.out.cell (World.block_lt_of_cell? w _ hx106_2)).trans hx106_2
            have HR106_1 := zK hi106_1
            have HC106_1 := zK hl106_1; clear hi106_1 hl106_1
            replace p106 := eq_true p106
            replace q106 := eq_true q106
            go_wp2_with (first | ((with_reducible refine gate_dst (N := 7) rfl ?_); refine box_event ?hg (N := 7) ?hd (cs := #[.int .i64 0, .slice none 0 0, .bool false]) (t := 70) ?hr ?_; (case hd => rfl); (case hg => rfl); (case hr => first | (go_simp; done) | (go_simp; rfl)); intro gb107 hg w60 hbox hb; replace HO_5 := zK (Kd.R_below (zr HO_5) hb); have BK107 := zK (hbox); have GW107 := zK ((by rw [hg]; exact (below_size (zo HB)) : w.heap.size ≤ gb107)); have GE107 := zK ((by rw [hg]; exact (below_size (zo HB)) : w.heap.size ≤ gb107)); replace HB := zK (below_step (zo HB) hb); have NB104_107 := zK ((by rw [hg]; exact Nat.ne_of_lt (blk_lt (g := gq1) (o := .cells #[.slice (some ad106) l1.length c1] 22 (0, 0)) (zb BK104)) : gq1 ≠ gb107)); have NB107_104 := zK ((by rw [hg]; exact Nat.ne_of_gt (blk_lt (g := gq1) (o := .cells #[.slice (some ad106) l1.length c1] 22 (0, 0)) (zb BK104)) : gb107 ≠ gq1)); replace BK104 := zK (blk_below (g := gq1) (o := .cells #[.slice (some ad106) l1.length c1] 22 (0, 0)) (zb BK104) hb); have NB105_107 := zK ((by rw [hg]; exact Nat.ne_of_lt (blk_lt (g := gq2) (o := .cells #[.int .i64 a2] 3 (0, 0)) (zb BK105)) : gq2 ≠ gb107)); have NB107_105 := zK ((by rw [hg]; exact Nat.ne_of_gt (blk_lt (g := gq2) (o := .cells #[.int .i64 a2] 3 (0, 0)) (zb BK105)) : gb107 ≠ gq2)); replace BK105 := zK (blk_below (g := gq2) (o := .cells #[.int .i64 a2] 3 (0, 0)) (zb BK105) hb); clear hb hbox hg; have hnb61 := NB107_104.out; have hnc61 := NB104_107.out; have hnb62 := NB107_105.out; have hnc62 := NB105_107.out; have hcz63_0 : w60.cell? ⟨gb107, 0, none⟩ = some (.int .i64 0) := (blk_cell BK107.out 0).trans rfl; have hcz63_1 : w60.cell? ⟨gb107, 1, none⟩ = some (.slice none 0 0) := (blk_cell BK107.out 1).trans rfl; have hcz63_2 : w60.cell? ⟨gb107, 2, none⟩ = some (.bool false) := (blk_cell BK107.out 2).trans rfl; have hfz63_0 := blk_frozen BK107.out 0; have hfz63_1 := blk_frozen BK107.out 1; have hfz63_2 := blk_frozen BK107.out 2; have hnb64 := NB105_104.out; have hnc64 := NB104_105.out; have hcz65_0 : w60.cell? ⟨gq2, 0, none⟩ = some (.int .i64 a2) := (blk_cell BK105.out 0).trans rfl; have hfz65_0 := blk_frozen BK105.out 0) | ((with_reducible refine zC (f := 46) rfl ?_); refine goesL_ (some 19) rfl rfl Try.func46 (by kernel_rfl) rfl #[.agg #[.int .i64 ((rd_T70 l1 x11_1).f0.f0), .slice A106_1 ((rd_T70 l1 x11_1).f0.f1).length c106_1], .int .i64 a2] rfl (by (try simp only [List.map_toArray, List.map_cons, List.map_nil]); first | done | rfl | (simp only [List.length_drop, List.length_take]; rfl)) ?_; (with_reducible refine (lin_By.calls k1 ((rd_T70 l1 x11_1).f0.f0) _ _ ((rd_T70 l1 x11_1).f0.f1) a2 t108 _ ?side1 ?side2 A9.out).mono ?_); (case side1 => exact Kd.C_below HR106_1.out (zo HB)); (case side2 => exact HC106_1.out); rintro e w66 ⟨rfl, hb⟩; refine ⟨_, rfl, ?_⟩; replace HO_5 := zK (Kd.R_below (by (with_reducible repeat (first | apply Kd.R_alloc | apply Kd.R_drewN | apply Kd.R_drew)); exact (Kd.R_mono (Kd.R_far (p := ⟨gb107, 2, none⟩) (Kd.R_far (p := ⟨gb107, 1, none⟩) (Kd.R_far (p := ⟨gb107, 0, none⟩) (Kd.R_types HO_5.out BK107.out (by decide)) (fun _ hk => hk.2) (.int .i64 ((rd_T70 l1 x11_1).f0.f0))) (fun _ hk => hk.2) (.slice A106_1 ((rd_T70 l1 x11_1).f0.f1).length c106_1)) (fun _ hk => hk.2) (.bool ((rd_T70 l1 x11_1).f1))) (fun _ h_ => h_.1))) hb); replace BK104 := zK (blk_below (g := gq1) (o := .cells #[.slice (some ad106) l1.length c1] 22 (0, 0)) (zb BK104) hb); replace BK105 := zK (blk_below (g := gq2) (o := .cells #[.int .i64 a2] 3 (0, 0)) (zb BK105) hb); replace BK107 := zK (blk_below (g := gb107) (o := .cells #[.int .i64 ((rd_T70 l1 x11_1).f0.f0), .slice A106_1 ((rd_T70 l1 x11_1).f0.f1).length c106_1, .bool ((rd_T70 l1 x11_1).f1)] 70 (0, 0)) (by refine zM ?_; refine blk_put (cs := #[.int .i64 ((rd_T70 l1 x11_1).f0.f0), .slice A106_1 ((rd_T70 l1 x11_1).f0.f1).length c106_1, .bool false]) ?_ 2 _ rfl; refine zM ?_; refine blk_put (cs := #[.int .i64 ((rd_T70 l1 x11_1).f0.f0), .slice none 0 0, .bool false]) ?_ 1 _ rfl; refine zM ?_; refine blk_put (cs := #[.int .i64 0, .slice none 0 0, .bool false]) ?_ 0 _ rfl; refine zM ?_; exact BK107.out) hb); replace HB := zK (below_step (zo HB) hb); (try clear hb); (try clear hb2); (try clear hk); (try clear hi)) | ((with_reducible refine gate_builtin (b := .append) (xs := #[.tmp 42, .tmp 44]) rfl ?_); at_builtin; refine Kd.R_append (Kd.int .i64) (w0 := w) w.heap.size rfl (.tmp 42) (.tmp 44) 83 3 (.int .i64 0) 8 rfl Try.underlying83 info3 rfl (by decide) (by omega) u5 x5_1 x11_1 [.int .i64 x11_1] (fun k_ => k_ ≠ gq2) (fun _ => False) rfl rfl ?aP (fun _ hk => hk.elim) ?aF ?aO ?aB ?aS ?aL ?_; (case aP => exact rfl); (case aB => exact (zo HB)); (case aF => exact (fun k_ hk => Kd.freshB (g := gq2) (o := .cells #[.int .i64 a2] 3 (0, 0)) (zb BK105) k_ hk)); (case aO => exact (zr HO_5)); (case aS => exact (below_size (zo HB))); (case aL => have := LMc59.out; omega); intro v119 w67 ho hb hg hat; rw [← Ny118.out] at ho; replace BK104 := zK (blk_grown (g := gq1) (o := .cells #[.slice (some ad106) l1.length c1] 22 (0, 0)) (zb BK104) hg (Kd.R_ne HO_5.out BK104.out (by decide))); replace BK105 := zK (blk_grown (g := gq2) (o := .cells #[.int .i64 a2] 3 (0, 0)) (zb BK105) hg (Kd.R_away HO_5.out (fun _ hk => hk))); replace BK107 := zK (blk_grown (g := gb107) (o := .cells #[.int .i64 ((rd_T70 l1 x11_1).f0.f0), .slice A106_1 ((rd_T70 l1 x11_1).f0.f1).length c106_1, .bool ((rd_T70 l1 x11_1).f1)] 70 (0, 0)) (zb BK107) hg (Kd.R_ne HO_5.out BK107.out (by decide))); replace HB := zK (hb); have HO120 := zK (ho); clear HO_5 ho hb hg hat))
            go_roundg k1
            case measure => have := HK1.out; omega
            case rel => exact ⟨(y118), (wrap64 (x11_1 + 1)), (by first | rfl | (simp; done) | (simp [*]; done)), H', ⟨by have := HK1.out; omega⟩, ⟨zr HO120⟩, ⟨zb BK104⟩, ⟨zb BK105⟩, ⟨zo HB⟩⟩
           ·rw [if_neg c59] at H
            exact absurd H (by simp)
          ·rw [if_neg c58] at H
           have c58b0 : (a0 == 0) = false := beq_eq_false_iff_ne.mpr c58
           have c58b1 : (a0 != 0) = true := bne_iff_ne.mpr c58
           have H' := zK H; clear H
           have p106 : 0 ≤ (x11_1 : Int) := of_decide_eq_true (by first | (with_reducible assumption) | assumption)
           have q106 : x11_1 < (l1.length : Int) := of_decide_eq_true (by first | (with_reducible assumption) | assumption)
           obtain ⟨ad106, A106_1, c106_1, e106, hx106_0, hx106_1, hx106_2, hl106_1, hi106_1⟩ := at_T70 HR1.out x11_1 p106 q106
           cases e106
           replace hx106_0 := (HB.out.cell (World.block_lt_of_cell? w _ hx106_0)).trans hx106_0
           replace hx106_1 := (HB.out.cell (World.block_lt_of_cell? w _ hx106_1)).trans hx106_1
           replace hx106_2 := (HB.out.cell (World.block_lt_of_cell? w _ hx106_2)).trans hx106_2
           have HR106_1 := zK hi106_1
           have HC106_1 := zK hl106_1; clear hi106_1 hl106_1
           replace p106 := eq_true p106
           replace q106 := eq_true q106
           go_wp2_with (first | ((with_reducible refine gate_dst (N := 7) rfl ?_); refine box_event ?hg (N := 7) ?hd (cs := #[.int .i64 0, .slice none 0 0, .bool false]) (t := 70) ?hr ?_; (case hd => rfl); (case hg => rfl); (case hr => first | (go_simp; done) | (go_simp; rfl)); intro gb107 hg w68 hbox hb; replace HO_5 := zK (Kd.R_below (zr HO_5) hb); have BK107 := zK (hbox); have GW107 := zK ((by rw [hg]; exact (below_size (zo HB)) : w.heap.size ≤ gb107)); have GE107 := zK ((by rw [hg]; exact (below_size (zo HB)) : w.heap.size ≤ gb107)); replace HB := zK (below_step (zo HB) hb); have NB104_107 := zK ((by rw [hg]; exact Nat.ne_of_lt (blk_lt (g := gq1) (o := .cells #[.slice (some ad106) l1.length c1] 22 (0, 0)) (zb BK104)) : gq1 ≠ gb107)); have NB107_104 := zK ((by rw [hg]; exact Nat.ne_of_gt (blk_lt (g := gq1) (o := .cells #[.slice (some ad106) l1.length c1] 22 (0, 0)) (zb BK104)) : gb107 ≠ gq1)); replace BK104 := zK (blk_below (g := gq1) (o := .cells #[.slice (some ad106) l1.length c1] 22 (0, 0)) (zb BK104) hb); have NB105_107 := zK ((by rw [hg]; exact Nat.ne_of_lt (blk_lt (g := gq2) (o := .cells #[.int .i64 a2] 3 (0, 0)) (zb BK105)) : gq2 ≠ gb107)); have NB107_105 := zK ((by rw [hg]; exact Nat.ne_of_gt (blk_lt (g := gq2) (o := .cells #[.int .i64 a2] 3 (0, 0)) (zb BK105)) : gb107 ≠ gq2)); replace BK105 := zK (blk_below (g := gq2) (o := .cells #[.int .i64 a2] 3 (0, 0)) (zb BK105) hb); clear hb hbox hg; have hnb69 := NB107_104.out; have hnc69 := NB104_107.out; have hnb70 := NB107_105.out; have hnc70 := NB105_107.out; have hcz71_0 : w68.cell? ⟨gb107, 0, none⟩ = some (.int .i64 0) := (blk_cell BK107.out 0).trans rfl; have hcz71_1 : w68.cell? ⟨gb107, 1, none⟩ = some (.slice none 0 0) := (blk_cell BK107.out 1).trans rfl; have hcz71_2 : w68.cell? ⟨gb107, 2, none⟩ = some (.bool false) := (blk_cell BK107.out 2).trans rfl; have hfz71_0 := blk_frozen BK107.out 0; have hfz71_1 := blk_frozen BK107.out 1; have hfz71_2 := blk_frozen BK107.out 2; have hnb72 := NB105_104.out; have hnc72 := NB104_105.out; have hcz73_0 : w68.cell? ⟨gq2, 0, none⟩ = some (.int .i64 a2) := (blk_cell BK105.out 0).trans rfl; have hfz73_0 := blk_frozen BK105.out 0) | ((with_reducible refine zC (f := 46) rfl ?_); refine goesL_ (some 19) rfl rfl Try.func46 (by kernel_rfl) rfl #[.agg #[.int .i64 ((rd_T70 l1 x11_1).f0.f0), .slice A106_1 ((rd_T70 l1 x11_1).f0.f1).length c106_1], .int .i64 a2] rfl (by (try simp only [List.map_toArray, List.map_cons, List.map_nil]); first | done | rfl | (simp only [List.length_drop, List.length_take]; rfl)) ?_; (with_reducible refine (lin_By.calls k1 ((rd_T70 l1 x11_1).f0.f0) _ _ ((rd_T70 l1 x11_1).f0.f1) a2 t108 _ ?side1 ?side2 A9.out).mono ?_); (case side1 => exact Kd.C_below HR106_1.out (zo HB)); (case side2 => exact HC106_1.out); rintro e w74 ⟨rfl, hb⟩; refine ⟨_, rfl, ?_⟩; replace HO_5 := zK (Kd.R_below (by (with_reducible repeat (first | apply Kd.R_alloc | apply Kd.R_drewN | apply Kd.R_drew)); exact (Kd.R_mono (Kd.R_far (p := ⟨gb107, 2, none⟩) (Kd.R_far (p := ⟨gb107, 1, none⟩) (Kd.R_far (p := ⟨gb107, 0, none⟩) (Kd.R_types HO_5.out BK107.out (by decide)) (fun _ hk => hk.2) (.int .i64 ((rd_T70 l1 x11_1).f0.f0))) (fun _ hk => hk.2) (.slice A106_1 ((rd_T70 l1 x11_1).f0.f1).length c106_1)) (fun _ hk => hk.2) (.bool ((rd_T70 l1 x11_1).f1))) (fun _ h_ => h_.1))) hb); replace BK104 := zK (blk_below (g := gq1) (o := .cells #[.slice (some ad106) l1.length c1] 22 (0, 0)) (zb BK104) hb); replace BK105 := zK (blk_below (g := gq2) (o := .cells #[.int .i64 a2] 3 (0, 0)) (zb BK105) hb); replace BK107 := zK (blk_below (g := gb107) (o := .cells #[.int .i64 ((rd_T70 l1 x11_1).f0.f0), .slice A106_1 ((rd_T70 l1 x11_1).f0.f1).length c106_1, .bool ((rd_T70 l1 x11_1).f1)] 70 (0, 0)) (by refine zM ?_; refine blk_put (cs := #[.int .i64 ((rd_T70 l1 x11_1).f0.f0), .slice A106_1 ((rd_T70 l1 x11_1).f0.f1).length c106_1, .bool false]) ?_ 2 _ rfl; refine zM ?_; refine blk_put (cs := #[.int .i64 ((rd_T70 l1 x11_1).f0.f0), .slice none 0 0, .bool false]) ?_ 1 _ rfl; refine zM ?_; refine blk_put (cs := #[.int .i64 0, .slice none 0 0, .bool false]) ?_ 0 _ rfl; refine zM ?_; exact BK107.out) hb); replace HB := zK (below_step (zo HB) hb); (try clear hb); (try clear hb2); (try clear hk); (try clear hi)))
           go_roundg k1
           case measure => have := HK1.out; omega
           case rel => exact ⟨(x5_1), (wrap64 (x11_1 + 1)), (by first | rfl | (simp; done) | (simp [*]; done)), H', ⟨by have := HK1.out; omega⟩, ⟨zr HO_5⟩, ⟨zb BK104⟩, ⟨zb BK105⟩, ⟨zo HB⟩⟩
         ·rw [if_neg c57] at H
          have c57b0 : (t108 == 0) = false := beq_eq_false_iff_ne.mpr c57
          have c57b1 : (t108 != 0) = true := bne_iff_ne.mpr c57
          have H' := zK H; clear H
          have p106 : 0 ≤ (x11_1 : Int) := of_decide_eq_true (by first | (with_reducible assumption) | assumption)
          have q106 : x11_1 < (l1.length : Int) := of_decide_eq_true (by first | (with_reducible assumption) | assumption)
          obtain ⟨ad106, A106_1, c106_1, e106, hx106_0, hx106_1, hx106_2, hl106_1, hi106_1⟩ := at_T70 HR1.out x11_1 p106 q106
          cases e106
          replace hx106_0 := (HB.out.cell (World.block_lt_of_cell? w _ hx106_0)).trans hx106_0
          replace hx106_1 := (HB.out.cell (World.block_lt_of_cell? w _ hx106_1)).trans hx106_1
          replace hx106_2 := (HB.out.cell (World.block_lt_of_cell? w _ hx106_2)).trans hx106_2
          have HR106_1 := zK hi106_1
          have HC106_1 := zK hl106_1; clear hi106_1 hl106_1
          replace p106 := eq_true p106
          replace q106 := eq_true q106
          go_wp2_with (first | ((with_reducible refine gate_dst (N := 7) rfl ?_); refine box_event ?hg (N := 7) ?hd (cs := #[.int .i64 0, .slice none 0 0, .bool false]) (t := 70) ?hr ?_; (case hd => rfl); (case hg => rfl); (case hr => first | (go_simp; done) | (go_simp; rfl)); intro gb107 hg w75 hbox hb; replace HO_5 := zK (Kd.R_below (zr HO_5) hb); have BK107 := zK (hbox); have GW107 := zK ((by rw [hg]; exact (below_size (zo HB)) : w.heap.size ≤ gb107)); have GE107 := zK ((by rw [hg]; exact (below_size (zo HB)) : w.heap.size ≤ gb107)); replace HB := zK (below_step (zo HB) hb); have NB104_107 := zK ((by rw [hg]; exact Nat.ne_of_lt (blk_lt (g := gq1) (o := .cells #[.slice (some ad106) l1.length c1] 22 (0, 0)) (zb BK104)) : gq1 ≠ gb107)); have NB107_104 := zK ((by rw [hg]; exact Nat.ne_of_gt (blk_lt (g := gq1) (o := .cells #[.slice (some ad106) l1.length c1] 22 (0, 0)) (zb BK104)) : gb107 ≠ gq1)); replace BK104 := zK (blk_below (g := gq1) (o := .cells #[.slice (some ad106) l1.length c1] 22 (0, 0)) (zb BK104) hb); have NB105_107 := zK ((by rw [hg]; exact Nat.ne_of_lt (blk_lt (g := gq2) (o := .cells #[.int .i64 a2] 3 (0, 0)) (zb BK105)) : gq2 ≠ gb107)); have NB107_105 := zK ((by rw [hg]; exact Nat.ne_of_gt (blk_lt (g := gq2) (o := .cells #[.int .i64 a2] 3 (0, 0)) (zb BK105)) : gb107 ≠ gq2)); replace BK105 := zK (blk_below (g := gq2) (o := .cells #[.int .i64 a2] 3 (0, 0)) (zb BK105) hb); clear hb hbox hg; have hnb76 := NB107_104.out; have hnc76 := NB104_107.out; have hnb77 := NB107_105.out; have hnc77 := NB105_107.out; have hcz78_0 : w75.cell? ⟨gb107, 0, none⟩ = some (.int .i64 0) := (blk_cell BK107.out 0).trans rfl; have hcz78_1 : w75.cell? ⟨gb107, 1, none⟩ = some (.slice none 0 0) := (blk_cell BK107.out 1).trans rfl; have hcz78_2 : w75.cell? ⟨gb107, 2, none⟩ = some (.bool false) := (blk_cell BK107.out 2).trans rfl; have hfz78_0 := blk_frozen BK107.out 0; have hfz78_1 := blk_frozen BK107.out 1; have hfz78_2 := blk_frozen BK107.out 2; have hnb79 := NB105_104.out; have hnc79 := NB104_105.out; have hcz80_0 : w75.cell? ⟨gq2, 0, none⟩ = some (.int .i64 a2) := (blk_cell BK105.out 0).trans rfl; have hfz80_0 := blk_frozen BK105.out 0) | ((with_reducible refine zC (f := 46) rfl ?_); refine goesL_ (some 19) rfl rfl Try.func46 (by kernel_rfl) rfl #[.agg #[.int .i64 ((rd_T70 l1 x11_1).f0.f0), .slice A106_1 ((rd_T70 l1 x11_1).f0.f1).length c106_1], .int .i64 a2] rfl (by (try simp only [List.map_toArray, List.map_cons, List.map_nil]); first | done | rfl | (simp only [List.length_drop, List.length_take]; rfl)) ?_; (with_reducible refine (lin_By.calls k1 ((rd_T70 l1 x11_1).f0.f0) _ _ ((rd_T70 l1 x11_1).f0.f1) a2 t108 _ ?side1 ?side2 A9.out).mono ?_); (case side1 => exact Kd.C_below HR106_1.out (zo HB)); (case side2 => exact HC106_1.out); rintro e w81 ⟨rfl, hb⟩; refine ⟨_, rfl, ?_⟩; replace HO_5 := zK (Kd.R_below (by (with_reducible repeat (first | apply Kd.R_alloc | apply Kd.R_drewN | apply Kd.R_drew)); exact (Kd.R_mono (Kd.R_far (p := ⟨gb107, 2, none⟩) (Kd.R_far (p := ⟨gb107, 1, none⟩) (Kd.R_far (p := ⟨gb107, 0, none⟩) (Kd.R_types HO_5.out BK107.out (by decide)) (fun _ hk => hk.2) (.int .i64 ((rd_T70 l1 x11_1).f0.f0))) (fun _ hk => hk.2) (.slice A106_1 ((rd_T70 l1 x11_1).f0.f1).length c106_1)) (fun _ hk => hk.2) (.bool ((rd_T70 l1 x11_1).f1))) (fun _ h_ => h_.1))) hb); replace BK104 := zK (blk_below (g := gq1) (o := .cells #[.slice (some ad106) l1.length c1] 22 (0, 0)) (zb BK104) hb); replace BK105 := zK (blk_below (g := gq2) (o := .cells #[.int .i64 a2] 3 (0, 0)) (zb BK105) hb); replace BK107 := zK (blk_below (g := gb107) (o := .cells #[.int .i64 ((rd_T70 l1 x11_1).f0.f0), .slice A106_1 ((rd_T70 l1 x11_1).f0.f1).length c106_1, .bool ((rd_T70 l1 x11_1).f1)] 70 (0, 0)) (by refine zM ?_; refine blk_put (cs := #[.int .i64 ((rd_T70 l1 x11_1).f0.f0), .slice A106_1 ((rd_T70 l1 x11_1).f0.f1).length c106_1, .bool false]) ?_ 2 _ rfl; refine zM ?_; refine blk_put (cs := #[.int .i64 ((rd_T70 l1 x11_1).f0.f0), .slice none 0 0, .bool false]) ?_ 1 _ rfl; refine zM ?_; refine blk_put (cs := #[.int .i64 0, .slice none 0 0, .bool false]) ?_ 0 _ rfl; refine zM ?_; exact BK107.out) hb); replace HB := zK (below_step (zo HB) hb); (try clear hb); (try clear hb2); (try clear hk); (try clear hi)))
          go_roundg k1
          case measure => have := HK1.out; omega
          case rel => exact ⟨(x5_1), (wrap64 (x11_1 + 1)), (by first | rfl | (simp; done) | (simp [*]; done)), H', ⟨by have := HK1.out; omega⟩, ⟨zr HO_5⟩, ⟨zb BK104⟩, ⟨zb BK105⟩, ⟨zo HB⟩⟩
      ·rw [if_neg c10] at H
       have c10b0 : decide (t108 < 0) = false := decide_eq_false c10; clear c10
       by_cases c82 : t108 > 0
       ·rw [if_pos c82] at H
        have c82b0 : decide (0 < t108) = true := decide_eq_true c82; clear c82
        by_cases c83 : a0 > 0
        ·rw [if_pos c83] at H
         have c83b0 : decide (0 < a0) = true := decide_eq_true c83; clear c83
         by_cases c84 : x5_1.length < 17592186044416
         ·rw [if_pos c84] at H
          have LMc84 := zK c84; clear c84
          obtain ⟨y121, hy121⟩ : ∃ y_ : List Int, y_ = (x5_1 ++ [x11_1]) := ⟨_, rfl⟩
          replace H : (shadow_bounds_1.l0 k1 a0 y121 l1 (l1.length : Int) (wrap64 (x11_1 + 1)) a2) = some r := by first | (rw [hy121]; with_reducible exact H) | (have H2_ := (Option.bind_some _ _).symm.trans H; rw [hy121]; with_reducible exact H2_) | (have H2_ := (Option.bind_some _ _).symm.trans H; with_reducible exact H2_) | with_reducible exact H | (rw [hy121]; exact H) | exact H
          have Ny121 := zK hy121; clear hy121
          have H' := zK H; clear H
          have p106 : 0 ≤ (x11_1 : Int) := of_decide_eq_true (by first | (with_reducible assumption) | assumption)
          have q106 : x11_1 < (l1.length : Int) := of_decide_eq_true (by first | (with_reducible assumption) | assumption)
          obtain ⟨ad106, A106_1, c106_1, e106, hx106_0, hx106_1, hx106_2, hl106_1, hi106_1⟩ := at_T70 HR1.out x11_1 p106 q106
          cases e106
          replace hx106_0 := (HB.out.cell (World.block_lt_of_cell? w _ hx106_0)).trans hx106_0
          replace hx106_1 := (HB.out.cell (World.block_lt_of_cell? w _ hx106_1)).trans hx106_1
          replace hx106_2 := (HB.out.cell (World.block_lt_of_cell? w _ hx106_2)).trans hx106_2
          have HR106_1 := zK hi106_1
          have HC106_1 := zK hl106_1; clear hi106_1 hl106_1
          replace p106 := eq_true p106
          replace q106 := eq_true q106
          go_wp2_with (first | ((with_reducible refine gate_dst (N := 7) rfl ?_); refine box_event ?hg (N := 7) ?hd (cs := #[.int .i64 0, .slice none 0 0, .bool false]) (t := 70) ?hr ?_; (case hd => rfl); (case hg => rfl); (case hr => first | (go_simp; done) | (go_simp; rfl)); intro gb107 hg w85 hbox hb; replace HO_5 := zK (Kd.R_below (zr HO_5) hb); have BK107 := zK (hbox); have GW107 := zK ((by rw [hg]; exact (below_size (zo HB)) : w.heap.size ≤ gb107)); have GE107 := zK ((by rw [hg]; exact (below_size (zo HB)) : w.heap.size ≤ gb107)); replace HB := zK (below_step (zo HB) hb); have NB104_107 := zK ((by rw [hg]; exact Nat.ne_of_lt (blk_lt (g := gq1) (o := .cells #[.slice (some ad106) l1.length c1] 22 (0, 0)) (zb BK104)) : gq1 ≠ gb107)); have NB107_104 := zK ((by rw [hg]; exact Nat.ne_of_gt (blk_lt (g := gq1) (o := .cells #[.slice (some ad106) l1.length c1] 22 (0, 0)) (zb BK104)) : gb107 ≠ gq1)); replace BK104 := zK (blk_below (g := gq1) (o := .cells #[.slice (some ad106) l1.length c1] 22 (0, 0)) (zb BK104) hb); have NB105_107 := zK ((by rw [hg]; exact Nat.ne_of_lt (blk_lt (g := gq2) (o := .cells #[.int .i64 a2] 3 (0, 0)) (zb BK105)) : gq2 ≠ gb107)); have NB107_105 := zK ((by rw [hg]; exact Nat.ne_of_gt (blk_lt (g := gq2) (o := .cells #[.int .i64 a2] 3 (0, 0)) (zb BK105)) : gb107 ≠ gq2)); replace BK105 := zK (blk_below (g := gq2) (o := .cells #[.int .i64 a2] 3 (0, 0)) (zb BK105) hb); clear hb hbox hg; have hnb86 := NB107_104.out; have hnc86 := NB104_107.out; have hnb87 := NB107_105.out; have hnc87 := NB105_107.out; have hcz88_0 : w85.cell? ⟨gb107, 0, none⟩ = some (.int .i64 0) := (blk_cell BK107.out 0).trans rfl; have hcz88_1 : w85.cell? ⟨gb107, 1, none⟩ = some (.slice none 0 0) := (blk_cell BK107.out 1).trans rfl; have hcz88_2 : w85.cell? ⟨gb107, 2, none⟩ = some (.bool false) := (blk_cell BK107.out 2).trans rfl; have hfz88_0 := blk_frozen BK107.out 0; have hfz88_1 := blk_frozen BK107.out 1; have hfz88_2 := blk_frozen BK107.out 2; have hnb89 := NB105_104.out; have hnc89 := NB104_105.out; have hcz90_0 : w85.cell? ⟨gq2, 0, none⟩ = some (.int .i64 a2) := (blk_cell BK105.out 0).trans rfl; have hfz90_0 := blk_frozen BK105.out 0) | ((with_reducible refine zC (f := 46) rfl ?_); refine goesL_ (some 19) rfl rfl Try.func46 (by kernel_rfl) rfl #[.agg #[.int .i64 ((rd_T70 l1 x11_1).f0.f0), .slice A106_1 ((rd_T70 l1 x11_1).f0.f1).length c106_1], .int .i64 a2] rfl (by (try simp only [List.map_toArray, List.map_cons, List.map_nil]); first | done | rfl | (simp only [List.length_drop, List.length_take]; rfl)) ?_; (with_reducible refine (lin_By.calls k1 ((rd_T70 l1 x11_1).f0.f0) _ _ ((rd_T70 l1 x11_1).f0.f1) a2 t108 _ ?side1 ?side2 A9.out).mono ?_); (case side1 => exact Kd.C_below HR106_1.out (zo HB)); (case side2 => exact HC106_1.out); rintro e w91 ⟨rfl, hb⟩; refine ⟨_, rfl, ?_⟩; replace HO_5 := zK (Kd.R_below (by (with_reducible repeat (first | apply Kd.R_alloc | apply Kd.R_drewN | apply Kd.R_drew)); exact (Kd.R_mono (Kd.R_far (p := ⟨gb107, 2, none⟩) (Kd.R_far (p := ⟨gb107, 1, none⟩) (Kd.R_far (p := ⟨gb107, 0, none⟩) (Kd.R_types HO_5.out BK107.out (by decide)) (fun _ hk => hk.2) (.int .i64 ((rd_T70 l1 x11_1).f0.f0))) (fun _ hk => hk.2) (.slice A106_1 ((rd_T70 l1 x11_1).f0.f1).length c106_1)) (fun _ hk => hk.2) (.bool ((rd_T70 l1 x11_1).f1))) (fun _ h_ => h_.1))) hb); replace BK104 := zK (blk_below (g := gq1) (o := .cells #[.slice (some ad106) l1.length c1] 22 (0, 0)) (zb BK104) hb); replace BK105 := zK (blk_below (g := gq2) (o := .cells #[.int .i64 a2] 3 (0, 0)) (zb BK105) hb); replace BK107 := zK (blk_below (g := gb107) (o := .cells #[.int .i64 ((rd_T70 l1 x11_1).f0.f0), .slice A106_1 ((rd_T70 l1 x11_1).f0.f1).length c106_1, .bool ((rd_T70 l1 x11_1).f1)] 70 (0, 0)) (by refine zM ?_; refine blk_put (cs := #[.int .i64 ((rd_T70 l1 x11_1).f0.f0), .slice A106_1 ((rd_T70 l1 x11_1).f0.f1).length c106_1, .bool false]) ?_ 2 _ rfl; refine zM ?_; refine blk_put (cs := #[.int .i64 ((rd_T70 l1 x11_1).f0.f0), .slice none 0 0, .bool false]) ?_ 1 _ rfl; refine zM ?_; refine blk_put (cs := #[.int .i64 0, .slice none 0 0, .bool false]) ?_ 0 _ rfl; refine zM ?_; exact BK107.out) hb); replace HB := zK (below_step (zo HB) hb); (try clear hb); (try clear hb2); (try clear hk); (try clear hi)) | ((with_reducible refine gate_builtin (b := .append) (xs := #[.tmp 42, .tmp 44]) rfl ?_); at_builtin; refine Kd.R_append (Kd.int .i64) (w0 := w) w.heap.size rfl (.tmp 42) (.tmp 44) 83 3 (.int .i64 0) 8 rfl Try.underlying83 info3 rfl (by decide) (by omega) u5 x5_1 x11_1 [.int .i64 x11_1] (fun k_ => k_ ≠ gq2) (fun _ => False) rfl rfl ?aP (fun _ hk => hk.elim) ?aF ?aO ?aB ?aS ?aL ?_; (case aP => exact rfl); (case aB => exact (zo HB)); (case aF => exact (fun k_ hk => Kd.freshB (g := gq2) (o := .cells #[.int .i64 a2] 3 (0, 0)) (zb BK105) k_ hk)); (case aO => exact (zr HO_5)); (case aS => exact (below_size (zo HB))); (case aL => have := LMc84.out; omega); intro v122 w92 ho hb hg hat; rw [← Ny121.out] at ho; replace BK104 := zK (blk_grown (g := gq1) (o := .cells #[.slice (some ad106) l1.length c1] 22 (0, 0)) (zb BK104) hg (Kd.R_ne HO_5.out BK104.out (by decide))); replace BK105 := zK (blk_grown (g := gq2) (o := .cells #[.int .i64 a2] 3 (0, 0)) (zb BK105) hg (Kd.R_away HO_5.out (fun _ hk => hk))); replace BK107 := zK (blk_grown (g := gb107) (o := .cells #[.int .i64 ((rd_T70 l1 x11_1).f0.f0), .slice A106_1 ((rd_T70 l1 x11_1).f0.f1).length c106_1, .bool ((rd_T70 l1 x11_1).f1)] 70 (0, 0)) (zb BK107) hg (Kd.R_ne HO_5.out BK107.out (by decide))); replace HB := zK (hb); have HO123 := zK (ho); clear HO_5 ho hb hg hat))
          go_roundg k1
          case measure => have := HK1.out; omega
          case rel => exact ⟨(y121), (wrap64 (x11_1 + 1)), (by first | rfl | (simp; done) | (simp [*]; done)), H', ⟨by have := HK1.out; omega⟩, ⟨zr HO123⟩, ⟨zb BK104⟩, ⟨zb BK105⟩, ⟨zo HB⟩⟩
         ·rw [if_neg c84] at H
          exact absurd H (by simp)
        ·rw [if_neg c83] at H
         have c83b0 : decide (0 < a0) = false := decide_eq_false c83; clear c83
         by_cases c93 : t108 = 0
         ·rw [if_pos c93] at H
          have c93b0 : (t108 == 0) = true := beq_iff_eq.mpr c93
          have c93b1 : (t108 != 0) = false := bne_eq_false_iff_eq.mpr c93; clear c93
          by_cases c94 : a0 = 0
          ·rw [if_pos c94] at H
           have c94b0 : (a0 == 0) = true := beq_iff_eq.mpr c94
           have c94b1 : (a0 != 0) = false := bne_eq_false_iff_eq.mpr c94; clear c94
           by_cases c95 : x5_1.length < 17592186044416
           ·rw [if_pos c95] at H
            have LMc95 := zK c95; clear c95
            obtain ⟨y124, hy124⟩ : ∃ y_ : List Int, y_ = (x5_1 ++ [x11_1]) := ⟨_, rfl⟩
            replace H : (shadow_bounds_1.l0 k1 a0 y124 l1 (l1.length : Int) (wrap64 (x11_1 + 1)) a2) = some r := by first | (rw [hy124]; with_reducible exact H) | (have H2_ := (Option.bind_some _ _).symm.trans H; rw [hy124]; with_reducible exact H2_) | (have H2_ := (Option.bind_some _ _).symm.trans H; with_reducible exact H2_) | with_reducible exact H | (rw [hy124]; exact H) | exact H
            have Ny124 := zK hy124; clear hy124
            have H' := zK H; clear H
            have p106 : 0 ≤ (x11_1 : Int) := of_decide_eq_true (by first | (with_reducible assumption) | assumption)
            have q106 : x11_1 < (l1.length : Int) := of_decide_eq_true (by first | (with_reducible assumption) | assumption)
            obtain ⟨ad106, A106_1, c106_1, e106, hx106_0, hx106_1, hx106_2, hl106_1, hi106_1⟩ := at_T70 HR1.out x11_1 p106 q106
            cases e106
            replace hx106_0 := (HB.out.cell (World.block_lt_of_cell? w _ hx106_0)).trans hx106_0
            replace hx106_1 := (HB.out.cell (World.block_lt_of_cell? w _ hx106_1)).trans hx106_1
            replace hx106_2 := (HB.out.cell (World.block_lt_of_cell? w _ hx106_2)).trans hx106_2
            have HR106_1 := zK hi106_1
            have HC106_1 := zK hl106_1; clear hi106_1 hl106_1
            replace p106 := eq_true p106
            replace q106 := eq_true q106
            go_wp2_with (first | ((with_reducible refine gate_dst (N := 7) rfl ?_); refine box_event ?hg (N := 7) ?hd (cs := #[.int .i64 0, .slice none 0 0, .bool false]) (t := 70) ?hr ?_; (case hd => rfl); (case hg => rfl); (case hr => first | (go_simp; done) | (go_simp; rfl)); intro gb107 hg w96 hbox hb; replace HO_5 := zK (Kd.R_below (zr HO_5) hb); have BK107 := zK (hbox); have GW107 := zK ((by rw [hg]; exact (below_size (zo HB)) : w.heap.size ≤ gb107)); have GE107 := zK ((by rw [hg]; exact (below_size (zo HB)) : w.heap.size ≤ gb107)); replace HB := zK (below_step (zo HB) hb); have NB104_107 := zK ((by rw [hg]; exact Nat.ne_of_lt (blk_lt (g := gq1) (o := .cells #[.slice (some ad106) l1.length c1] 22 (0, 0)) (zb BK104)) : gq1 ≠ gb107)); have NB107_104 := zK ((by rw [hg]; exact Nat.ne_of_gt (blk_lt (g := gq1) (o := .cells #[.slice (some ad106) l1.length c1] 22 (0, 0)) (zb BK104)) : gb107 ≠ gq1)); replace BK104 := zK (blk_below (g := gq1) (o := .cells #[.slice (some ad106) l1.length c1] 22 (0, 0)) (zb BK104) hb); have NB105_107 := zK ((by rw [hg]; exact Nat.ne_of_lt (blk_lt (g := gq2) (o := .cells #[.int .i64 a2] 3 (0, 0)) (zb BK105)) : gq2 ≠ gb107)); have NB107_105 := zK ((by rw [hg]; exact Nat.ne_of_gt (blk_lt (g := gq2) (o := .cells #[.int .i64 a2] 3 (0, 0)) (zb BK105)) : gb107 ≠ gq2)); replace BK105 := zK (blk_below (g := gq2) (o := .cells #[.int .i64 a2] 3 (0, 0)) (zb BK105) hb); clear hb hbox hg; have hnb97 := NB107_104.out; have hnc97 := NB104_107.out; have hnb98 := NB107_105.out; have hnc98 := NB105_107.out; have hcz99_0 : w96.cell? ⟨gb107, 0, none⟩ = some (.int .i64 0) := (blk_cell BK107.out 0).trans rfl; have hcz99_1 : w96.cell? ⟨gb107, 1, none⟩ = some (.slice none 0 0) := (blk_cell BK107.out 1).trans rfl; have hcz99_2 : w96.cell? ⟨gb107, 2, none⟩ = some (.bool false) := (blk_cell BK107.out 2).trans rfl; have hfz99_0 := blk_frozen BK107.out 0; have hfz99_1 := blk_frozen BK107.out 1; have hfz99_2 := blk_frozen BK107.out 2; have hnb100 := NB105_104.out; have hnc100 := NB104_105.out; have hcz101_0 : w96.cell? ⟨gq2, 0, none⟩ = some (.int .i64 a2) := (blk_cell BK105.out 0).trans rfl; have hfz101_0 := blk_frozen BK105.out 0) | ((with_reducible refine zC (f := 46) rfl ?_); refine goesL_ (some 19) rfl rfl Try.func46 (by kernel_rfl) rfl #[.agg #[.int .i64 ((rd_T70 l1 x11_1).f0.f0), .slice A106_1 ((rd_T70 l1 x11_1).f0.f1).length c106_1], .int .i64 a2] rfl (by (try simp only [List.map_toArray, List.map_cons, List.map_nil]); first | done | rfl | (simp only [List.length_drop, List.length_take]; rfl)) ?_; (with_reducible refine (lin_By.calls k1 ((rd_T70 l1 x11_1).f0.f0) _ _ ((rd_T70 l1 x11_1).f0.f1) a2 t108 _ ?side1 ?side2 A9.out).mono ?_); (case side1 => exact Kd.C_below HR106_1.out (zo HB)); (case side2 => exact HC106_1.out); rintro e w102 ⟨rfl, hb⟩; refine ⟨_, rfl, ?_⟩; replace HO_5 := zK (Kd.R_below (by (with_reducible repeat (first | apply Kd.R_alloc | apply Kd.R_drewN | apply Kd.R_drew)); exact (Kd.R_mono (Kd.R_far (p := ⟨gb107, 2, none⟩) (Kd.R_far (p := ⟨gb107, 1, none⟩) (Kd.R_far (p := ⟨gb107, 0, none⟩) (Kd.R_types HO_5.out BK107.out (by decide)) (fun _ hk => hk.2) (.int .i64 ((rd_T70 l1 x11_1).f0.f0))) (fun _ hk => hk.2) (.slice A106_1 ((rd_T70 l1 x11_1).f0.f1).length c106_1)) (fun _ hk => hk.2) (.bool ((rd_T70 l1 x11_1).f1))) (fun _ h_ => h_.1))) hb); replace BK104 := zK (blk_below (g := gq1) (o := .cells #[.slice (some ad106) l1.length c1] 22 (0, 0)) (zb BK104) hb); replace BK105 := zK (blk_below (g := gq2) (o := .cells #[.int .i64 a2] 3 (0, 0)) (zb BK105) hb); replace BK107 := zK (blk_below (g := gb107) (o := .cells #[.int .i64 ((rd_T70 l1 x11_1).f0.f0), .slice A106_1 ((rd_T70 l1 x11_1).f0.f1).length c106_1, .bool ((rd_T70 l1 x11_1).f1)] 70 (0, 0)) (by refine zM ?_; refine blk_put (cs := #[.int .i64 ((rd_T70 l1 x11_1).f0.f0), .slice A106_1 ((rd_T70 l1 x11_1).f0.f1).length c106_1, .bool false]) ?_ 2 _ rfl; refine zM ?_; refine blk_put (cs := #[.int .i64 ((rd_T70 l1 x11_1).f0.f0), .slice none 0 0, .bool false]) ?_ 1 _ rfl; refine zM ?_; refine blk_put (cs := #[.int .i64 0, .slice none 0 0, .bool false]) ?_ 0 _ rfl; refine zM ?_; exact BK107.out) hb); replace HB := zK (below_step (zo HB) hb); (try clear hb); (try clear hb2); (try clear hk); (try clear hi)) | ((with_reducible refine gate_builtin (b := .append) (xs := #[.tmp 42, .tmp 44]) rfl ?_); at_builtin; refine Kd.R_append (Kd.int .i64) (w0 := w) w.heap.size rfl (.tmp 42) (.tmp 44) 83 3 (.int .i64 0) 8 rfl Try.underlying83 info3 rfl (by decide) (by omega) u5 x5_1 x11_1 [.int .i64 x11_1] (fun k_ => k_ ≠ gq2) (fun _ => False) rfl rfl ?aP (fun _ hk => hk.elim) ?aF ?aO ?aB ?aS ?aL ?_; (case aP => exact rfl); (case aB => exact (zo HB)); (case aF => exact (fun k_ hk => Kd.freshB (g := gq2) (o := .cells #[.int .i64 a2] 3 (0, 0)) (zb BK105) k_ hk)); (case aO => exact (zr HO_5)); (case aS => exact (below_size (zo HB))); (case aL => have := LMc95.out; omega); intro v125 w103 ho hb hg hat; rw [← Ny124.out] at ho; replace BK104 := zK (blk_grown (g := gq1) (o := .cells #[.slice (some ad106) l1.length c1] 22 (0, 0)) (zb BK104) hg (Kd.R_ne HO_5.out BK104.out (by decide))); replace BK105 := zK (blk_grown (g := gq2) (o := .cells #[.int .i64 a2] 3 (0, 0)) (zb BK105) hg (Kd.R_away HO_5.out (fun _ hk => hk))); replace BK107 := zK (blk_grown (g := gb107) (o := .cells #[.int .i64 ((rd_T70 l1 x11_1).f0.f0), .slice A106_1 ((rd_T70 l1 x11_1).f0.f1).length c106_1, .bool ((rd_T70 l1 x11_1).f1)] 70 (0, 0)) (zb BK107) hg (Kd.R_ne HO_5.out BK107.out (by decide))); replace HB := zK (hb); have HO126 := zK (ho); clear HO_5 ho hb hg hat))
            go_roundg k1
            case measure => have := HK1.out; omega
            case rel => exact ⟨(y124), (wrap64 (x11_1 + 1)), (by first | rfl | (simp; done) | (simp [*]; done)), H', ⟨by have := HK1.out; omega⟩, ⟨zr HO126⟩, ⟨zb BK104⟩, ⟨zb BK105⟩, ⟨zo HB⟩⟩
           ·rw [if_neg c95] at H
            exact absurd H (by simp)
          ·rw [if_neg c94] at H
           have c94b0 : (a0 == 0) = false := beq_eq_false_iff_ne.mpr c94
           have c94b1 : (a0 != 0) = true := bne_iff_ne.mpr c94
           have H' := zK H; clear H
           have p106 : 0 ≤ (x11_1 : Int) := of_decide_eq_true (by first | (with_reducible assumption) | assumption)
           have q106 : x11_1 < (l1.length : Int) := of_decide_eq_true (by first | (with_reducible assumption) | assumption)
           obtain ⟨ad106, A106_1, c106_1, e106, hx106_0, hx106_1, hx106_2, hl106_1, hi106_1⟩ := at_T70 HR1.out x11_1 p106 q106
           cases e106
           replace hx106_0 := (HB.out.cell (World.block_lt_of_cell? w _ hx106_0)).trans hx106_0
           replace hx106_1 := (HB.out.cell (World.block_lt_of_cell? w _ hx106_1)).trans hx106_1
           replace hx106_2 := (HB.out.cell (World.block_lt_of_cell? w _ hx106_2)).trans hx106_2
           have HR106_1 := zK hi106_1
           have HC106_1 := zK hl106_1; clear hi106_1 hl106_1
           replace p106 := eq_true p106
           replace q106 := eq_true q106
           go_wp2_with (first | ((with_reducible refine gate_dst (N := 7) rfl ?_); refine box_event ?hg (N := 7) ?hd (cs := #[.int .i64 0, .slice none 0 0, .bool false]) (t := 70) ?hr ?_; (case hd => rfl); (case hg => rfl); (case hr => first | (go_simp; done) | (go_simp; rfl)); intro gb107 hg w104 hbox hb; replace HO_5 := zK (Kd.R_below (zr HO_5) hb); have BK107 := zK (hbox); have GW107 := zK ((by rw [hg]; exact (below_size (zo HB)) : w.heap.size ≤ gb107)); have GE107 := zK ((by rw [hg]; exact (below_size (zo HB)) : w.heap.size ≤ gb107)); replace HB := zK (below_step (zo HB) hb); have NB104_107 := zK ((by rw [hg]; exact Nat.ne_of_lt (blk_lt (g := gq1) (o := .cells #[.slice (some ad106) l1.length c1] 22 (0, 0)) (zb BK104)) : gq1 ≠ gb107)); have NB107_104 := zK ((by rw [hg]; exact Nat.ne_of_gt (blk_lt (g := gq1) (o := .cells #[.slice (some ad106) l1.length c1] 22 (0, 0)) (zb BK104)) : gb107 ≠ gq1)); replace BK104 := zK (blk_below (g := gq1) (o := .cells #[.slice (some ad106) l1.length c1] 22 (0, 0)) (zb BK104) hb); have NB105_107 := zK ((by rw [hg]; exact Nat.ne_of_lt (blk_lt (g := gq2) (o := .cells #[.int .i64 a2] 3 (0, 0)) (zb BK105)) : gq2 ≠ gb107)); have NB107_105 := zK ((by rw [hg]; exact Nat.ne_of_gt (blk_lt (g := gq2) (o := .cells #[.int .i64 a2] 3 (0, 0)) (zb BK105)) : gb107 ≠ gq2)); replace BK105 := zK (blk_below (g := gq2) (o := .cells #[.int .i64 a2] 3 (0, 0)) (zb BK105) hb); clear hb hbox hg; have hnb105 := NB107_104.out; have hnc105 := NB104_107.out; have hnb106 := NB107_105.out; have hnc106 := NB105_107.out; have hcz107_0 : w104.cell? ⟨gb107, 0, none⟩ = some (.int .i64 0) := (blk_cell BK107.out 0).trans rfl; have hcz107_1 : w104.cell? ⟨gb107, 1, none⟩ = some (.slice none 0 0) := (blk_cell BK107.out 1).trans rfl; have hcz107_2 : w104.cell? ⟨gb107, 2, none⟩ = some (.bool false) := (blk_cell BK107.out 2).trans rfl; have hfz107_0 := blk_frozen BK107.out 0; have hfz107_1 := blk_frozen BK107.out 1; have hfz107_2 := blk_frozen BK107.out 2; have hnb108 := NB105_104.out; have hnc108 := NB104_105.out; have hcz109_0 : w104.cell? ⟨gq2, 0, none⟩ = some (.int .i64 a2) := (blk_cell BK105.out 0).trans rfl; have hfz109_0 := blk_frozen BK105.out 0) | ((with_reducible refine zC (f := 46) rfl ?_); refine goesL_ (some 19) rfl rfl Try.func46 (by kernel_rfl) rfl #[.agg #[.int .i64 ((rd_T70 l1 x11_1).f0.f0), .slice A106_1 ((rd_T70 l1 x11_1).f0.f1).length c106_1], .int .i64 a2] rfl (by (try simp only [List.map_toArray, List.map_cons, List.map_nil]); first | done | rfl | (simp only [List.length_drop, List.length_take]; rfl)) ?_; (with_reducible refine (lin_By.calls k1 ((rd_T70 l1 x11_1).f0.f0) _ _ ((rd_T70 l1 x11_1).f0.f1) a2 t108 _ ?side1 ?side2 A9.out).mono ?_); (case side1 => exact Kd.C_below HR106_1.out (zo HB)); (case side2 => exact HC106_1.out); rintro e w110 ⟨rfl, hb⟩; refine ⟨_, rfl, ?_⟩; replace HO_5 := zK (Kd.R_below (by (with_reducible repeat (first | apply Kd.R_alloc | apply Kd.R_drewN | apply Kd.R_drew)); exact (Kd.R_mono (Kd.R_far (p := ⟨gb107, 2, none⟩) (Kd.R_far (p := ⟨gb107, 1, none⟩) (Kd.R_far (p := ⟨gb107, 0, none⟩) (Kd.R_types HO_5.out BK107.out (by decide)) (fun _ hk => hk.2) (.int .i64 ((rd_T70 l1 x11_1).f0.f0))) (fun _ hk => hk.2) (.slice A106_1 ((rd_T70 l1 x11_1).f0.f1).length c106_1)) (fun _ hk => hk.2) (.bool ((rd_T70 l1 x11_1).f1))) (fun _ h_ => h_.1))) hb); replace BK104 := zK (blk_below (g := gq1) (o := .cells #[.slice (some ad106) l1.length c1] 22 (0, 0)) (zb BK104) hb); replace BK105 := zK (blk_below (g := gq2) (o := .cells #[.int .i64 a2] 3 (0, 0)) (zb BK105) hb); replace BK107 := zK (blk_below (g := gb107) (o := .cells #[.int .i64 ((rd_T70 l1 x11_1).f0.f0), .slice A106_1 ((rd_T70 l1 x11_1).f0.f1).length c106_1, .bool ((rd_T70 l1 x11_1).f1)] 70 (0, 0)) (by refine zM ?_; refine blk_put (cs := #[.int .i64 ((rd_T70 l1 x11_1).f0.f0), .slice A106_1 ((rd_T70 l1 x11_1).f0.f1).length c106_1, .bool false]) ?_ 2 _ rfl; refine zM ?_; refine blk_put (cs := #[.int .i64 ((rd_T70 l1 x11_1).f0.f0), .slice none 0 0, .bool false]) ?_ 1 _ rfl; refine zM ?_; refine blk_put (cs := #[.int .i64 0, .slice none 0 0, .bool false]) ?_ 0 _ rfl; refine zM ?_; exact BK107.out) hb); replace HB := zK (below_step (zo HB) hb); (try clear hb); (try clear hb2); (try clear hk); (try clear hi)))
           go_roundg k1
           case measure => have := HK1.out; omega
           case rel => exact ⟨(x5_1), (wrap64 (x11_1 + 1)), (by first | rfl | (simp; done) | (simp [*]; done)), H', ⟨by have := HK1.out; omega⟩, ⟨zr HO_5⟩, ⟨zb BK104⟩, ⟨zb BK105⟩, ⟨zo HB⟩⟩
         ·rw [if_neg c93] at H
          have c93b0 : (t108 == 0) = false := beq_eq_false_iff_ne.mpr c93
          have c93b1 : (t108 != 0) = true := bne_iff_ne.mpr c93
          have H' := zK H; clear H
          have p106 : 0 ≤ (x11_1 : Int) := of_decide_eq_true (by first | (with_reducible assumption) | assumption)
          have q106 : x11_1 < (l1.length : Int) := of_decide_eq_true (by first | (with_reducible assumption) | assumption)
          obtain ⟨ad106, A106_1, c106_1, e106, hx106_0, hx106_1, hx106_2, hl106_1, hi106_1⟩ := at_T70 HR1.out x11_1 p106 q106
          cases e106
          replace hx106_0 := (HB.out.cell (World.block_lt_of_cell? w _ hx106_0)).trans hx106_0
          replace hx106_1 := (HB.out.cell (World.block_lt_of_cell? w _ hx106_1)).trans hx106_1
          replace hx106_2 := (HB.out.cell (World.block_lt_of_cell? w _ hx106_2)).trans hx106_2
          have HR106_1 := zK hi106_1
          have HC106_1 := zK hl106_1; clear hi106_1 hl106_1
          replace p106 := eq_true p106
          replace q106 := eq_true q106
          go_wp2_with (first | ((with_reducible refine gate_dst (N := 7) rfl ?_); refine box_event ?hg (N := 7) ?hd (cs := #[.int .i64 0, .slice none 0 0, .bool false]) (t := 70) ?hr ?_; (case hd => rfl); (case hg => rfl); (case hr => first | (go_simp; done) | (go_simp; rfl)); intro gb107 hg w111 hbox hb; replace HO_5 := zK (Kd.R_below (zr HO_5) hb); have BK107 := zK (hbox); have GW107 := zK ((by rw [hg]; exact (below_size (zo HB)) : w.heap.size ≤ gb107)); have GE107 := zK ((by rw [hg]; exact (below_size (zo HB)) : w.heap.size ≤ gb107)); replace HB := zK (below_step (zo HB) hb); have NB104_107 := zK ((by rw [hg]; exact Nat.ne_of_lt (blk_lt (g := gq1) (o := .cells #[.slice (some ad106) l1.length c1] 22 (0, 0)) (zb BK104)) : gq1 ≠ gb107)); have NB107_104 := zK ((by rw [hg]; exact Nat.ne_of_gt (blk_lt (g := gq1) (o := .cells #[.slice (some ad106) l1.length c1] 22 (0, 0)) (zb BK104)) : gb107 ≠ gq1)); replace BK104 := zK (blk_below (g := gq1) (o := .cells #[.slice (some ad106) l1.length c1] 22 (0, 0)) (zb BK104) hb); have NB105_107 := zK ((by rw [hg]; exact Nat.ne_of_lt (blk_lt (g := gq2) (o := .cells #[.int .i64 a2] 3 (0, 0)) (zb BK105)) : gq2 ≠ gb107)); have NB107_105 := zK ((by rw [hg]; exact Nat.ne_of_gt (blk_lt (g := gq2) (o := .cells #[.int .i64 a2] 3 (0, 0)) (zb BK105)) : gb107 ≠ gq2)); replace BK105 := zK (blk_below (g := gq2) (o := .cells #[.int .i64 a2] 3 (0, 0)) (zb BK105) hb); clear hb hbox hg; have hnb112 := NB107_104.out; have hnc112 := NB104_107.out; have hnb113 := NB107_105.out; have hnc113 := NB105_107.out; have hcz114_0 : w111.cell? ⟨gb107, 0, none⟩ = some (.int .i64 0) := (blk_cell BK107.out 0).trans rfl; have hcz114_1 : w111.cell? ⟨gb107, 1, none⟩ = some (.slice none 0 0) := (blk_cell BK107.out 1).trans rfl; have hcz114_2 : w111.cell? ⟨gb107, 2, none⟩ = some (.bool false) := (blk_cell BK107.out 2).trans rfl; have hfz114_0 := blk_frozen BK107.out 0; have hfz114_1 := blk_frozen BK107.out 1; have hfz114_2 := blk_frozen BK107.out 2; have hnb115 := NB105_104.out; have hnc115 := NB104_105.out; have hcz116_0 : w111.cell? ⟨gq2, 0, none⟩ = some (.int .i64 a2) := (blk_cell BK105.out 0).trans rfl; have hfz116_0 := blk_frozen BK105.out 0) | ((with_reducible refine zC (f := 46) rfl ?_); refine goesL_ (some 19) rfl rfl Try.func46 (by kernel_rfl) rfl #[.agg #[.int .i64 ((rd_T70 l1 x11_1).f0.f0), .slice A106_1 ((rd_T70 l1 x11_1).f0.f1).length c106_1], .int .i64 a2] rfl (by (try simp only [List.map_toArray, List.map_cons, List.map_nil]); first | done | rfl | (simp only [List.length_drop, List.length_take]; rfl)) ?_; (with_reducible refine (lin_By.calls k1 ((rd_T70 l1 x11_1).f0.f0) _ _ ((rd_T70 l1 x11_1).f0.f1) a2 t108 _ ?side1 ?side2 A9.out).mono ?_); (case side1 => exact Kd.C_below HR106_1.out (zo HB)); (case side2 => exact HC106_1.out); rintro e w117 ⟨rfl, hb⟩; refine ⟨_, rfl, ?_⟩; replace HO_5 := zK (Kd.R_below (by (with_reducible repeat (first | apply Kd.R_alloc | apply Kd.R_drewN | apply Kd.R_drew)); exact (Kd.R_mono (Kd.R_far (p := ⟨gb107, 2, none⟩) (Kd.R_far (p := ⟨gb107, 1, none⟩) (Kd.R_far (p := ⟨gb107, 0, none⟩) (Kd.R_types HO_5.out BK107.out (by decide)) (fun _ hk => hk.2) (.int .i64 ((rd_T70 l1 x11_1).f0.f0))) (fun _ hk => hk.2) (.slice A106_1 ((rd_T70 l1 x11_1).f0.f1).length c106_1)) (fun _ hk => hk.2) (.bool ((rd_T70 l1 x11_1).f1))) (fun _ h_ => h_.1))) hb); replace BK104 := zK (blk_below (g := gq1) (o := .cells #[.slice (some ad106) l1.length c1] 22 (0, 0)) (zb BK104) hb); replace BK105 := zK (blk_below (g := gq2) (o := .cells #[.int .i64 a2] 3 (0, 0)) (zb BK105) hb); replace BK107 := zK (blk_below (g := gb107) (o := .cells #[.int .i64 ((rd_T70 l1 x11_1).f0.f0), .slice A106_1 ((rd_T70 l1 x11_1).f0.f1).length c106_1, .bool ((rd_T70 l1 x11_1).f1)] 70 (0, 0)) (by refine zM ?_; refine blk_put (cs := #[.int .i64 ((rd_T70 l1 x11_1).f0.f0), .slice A106_1 ((rd_T70 l1 x11_1).f0.f1).length c106_1, .bool false]) ?_ 2 _ rfl; refine zM ?_; refine blk_put (cs := #[.int .i64 ((rd_T70 l1 x11_1).f0.f0), .slice none 0 0, .bool false]) ?_ 1 _ rfl; refine zM ?_; refine blk_put (cs := #[.int .i64 0, .slice none 0 0, .bool false]) ?_ 0 _ rfl; refine zM ?_; exact BK107.out) hb); replace HB := zK (below_step (zo HB) hb); (try clear hb); (try clear hb2); (try clear hk); (try clear hi)))
          go_roundg k1
          case measure => have := HK1.out; omega
          case rel => exact ⟨(x5_1), (wrap64 (x11_1 + 1)), (by first | rfl | (simp; done) | (simp [*]; done)), H', ⟨by have := HK1.out; omega⟩, ⟨zr HO_5⟩, ⟨zb BK104⟩, ⟨zb BK105⟩, ⟨zo HB⟩⟩
       ·rw [if_neg c82] at H
        have c82b0 : decide (0 < t108) = false := decide_eq_false c82; clear c82
        by_cases c118 : t108 = 0
        ·rw [if_pos c118] at H
         have c118b0 : (t108 == 0) = true := beq_iff_eq.mpr c118
         have c118b1 : (t108 != 0) = false := bne_eq_false_iff_eq.mpr c118; clear c118
         by_cases c119 : a0 = 0
         ·rw [if_pos c119] at H
          have c119b0 : (a0 == 0) = true := beq_iff_eq.mpr c119
          have c119b1 : (a0 != 0) = false := bne_eq_false_iff_eq.mpr c119; clear c119
          by_cases c120 : x5_1.length < 17592186044416
          ·rw [if_pos c120] at H
           have LMc120 := zK c120; clear c120
           obtain ⟨y127, hy127⟩ : ∃ y_ : List Int, y_ = (x5_1 ++ [x11_1]) := ⟨_, rfl⟩
           replace H : (shadow_bounds_1.l0 k1 a0 y127 l1 (l1.length : Int) (wrap64 (x11_1 + 1)) a2) = some r := by first | (rw [hy127]; with_reducible exact H) | (have H2_ := (Option.bind_some _ _).symm.trans H; rw [hy127]; with_reducible exact H2_) | (have H2_ := (Option.bind_some _ _).symm.trans H; with_reducible exact H2_) | with_reducible exact H | (rw [hy127]; exact H) | exact H
           have Ny127 := zK hy127; clear hy127
           have H' := zK H; clear H
           have p106 : 0 ≤ (x11_1 : Int) := of_decide_eq_true (by first | (with_reducible assumption) | assumption)
           have q106 : x11_1 < (l1.length : Int) := of_decide_eq_true (by first | (with_reducible assumption) | assumption)
           obtain ⟨ad106, A106_1, c106_1, e106, hx106_0, hx106_1, hx106_2, hl106_1, hi106_1⟩ := at_T70 HR1.out x11_1 p106 q106
           cases e106
           replace hx106_0 := (HB.out.cell (World.block_lt_of_cell? w _ hx106_0)).trans hx106_0
           replace hx106_1 := (HB.out.cell (World.block_lt_of_cell? w _ hx106_1)).trans hx106_1
           replace hx106_2 := (HB.out.cell (World.block_lt_of_cell? w _ hx106_2)).trans hx106_2
           have HR106_1 := zK hi106_1
           have HC106_1 := zK hl106_1; clear hi106_1 hl106_1
           replace p106 := eq_true p106
           replace q106 := eq_true q106
           go_wp2_with (first | ((with_reducible refine gate_dst (N := 7) rfl ?_); refine box_event ?hg (N := 7) ?hd (cs := #[.int .i64 0, .slice none 0 0, .bool false]) (t := 70) ?hr ?_; (case hd => rfl); (case hg => rfl); (case hr => first | (go_simp; done) | (go_simp; rfl)); intro gb107 hg w121 hbox hb; replace HO_5 := zK (Kd.R_below (zr HO_5) hb); have BK107 := zK (hbox); have GW107 := zK ((by rw [hg]; exact (below_size (zo HB)) : w.heap.size ≤ gb107)); have GE107 := zK ((by rw [hg]; exact (below_size (zo HB)) : w.heap.size ≤ gb107)); replace HB := zK (below_step (zo HB) hb); have NB104_107 := zK ((by rw [hg]; exact Nat.ne_of_lt (blk_lt (g := gq1) (o := .cells #[.slice (some ad106) l1.length c1] 22 (0, 0)) (zb BK104)) : gq1 ≠ gb107)); have NB107_104 := zK ((by rw [hg]; exact Nat.ne_of_gt (blk_lt (g := gq1) (o := .cells #[.slice (some ad106) l1.length c1] 22 (0, 0)) (zb BK104)) : gb107 ≠ gq1)); replace BK104 := zK (blk_below (g := gq1) (o := .cells #[.slice (some ad106) l1.length c1] 22 (0, 0)) (zb BK104) hb); have NB105_107 := zK ((by rw [hg]; exact Nat.ne_of_lt (blk_lt (g := gq2) (o := .cells #[.int .i64 a2] 3 (0, 0)) (zb BK105)) : gq2 ≠ gb107)); have NB107_105 := zK ((by rw [hg]; exact Nat.ne_of_gt (blk_lt (g := gq2) (o := .cells #[.int .i64 a2] 3 (0, 0)) (zb BK105)) : gb107 ≠ gq2)); replace BK105 := zK (blk_below (g := gq2) (o := .cells #[.int .i64 a2] 3 (0, 0)) (zb BK105) hb); clear hb hbox hg; have hnb122 := NB107_104.out; have hnc122 := NB104_107.out; have hnb123 := NB107_105.out; have hnc123 := NB105_107.out; have hcz124_0 : w121.cell? ⟨gb107, 0, none⟩ = some (.int .i64 0) := (blk_cell BK107.out 0).trans rfl; have hcz124_1 : w121.cell? ⟨gb107, 1, none⟩ = some (.slice none 0 0) := (blk_cell BK107.out 1).trans rfl; have hcz124_2 : w121.cell? ⟨gb107, 2, none⟩ = some (.bool false) := (blk_cell BK107.out 2).trans rfl; have hfz124_0 := blk_frozen BK107.out 0; have hfz124_1 := blk_frozen BK107.out 1; have hfz124_2 := blk_frozen BK107.out 2; have hnb125 := NB105_104.out; have hnc125 := NB104_105.out; have hcz126_0 : w121.cell? ⟨gq2, 0, none⟩ = some (.int .i64 a2) := (blk_cell BK105.out 0).trans rfl; have hfz126_0 := blk_frozen BK105.out 0) | ((with_reducible refine zC (f := 46) rfl ?_); refine goesL_ (some 19) rfl rfl Try.func46 (by kernel_rfl) rfl #[.agg #[.int .i64 ((rd_T70 l1 x11_1).f0.f0), .slice A106_1 ((rd_T70 l1 x11_1).f0.f1).length c106_1], .int .i64 a2] rfl (by (try simp only [List.map_toArray, List.map_cons, List.map_nil]); first | done | rfl | (simp only [List.length_drop, List.length_take]; rfl)) ?_; (with_reducible refine (lin_By.calls k1 ((rd_T70 l1 x11_1).f0.f0) _ _ ((rd_T70 l1 x11_1).f0.f1) a2 t108 _ ?side1 ?side2 A9.out).mono ?_); (case side1 => exact Kd.C_below HR106_1.out (zo HB)); (case side2 => exact HC106_1.out); rintro e w127 ⟨rfl, hb⟩; refine ⟨_, rfl, ?_⟩; replace HO_5 := zK (Kd.R_below (by (with_reducible repeat (first | apply Kd.R_alloc | apply Kd.R_drewN | apply Kd.R_drew)); exact (Kd.R_mono (Kd.R_far (p := ⟨gb107, 2, none⟩) (Kd.R_far (p := ⟨gb107, 1, none⟩) (Kd.R_far (p := ⟨gb107, 0, none⟩) (Kd.R_types HO_5.out BK107.out (by decide)) (fun _ hk => hk.2) (.int .i64 ((rd_T70 l1 x11_1).f0.f0))) (fun _ hk => hk.2) (.slice A106_1 ((rd_T70 l1 x11_1).f0.f1).length c106_1)) (fun _ hk => hk.2) (.bool ((rd_T70 l1 x11_1).f1))) (fun _ h_ => h_.1))) hb); replace BK104 := zK (blk_below (g := gq1) (o := .cells #[.slice (some ad106) l1.length c1] 22 (0, 0)) (zb BK104) hb); replace BK105 := zK (blk_below (g := gq2) (o := .cells #[.int .i64 a2] 3 (0, 0)) (zb BK105) hb); replace BK107 := zK (blk_below (g := gb107) (o := .cells #[.int .i64 ((rd_T70 l1 x11_1).f0.f0), .slice A106_1 ((rd_T70 l1 x11_1).f0.f1).length c106_1, .bool ((rd_T70 l1 x11_1).f1)] 70 (0, 0)) (by refine zM ?_; refine blk_put (cs := #[.int .i64 ((rd_T70 l1 x11_1).f0.f0), .slice A106_1 ((rd_T70 l1 x11_1).f0.f1).length c106_1, .bool false]) ?_ 2 _ rfl; refine zM ?_; refine blk_put (cs := #[.int .i64 ((rd_T70 l1 x11_1).f0.f0), .slice none 0 0, .bool false]) ?_ 1 _ rfl; refine zM ?_; refine blk_put (cs := #[.int .i64 0, .slice none 0 0, .bool false]) ?_ 0 _ rfl; refine zM ?_; exact BK107.out) hb); replace HB := zK (below_step (zo HB) hb); (try clear hb); (try clear hb2); (try clear hk); (try clear hi)) | ((with_reducible refine gate_builtin (b := .append) (xs := #[.tmp 42, .tmp 44]) rfl ?_); at_builtin; refine Kd.R_append (Kd.int .i64) (w0 := w) w.heap.size rfl (.tmp 42) (.tmp 44) 83 3 (.int .i64 0) 8 rfl Try.underlying83 info3 rfl (by decide) (by omega) u5 x5_1 x11_1 [.int .i64 x11_1] (fun k_ => k_ ≠ gq2) (fun _ => False) rfl rfl ?aP (fun _ hk => hk.elim) ?aF ?aO ?aB ?aS ?aL ?_; (case aP => exact rfl); (case aB => exact (zo HB)); (case aF => exact (fun k_ hk => Kd.freshB (g := gq2) (o := .cells #[.int .i64 a2] 3 (0, 0)) (zb BK105) k_ hk)); (case aO => exact (zr HO_5)); (case aS => exact (below_size (zo HB))); (case aL => have := LMc120.out; omega); intro v128 w128 ho hb hg hat; rw [← Ny127.out] at ho; replace BK104 := zK (blk_grown (g := gq1) (o := .cells #[.slice (some ad106) l1.length c1] 22 (0, 0)) (zb BK104) hg (Kd.R_ne HO_5.out BK104.out (by decide))); replace BK105 := zK (blk_grown (g := gq2) (o := .cells #[.int .i64 a2] 3 (0, 0)) (zb BK105) hg (Kd.R_away HO_5.out (fun _ hk => hk))); replace BK107 := zK (blk_grown (g := gb107) (o := .cells #[.int .i64 ((rd_T70 l1 x11_1).f0.f0), .slice A106_1 ((rd_T70 l1 x11_1).f0.f1).length c106_1, .bool ((rd_T70 l1 x11_1).f1)] 70 (0, 0)) (zb BK107) hg (Kd.R_ne HO_5.out BK107.out (by decide))); replace HB := zK (hb); have HO129 := zK (ho); clear HO_5 ho hb hg hat))
           go_roundg k1
           case measure => have := HK1.out; omega
           case rel => exact ⟨(y127), (wrap64 (x11_1 + 1)), (by first | rfl | (simp; done) | (simp [*]; done)), H', ⟨by have := HK1.out; omega⟩, ⟨zr HO129⟩, ⟨zb BK104⟩, ⟨zb BK105⟩, ⟨zo HB⟩⟩
          ·rw [if_neg c120] at H
           exact absurd H (by simp)
         ·rw [if_neg c119] at H
          have c119b0 : (a0 == 0) = false := beq_eq_false_iff_ne.mpr c119
          have c119b1 : (a0 != 0) = true := bne_iff_ne.mpr c119
          have H' := zK H; clear H
          have p106 : 0 ≤ (x11_1 : Int) := of_decide_eq_true (by first | (with_reducible assumption) | assumption)
          have q106 : x11_1 < (l1.length : Int) := of_decide_eq_true (by first | (with_reducible assumption) | assumption)
          obtain ⟨ad106, A106_1, c106_1, e106, hx106_0, hx106_1, hx106_2, hl106_1, hi106_1⟩ := at_T70 HR1.out x11_1 p106 q106
          cases e106
          replace hx106_0 := (HB.out.cell (World.block_lt_of_cell? w _ hx106_0)).trans hx106_0
          replace hx106_1 := (HB.out.cell (World.block_lt_of_cell? w _ hx106_1)).trans hx106_1
          replace hx106_2 := (HB.out.cell (World.block_lt_of_cell? w _ hx106_2)).trans hx106_2
          have HR106_1 := zK hi106_1
          have HC106_1 := zK hl106_1; clear hi106_1 hl106_1
          replace p106 := eq_true p106
          replace q106 := eq_true q106
          go_wp2_with (first | ((with_reducible refine gate_dst (N := 7) rfl ?_); refine box_event ?hg (N := 7) ?hd (cs := #[.int .i64 0, .slice none 0 0, .bool false]) (t := 70) ?hr ?_; (case hd => rfl); (case hg => rfl); (case hr => first | (go_simp; done) | (go_simp; rfl)); intro gb107 hg w129 hbox hb; replace HO_5 := zK (Kd.R_below (zr HO_5) hb); have BK107 := zK (hbox); have GW107 := zK ((by rw [hg]; exact (below_size (zo HB)) : w.heap.size ≤ gb107)); have GE107 := zK ((by rw [hg]; exact (below_size (zo HB)) : w.heap.size ≤ gb107)); replace HB := zK (below_step (zo HB) hb); have NB104_107 := zK ((by rw [hg]; exact Nat.ne_of_lt (blk_lt (g := gq1) (o := .cells #[.slice (some ad106) l1.length c1] 22 (0, 0)) (zb BK104)) : gq1 ≠ gb107)); have NB107_104 := zK ((by rw [hg]; exact Nat.ne_of_gt (blk_lt (g := gq1) (o := .cells #[.slice (some ad106) l1.length c1] 22 (0, 0)) (zb BK104)) : gb107 ≠ gq1)); replace BK104 := zK (blk_below (g := gq1) (o := .cells #[.slice (some ad106) l1.length c1] 22 (0, 0)) (zb BK104) hb); have NB105_107 := zK ((by rw [hg]; exact Nat.ne_of_lt (blk_lt (g := gq2) (o := .cells #[.int .i64 a2] 3 (0, 0)) (zb BK105)) : gq2 ≠ gb107)); have NB107_105 := zK ((by rw [hg]; exact Nat.ne_of_gt (blk_lt (g := gq2) (o := .cells #[.int .i64 a2] 3 (0, 0)) (zb BK105)) : gb107 ≠ gq2)); replace BK105 := zK (blk_below (g := gq2) (o := .cells #[.int .i64 a2] 3 (0, 0)) (zb BK105) hb); clear hb hbox hg; have hnb130 := NB107_104.out; have hnc130 := NB104_107.out; have hnb131 := NB107_105.out; have hnc131 := NB105_107.out; have hcz132_0 : w129.cell? ⟨gb107, 0, none⟩ = some (.int .i64 0) := (blk_cell BK107.out 0).trans rfl; have hcz132_1 : w129.cell? ⟨gb107, 1, none⟩ = some (.slice none 0 0) := (blk_cell BK107.out 1).trans rfl; have hcz132_2 : w129.cell? ⟨gb107, 2, none⟩ = some (.bool false) := (blk_cell BK107.out 2).trans rfl; have hfz132_0 := blk_frozen BK107.out 0; have hfz132_1 := blk_frozen BK107.out 1; have hfz132_2 := blk_frozen BK107.out 2; have hnb133 := NB105_104.out; have hnc133 := NB104_105.out; have hcz134_0 : w129.cell? ⟨gq2, 0, none⟩ = some (.int .i64 a2) := (blk_cell BK105.out 0).trans rfl; have hfz134_0 := blk_frozen BK105.out 0) | ((with_reducible refine zC (f := 46) rfl ?_); refine goesL_ (some 19) rfl rfl Try.func46 (by kernel_rfl) rfl #[.agg #[.int .i64 ((rd_T70 l1 x11_1).f0.f0), .slice A106_1 ((rd_T70 l1 x11_1).f0.f1).length c106_1], .int .i64 a2] rfl (by (try simp only [List.map_toArray, List.map_cons, List.map_nil]); first | done | rfl | (simp only [List.length_drop, List.length_take]; rfl)) ?_; (with_reducible refine (lin_By.calls k1 ((rd_T70 l1 x11_1).f0.f0) _ _ ((rd_T70 l1 x11_1).f0.f1) a2 t108 _ ?side1 ?side2 A9.out).mono ?_); (case side1 => exact Kd.C_below HR106_1.out (zo HB)); (case side2 => exact HC106_1.out); rintro e w135 ⟨rfl, hb⟩; refine ⟨_, rfl, ?_⟩; replace HO_5 := zK (Kd.R_below (by (with_reducible repeat (first | apply Kd.R_alloc | apply Kd.R_drewN | apply Kd.R_drew)); exact (Kd.R_mono (Kd.R_far (p := ⟨gb107, 2, none⟩) (Kd.R_far (p := ⟨gb107, 1, none⟩) (Kd.R_far (p := ⟨gb107, 0, none⟩) (Kd.R_types HO_5.out BK107.out (by decide)) (fun _ hk => hk.2) (.int .i64 ((rd_T70 l1 x11_1).f0.f0))) (fun _ hk => hk.2) (.slice A106_1 ((rd_T70 l1 x11_1).f0.f1).length c106_1)) (fun _ hk => hk.2) (.bool ((rd_T70 l1 x11_1).f1))) (fun _ h_ => h_.1))) hb); replace BK104 := zK (blk_below (g := gq1) (o := .cells #[.slice (some ad106) l1.length c1] 22 (0, 0)) (zb BK104) hb); replace BK105 := zK (blk_below (g := gq2) (o := .cells #[.int .i64 a2] 3 (0, 0)) (zb BK105) hb); replace BK107 := zK (blk_below (g := gb107) (o := .cells #[.int .i64 ((rd_T70 l1 x11_1).f0.f0), .slice A106_1 ((rd_T70 l1 x11_1).f0.f1).length c106_1, .bool ((rd_T70 l1 x11_1).f1)] 70 (0, 0)) (by refine zM ?_; refine blk_put (cs := #[.int .i64 ((rd_T70 l1 x11_1).f0.f0), .slice A106_1 ((rd_T70 l1 x11_1).f0.f1).length c106_1, .bool false]) ?_ 2 _ rfl; refine zM ?_; refine blk_put (cs := #[.int .i64 ((rd_T70 l1 x11_1).f0.f0), .slice none 0 0, .bool false]) ?_ 1 _ rfl; refine zM ?_; refine blk_put (cs := #[.int .i64 0, .slice none 0 0, .bool false]) ?_ 0 _ rfl; refine zM ?_; exact BK107.out) hb); replace HB := zK (below_step (zo HB) hb); (try clear hb); (try clear hb2); (try clear hk); (try clear hi)))
          go_roundg k1
          case measure => have := HK1.out; omega
          case rel => exact ⟨(x5_1), (wrap64 (x11_1 + 1)), (by first | rfl | (simp; done) | (simp [*]; done)), H', ⟨by have := HK1.out; omega⟩, ⟨zr HO_5⟩, ⟨zb BK104⟩, ⟨zb BK105⟩, ⟨zo HB⟩⟩
        ·rw [if_neg c118] at H
         have c118b0 : (t108 == 0) = false := beq_eq_false_iff_ne.mpr c118
         have c118b1 : (t108 != 0) = true := bne_iff_ne.mpr c118
         have H' := zK H; clear H
         have p106 : 0 ≤ (x11_1 : Int) := of_decide_eq_true (by first | (with_reducible assumption) | assumption)
         have q106 : x11_1 < (l1.length : Int) := of_decide_eq_true (by first | (with_reducible assumption) | assumption)
         obtain ⟨ad106, A106_1, c106_1, e106, hx106_0, hx106_1, hx106_2, hl106_1, hi106_1⟩ := at_T70 HR1.out x11_1 p106 q106
         cases e106
         replace hx106_0 := (HB.out.cell (World.block_lt_of_cell? w _ hx106_0)).trans hx106_0
         replace hx106_1 := (HB.out.cell (World.block_lt_of_cell? w _ hx106_1)).trans hx106_1
         replace hx106_2 := (HB.out.cell (World.block_lt_of_cell? w _ hx106_2)).trans hx106_2
         have HR106_1 := zK hi106_1
         have HC106_1 := zK hl106_1; clear hi106_1 hl106_1
         replace p106 := eq_true p106
         replace q106 := eq_true q106
         go_wp2_with (first | ((with_reducible refine gate_dst (N := 7) rfl ?_); refine box_event ?hg (N := 7) ?hd (cs := #[.int .i64 0, .slice none 0 0, .bool false]) (t := 70) ?hr ?_; (case hd => rfl); (case hg => rfl); (case hr => first | (go_simp; done) | (go_simp; rfl)); intro gb107 hg w136 hbox hb; replace HO_5 := zK (Kd.R_below (zr HO_5) hb); have BK107 := zK (hbox); have GW107 := zK ((by rw [hg]; exact (below_size (zo HB)) : w.heap.size ≤ gb107)); have GE107 := zK ((by rw [hg]; exact (below_size (zo HB)) : w.heap.size ≤ gb107)); replace HB := zK (below_step (zo HB) hb); have NB104_107 := zK ((by rw [hg]; exact Nat.ne_of_lt (blk_lt (g := gq1) (o := .cells #[.slice (some ad106) l1.length c1] 22 (0, 0)) (zb BK104)) : gq1 ≠ gb107)); have NB107_104 := zK ((by rw [hg]; exact Nat.ne_of_gt (blk_lt (g := gq1) (o := .cells #[.slice (some ad106) l1.length c1] 22 (0, 0)) (zb BK104)) : gb107 ≠ gq1)); replace BK104 := zK (blk_below (g := gq1) (o := .cells #[.slice (some ad106) l1.length c1] 22 (0, 0)) (zb BK104) hb); have NB105_107 := zK ((by rw [hg]; exact Nat.ne_of_lt (blk_lt (g := gq2) (o := .cells #[.int .i64 a2] 3 (0, 0)) (zb BK105)) : gq2 ≠ gb107)); have NB107_105 := zK ((by rw [hg]; exact Nat.ne_of_gt (blk_lt (g := gq2) (o := .cells #[.int .i64 a2] 3 (0, 0)) (zb BK105)) : gb107 ≠ gq2)); replace BK105 := zK (blk_below (g := gq2) (o := .cells #[.int .i64 a2] 3 (0, 0)) (zb BK105) hb); clear hb hbox hg; have hnb137 := NB107_104.out; have hnc137 := NB104_107.out; have hnb138 := NB107_105.out; have hnc138 := NB105_107.out; have hcz139_0 : w136.cell? ⟨gb107, 0, none⟩ = some (.int .i64 0) := (blk_cell BK107.out 0).trans rfl; have hcz139_1 : w136.cell? ⟨gb107, 1, none⟩ = some (.slice none 0 0) := (blk_cell BK107.out 1).trans rfl; have hcz139_2 : w136.cell? ⟨gb107, 2, none⟩ = some (.bool false) := (blk_cell BK107.out 2).trans rfl; have hfz139_0 := blk_frozen BK107.out 0; have hfz139_1 := blk_frozen BK107.out 1; have hfz139_2 := blk_frozen BK107.out 2; have hnb140 := NB105_104.out; have hnc140 := NB104_105.out; have hcz141_0 : w136.cell? ⟨gq2, 0, none⟩ = some (.int .i64 a2) := (blk_cell BK105.out 0).trans rfl; have hfz141_0 := blk_frozen BK105.out 0) | ((with_reducible refine zC (f := 46) rfl ?_); refine goesL_ (some 19) rfl rfl Try.func46 (by kernel_rfl) rfl #[.agg #[.int .i64 ((rd_T70 l1 x11_1).f0.f0), .slice A106_1 ((rd_T70 l1 x11_1).f0.f1).length c106_1], .int .i64 a2] rfl (by (try simp only [List.map_toArray, List.map_cons, List.map_nil]); first | done | rfl | (simp only [List.length_drop, List.length_take]; rfl)) ?_; (with_reducible refine (lin_By.calls k1 ((rd_T70 l1 x11_1).f0.f0) _ _ ((rd_T70 l1 x11_1).f0.f1) a2 t108 _ ?side1 ?side2 A9.out).mono ?_); (case side1 => exact Kd.C_below HR106_1.out (zo HB)); (case side2 => exact HC106_1.out); rintro e w142 ⟨rfl, hb⟩; refine ⟨_, rfl, ?_⟩; replace HO_5 := zK (Kd.R_below (by (with_reducible repeat (first | apply Kd.R_alloc | apply Kd.R_drewN | apply Kd.R_drew)); exact (Kd.R_mono (Kd.R_far (p := ⟨gb107, 2, none⟩) (Kd.R_far (p := ⟨gb107, 1, none⟩) (Kd.R_far (p := ⟨gb107, 0, none⟩) (Kd.R_types HO_5.out BK107.out (by decide)) (fun _ hk => hk.2) (.int .i64 ((rd_T70 l1 x11_1).f0.f0))) (fun _ hk => hk.2) (.slice A106_1 ((rd_T70 l1 x11_1).f0.f1).length c106_1)) (fun _ hk => hk.2) (.bool ((rd_T70 l1 x11_1).f1))) (fun _ h_ => h_.1))) hb); replace BK104 := zK (blk_below (g := gq1) (o := .cells #[.slice (some ad106) l1.length c1] 22 (0, 0)) (zb BK104) hb); replace BK105 := zK (blk_below (g := gq2) (o := .cells #[.int .i64 a2] 3 (0, 0)) (zb BK105) hb); replace BK107 := zK (blk_below (g := gb107) (o := .cells #[.int .i64 ((rd_T70 l1 x11_1).f0.f0), .slice A106_1 ((rd_T70 l1 x11_1).f0.f1).length c106_1, .bool ((rd_T70 l1 x11_1).f1)] 70 (0, 0)) (by refine zM ?_; refine blk_put (cs := #[.int .i64 ((rd_T70 l1 x11_1).f0.f0), .slice A106_1 ((rd_T70 l1 x11_1).f0.f1).length c106_1, .bool false]) ?_ 2 _ rfl; refine zM ?_; refine blk_put (cs := #[.int .i64 ((rd_T70 l1 x11_1).f0.f0), .slice none 0 0, .bool false]) ?_ 1 _ rfl; refine zM ?_; refine blk_put (cs := #[.int .i64 0, .slice none 0 0, .bool false]) ?_ 0 _ rfl; refine zM ?_; exact BK107.out) hb); replace HB := zK (below_step (zo HB) hb); (try clear hb); (try clear hb2); (try clear hk); (try clear hi)))
         go_roundg k1
         case measure => have := HK1.out; omega
         case rel => exact ⟨(x5_1), (wrap64 (x11_1 + 1)), (by first | rfl | (simp; done) | (simp [*]; done)), H', ⟨by have := HK1.out; omega⟩, ⟨zr HO_5⟩, ⟨zb BK104⟩, ⟨zb BK105⟩, ⟨zo HB⟩⟩
     ·rw [if_neg c8] at H
      exact absurd H (by simp)
    ·rw [if_neg c7] at H
     exact absurd H (by simp)
   ·rw [if_neg c6] at H
    have c6b0 : decide (x11_1 < (l1.length : Int)) = false := decide_eq_false c6
    clear c6
    obtain rfl := Option.some.inj H
    go_wp2
    go_ret
    exact ⟨_, by first | rfl | (simp [errW_none, errW_some] <;> rfl) | (simp [*, errW_none, errW_some] <;> rfl), by (with_reducible repeat (first | apply Kd.R_alloc | apply Kd.R_drewN | apply Kd.R_drew)); exact Kd.R_mono HO_5.out (fun _ hk => trivial), zo HB⟩

/-! ### shadow_bounds: function 45, by hand -/
set_option maxHeartbeats 8000000 in
theorem shadow_bounds.gate {A0 : Option Addr} {n0 c0 : Nat} {v : Int} {w : World} {Q : Ending → World → Prop}
  (h : ∀ g0, g0 = w.heap.size → ∀ w1, w1.heap[g0]? = some (.cells #[.slice A0 n0 c0] 22 (0, 0)) → Below w.heap.size w w1 →
   ∀ g1, g1 = w1.heap.size → ∀ w2, w2.heap[g1]? = some (.cells #[.int .i64 v] 3 (0, 0)) → Below w1.heap.size w1 w2 →
   Q (.returned (.func (.func 82) #[] #[.pointer (some ⟨g0, 0, none⟩), .pointer (some ⟨g1, 0, none⟩)])) w2) :
  Calls Try.prog 45 #[.slice A0 n0 c0, .int .i64 v] w Q := by
 have HQ := zK h; clear h
 go_enter Try.func45, Try.ntmps45
 go_wp2_with (first
  | ((with_reducible refine gate_dst (N := 2) rfl ?_); refine box_event ?hg (N := 2) ?hd (cs := #[.slice A0 n0 c0]) (t := 22) ?hr ?_; (case hd => rfl); (case hg => rfl); (case hr => first | (go_simp; done) | (go_simp; rfl)); intro g0 hg w1 hbox hb; have HQ1 := zK (HQ.out g0 hg w1 hbox hb); clear HQ hg hbox hb)
  | ((with_reducible refine gate_dst (N := 3) rfl ?_); refine box_event ?hg (N := 3) ?hd (cs := #[.int .i64 v]) (t := 3) ?hr ?_; (case hd => rfl); (case hg => rfl); (case hr => first | (go_simp; done) | (go_simp; rfl)); intro g1 hg w2 hbox hb; have HQ2 := zK (HQ1.out g1 hg w2 hbox hb); clear HQ1 hg hbox hb))
 exact HQ2.out

/-! ### lin_Right: function 100 -/
def lin_Right.l0 : Nat → Int → List (S68) → Int → Int → Option (Int)
 | 0, _, _, _, _ => none
 | k + 1, x3, x7, x8, x9 => if x9 < x8 then (if 0 ≤ x9 then (if x9 < (x7.length : Int) then (if ((rd_T68 x7 x9).f0) ≤ x3 then (some 1) else (if ((rd_T68 x7 x9).f0) ≥ 64 then (some 1) else (if ((rd_T68 x7 x9).f1) = 0 then (some 1) else (lin_Right.l0 k ((rd_T68 x7 x9).f0) x7 x8 (wrap64 (x9 + 1)))))) else (none)) else (none)) else (some 0)
def lin_Right.f (k : Nat) (a0_0 : Int) (l0_1 : List (S68)) : Option (Int) := lin_Right.l0 k (-1) l0_1 (l0_1.length : Int) 0
theorem lin_Right.mono_l : ∀ k, (∀ y0 y1 y2 y3, LeO (lin_Right.l0 k y0 y1 y2 y3) (lin_Right.l0 (k + 1) y0 y1 y2 y3))
 | 0 => fun _ _ _ _ r h => by simp [lin_Right.l0] at h
 | k + 1 => by
  have ih0 := lin_Right.mono_l k
  ·intro y0 y1 y2 y3
   unfold lin_Right.l0
   repeat' first
   | (with_reducible exact ih0 _ _ _ _)
   | (with_reducible exact LeO.refl _)
   | (with_reducible exact LeO.none _)
   | (with_reducible refine LeO.ite ?_ ?_)
   | (with_reducible refine LeO.bind ?_ (fun _ => ?_))
   | exact ih0 _ _ _ _
   | exact LeO.none _
   | refine LeO.ite ?_ ?_
   | refine LeO.bind ?_ (fun _ => ?_)
theorem lin_Right.mono : ∀ a0 a1 k, LeO (lin_Right.f k a0 a1) (lin_Right.f (k + 1) a0 a1) := by
 intro a0 a1 k
 have ih0 := lin_Right.mono_l k
 unfold lin_Right.f
 repeat' first
   | (with_reducible exact ih0 _ _ _ _)
   | (with_reducible exact LeO.refl _)
   | (with_reducible exact LeO.none _)
   | (with_reducible refine LeO.ite ?_ ?_)
   | (with_reducible refine LeO.bind ?_ (fun _ => ?_))
   | exact ih0 _ _ _ _
   | exact LeO.none _
   | refine LeO.ite ?_ ?_
   | refine LeO.bind ?_ (fun _ => ?_)
set_option maxHeartbeats 8000000 in
set_option maxRecDepth 100000 in
theorem lin_Right.calls (k : Nat) (a0_0 : Int) (A0_1 : Option Addr) (c0_1 : Nat) (l0_1 : List (S68)) (r : Int) (w : World) (hr0_1 : Kd.C k68 w A0_1 l0_1.length l0_1) (hc0_1 : l0_1.length ≤ c0_1) (h : lin_Right.f k a0_0 l0_1 = some r) :
  Calls Try.prog 100 #[.agg #[.int .i64 a0_0, .slice A0_1 l0_1.length c0_1]] w fun e w' => e = .returned (.int .i64 r) ∧ Below w.heap.size w w' := by
 have hu62 := Try.underlying62
 have hu68 := Try.underlying68
 have HR0_1 := zK hr0_1
 have HC0_1 := zK hc0_1; clear hr0_1 hc0_1
 have HB := zK (Below.refl w.heap.size w)
 have H : (lin_Right.l0 k (-1) l0_1 (l0_1.length : Int) 0) = some r := h
 clear h
 have H' := zK H; clear H
 go_enter Try.func100, Try.ntmps100
 go_wp2_with (first | ((with_reducible refine gate_dst (N := 1) rfl ?_); refine box_event ?hg (N := 1) ?hd (cs := #[.int .i64 a0_0, .slice A0_1 l0_1.length c0_1]) (t := 62) ?hr ?_; (case hd => rfl); (case hg => rfl); (case hr => first | (go_simp; done) | (go_simp; rfl)); intro gb130 hg w2 hbox hb; have BK130 := zK (hbox); have GW130 := zK ((by rw [hg]; exact (below_size (zo HB)) : w.heap.size ≤ gb130)); have GE130 := zK ((by rw [hg]; exact (below_size (zo HB)) : w.heap.size ≤ gb130)); replace HB := zK (below_step (zo HB) hb); clear hb hbox hg; have hcz3_0 : w2.cell? ⟨gb130, 0, none⟩ = some (.int .i64 a0_0) := (blk_cell BK130.out 0).trans rfl; have hcz3_1 : w2.cell? ⟨gb130, 1, none⟩ = some (.slice A0_1 l0_1.length c0_1) := (blk_cell BK130.out 1).trans rfl; have hfz3_0 := blk_frozen BK130.out 0; have hfz3_1 := blk_frozen BK130.out 1))
 go_loopg [3, 9] k (fun kq v3 v9 w' => ∃ (x3_1 : Int) (x9_1 : Int), v3 = .int .i64 x3_1 ∧ v9 = .int .i64 x9_1 ∧ Aside0 (lin_Right.l0 kq x3_1 l0_1 (l0_1.length : Int) x9_1 = some r) ∧ Aside0 (kq ≤ k) ∧ Aside0 (w'.heap[gb130]? = some (.cells #[.int .i64 a0_0, (.slice A0_1 l0_1.length c0_1)] 62 (0, 0))) ∧ Aside0 (Below w.heap.size w w'))
 case atStart => exact ⟨((-1)), (0), (by first | rfl | (simp; done) | (simp [*]; done)), (by first | rfl | (simp; done) | (simp [*]; done)), H', ⟨Nat.le_refl _⟩, ⟨zb BK130⟩, ⟨zo HB⟩⟩
 case round =>
  clear H'; try clear c1; try clear p2; try clear hcz3_0
  try clear hcz3_1; try clear hfz3_0; try clear hfz3_1
  obtain ⟨x3_1, x9_1, rfl, rfl, HA, HK1, BK130, HB⟩ := hrel
  cases gk with
  | zero => exact absurd HA.out (by simp [lin_Right.l0])
  | succ k1 =>
   have H := HA.out; clear HA
   simp only [lin_Right.l0] at H
   by_cases c4 : x9_1 < (l0_1.length : Int)
   ·rw [if_pos c4] at H
    have c4b0 : decide (x9_1 < (l0_1.length : Int)) = true := decide_eq_true c4
    clear c4
    by_cases c5 : 0 ≤ x9_1
    ·rw [if_pos c5] at H
     have c5b0 : decide (0 ≤ x9_1) = true := decide_eq_true c5; clear c5
     by_cases c6 : x9_1 < (l0_1.length : Int)
     ·rw [if_pos c6] at H
      have c6b0 : decide (x9_1 < (l0_1.length : Int)) = true := decide_eq_true c6
      clear c6
      by_cases c7 : ((rd_T68 l0_1 x9_1).f0) ≤ x3_1
      ·rw [if_pos c7] at H
       have c7b0 : decide (((rd_T68 l0_1 x9_1).f0) ≤ x3_1) = true := decide_eq_true c7
       clear c7
       obtain rfl := Option.some.inj H
       have p131 : 0 ≤ (x9_1 : Int) := of_decide_eq_true (by first | (with_reducible assumption) | assumption)
       have q131 : x9_1 < (l0_1.length : Int) := of_decide_eq_true (by first | (with_reducible assumption) | assumption)
       obtain ⟨ad131, e131, hx131_0, hx131_1⟩ := at_T68 HR0_1.out x9_1 p131 q131
       cases e131
       replace hx131_0 := (HB.out.cell (World.block_lt_of_cell? w _ hx131_0)).trans hx131_0
       replace hx131_1 := (HB.out.cell (World.block_lt_of_cell? w _ hx131_1)).trans hx131_1
       replace p131 := eq_true p131
       replace q131 := eq_true q131
       go_wp2_with (first | ((with_reducible refine gate_dst (N := 5) rfl ?_); refine box_event ?hg (N := 5) ?hd (cs := #[.int .i64 0, .int .i64 0]) (t := 68) ?hr ?_; (case hd => rfl); (case hg => rfl); (case hr => first | (go_simp; done) | (go_simp; rfl)); intro gb132 hg w8 hbox hb; have BK132 := zK (hbox); have GW132 := zK ((by rw [hg]; exact (below_size (zo HB)) : w.heap.size ≤ gb132)); have GE132 := zK ((by rw [hg]; exact (below_size (zo HB)) : w.heap.size ≤ gb132)); replace HB := zK (below_step (zo HB) hb); have NB130_132 := zK ((by rw [hg]; exact Nat.ne_of_lt (blk_lt (g := gb130) (o := .cells #[.int .i64 a0_0, .slice (some ad131) l0_1.length c0_1] 62 (0, 0)) (zb BK130)) : gb130 ≠ gb132)); have NB132_130 := zK ((by rw [hg]; exact Nat.ne_of_gt (blk_lt (g := gb130) (o := .cells #[.int .i64 a0_0, .slice (some ad131) l0_1.length c0_1] 62 (0, 0)) (zb BK130)) : gb132 ≠ gb130)); replace BK130 := zK (blk_below (g := gb130) (o := .cells #[.int .i64 a0_0, .slice (some ad131) l0_1.length c0_1] 62 (0, 0)) (zb BK130) hb); clear hb hbox hg; have hnb9 := NB132_130.out; have hnc9 := NB130_132.out; have hcz10_0 : w8.cell? ⟨gb132, 0, none⟩ = some (.int .i64 0) := (blk_cell BK132.out 0).trans rfl; have hcz10_1 : w8.cell? ⟨gb132, 1, none⟩ = some (.int .i64 0) := (blk_cell BK132.out 1).trans rfl; have hfz10_0 := blk_frozen BK132.out 0; have hfz10_1 := blk_frozen BK132.out 1))
       go_ret
       exact ⟨by first | rfl | (simp [errW_none, errW_some] <;> rfl) | (simp [*, errW_none, errW_some] <;> rfl), zo HB⟩
      ·rw [if_neg c7] at H
       have c7b0 : decide (((rd_T68 l0_1 x9_1).f0) ≤ x3_1) = false := decide_eq_false c7
       clear c7
       by_cases c11 : ((rd_T68 l0_1 x9_1).f0) ≥ 64
       ·rw [if_pos c11] at H
        have c11b0 : decide (64 ≤ ((rd_T68 l0_1 x9_1).f0)) = true := decide_eq_true c11
        clear c11
        obtain rfl := Option.some.inj H
        have p131 : 0 ≤ (x9_1 : Int) := of_decide_eq_true (by first | (with_reducible assumption) | assumption)
        have q131 : x9_1 < (l0_1.length : Int) := of_decide_eq_true (by first | (with_reducible assumption) | assumption)
        obtain ⟨ad131, e131, hx131_0, hx131_1⟩ := at_T68 HR0_1.out x9_1 p131 q131
        cases e131
        replace hx131_0 := (HB.out.cell (World.block_lt_of_cell? w _ hx131_0)).trans hx131_0
        replace hx131_1 := (HB.out.cell (World.block_lt_of_cell? w _ hx131_1)).trans hx131_1
        replace p131 := eq_true p131
        replace q131 := eq_true q131
        go_wp2_with (first | ((with_reducible refine gate_dst (N := 5) rfl ?_); refine box_event ?hg (N := 5) ?hd (cs := #[.int .i64 0, .int .i64 0]) (t := 68) ?hr ?_; (case hd => rfl); (case hg => rfl); (case hr => first | (go_simp; done) | (go_simp; rfl)); intro gb132 hg w12 hbox hb; have BK132 := zK (hbox); have GW132 := zK ((by rw [hg]; exact (below_size (zo HB)) : w.heap.size ≤ gb132)); have GE132 := zK ((by rw [hg]; exact (below_size (zo HB)) : w.heap.size ≤ gb132)); replace HB := zK (below_step (zo HB) hb); have NB130_132 := zK ((by rw [hg]; exact Nat.ne_of_lt (blk_lt (g := gb130) (o := .cells #[.int .i64 a0_0, .slice (some ad131) l0_1.length c0_1] 62 (0, 0)) (zb BK130)) : gb130 ≠ gb132)); have NB132_130 := zK ((by rw [hg]; exact Nat.ne_of_gt (blk_lt (g := gb130) (o := .cells #[.int .i64 a0_0, .slice (some ad131) l0_1.length c0_1] 62 (0, 0)) (zb BK130)) : gb132 ≠ gb130)); replace BK130 := zK (blk_below (g := gb130) (o := .cells #[.int .i64 a0_0, .slice (some ad131) l0_1.length c0_1] 62 (0, 0)) (zb BK130) hb); clear hb hbox hg; have hnb13 := NB132_130.out; have hnc13 := NB130_132.out; have hcz14_0 : w12.cell? ⟨gb132, 0, none⟩ = some (.int .i64 0) := (blk_cell BK132.out 0).trans rfl; have hcz14_1 : w12.cell? ⟨gb132, 1, none⟩ = some (.int .i64 0) := (blk_cell BK132.out 1).trans rfl; have hfz14_0 := blk_frozen BK132.out 0; have hfz14_1 := blk_frozen BK132.out 1))
        go_ret
        exact ⟨by first | rfl | (simp [errW_none, errW_some] <;> rfl) | (simp [*, errW_none, errW_some] <;> rfl), zo HB⟩
       ·rw [if_neg c11] at H
        have c11b0 : decide (64 ≤ ((rd_T68 l0_1 x9_1).f0)) = false := decide_eq_false c11
        clear c11
        by_cases c15 : ((rd_T68 l0_1 x9_1).f1) = 0
        ·rw [if_pos c15] at H
         have c15b0 : (((rd_T68 l0_1 x9_1).f1) == 0) = true := beq_iff_eq.mpr c15
         have c15b1 : (((rd_T68 l0_1 x9_1).f1) != 0) = false := bne_eq_false_iff_eq.mpr c15
         clear c15
         obtain rfl := Option.some.inj H
         have p131 : 0 ≤ (x9_1 : Int) := of_decide_eq_true (by first | (with_reducible assumption) | assumption)
         have q131 : x9_1 < (l0_1.length : Int) := of_decide_eq_true (by first | (with_reducible assumption) | assumption)
         obtain ⟨ad131, e131, hx131_0, hx131_1⟩ := at_T68 HR0_1.out x9_1 p131 q131
         cases e131
         replace hx131_0 := (HB.out.cell (World.block_lt_of_cell? w _ hx131_0)).trans hx131_0
         replace hx131_1 := (HB.out.cell (World.block_lt_of_cell? w _ hx131_1)).trans hx131_1
         replace p131 := eq_true p131
         replace q131 := eq_true q131
         go_wp2_with (first | ((with_reducible refine gate_dst (N := 5) rfl ?_); refine box_event ?hg (N := 5) ?hd (cs := #[.int .i64 0, .int .i64 0]) (t := 68) ?hr ?_; (case hd => rfl); (case hg => rfl); (case hr => first | (go_simp; done) | (go_simp; rfl)); intro gb132 hg w16 hbox hb; have BK132 := zK (hbox); have GW132 := zK ((by rw [hg]; exact (below_size (zo HB)) : w.heap.size ≤ gb132)); have GE132 := zK ((by rw [hg]; exact (below_size (zo HB)) : w.heap.size ≤ gb132)); replace HB := zK (below_step (zo HB) hb); have NB130_132 := zK ((by rw [hg]; exact Nat.ne_of_lt (blk_lt (g := gb130) (o := .cells #[.int .i64 a0_0, .slice (some ad131) l0_1.length c0_1] 62 (0, 0)) (zb BK130)) : gb130 ≠ gb132)); have NB132_130 := zK ((by rw [hg]; exact Nat.ne_of_gt (blk_lt (g := gb130) (o := .cells #[.int .i64 a0_0, .slice (some ad131) l0_1.length c0_1] 62 (0, 0)) (zb BK130)) : gb132 ≠ gb130)); replace BK130 := zK (blk_below (g := gb130) (o := .cells #[.int .i64 a0_0, .slice (some ad131) l0_1.length c0_1] 62 (0, 0)) (zb BK130) hb); clear hb hbox hg; have hnb17 := NB132_130.out; have hnc17 := NB130_132.out; have hcz18_0 : w16.cell? ⟨gb132, 0, none⟩ = some (.int .i64 0) := (blk_cell BK132.out 0).trans rfl; have hcz18_1 : w16.cell? ⟨gb132, 1, none⟩ = some (.int .i64 0) := (blk_cell BK132.out 1).trans rfl; have hfz18_0 := blk_frozen BK132.out 0; have hfz18_1 := blk_frozen BK132.out 1))
         go_ret
         exact ⟨by first | rfl | (simp [errW_none, errW_some] <;> rfl) | (simp [*, errW_none, errW_some] <;> rfl), zo HB⟩
        ·rw [if_neg c15] at H
         have c15b0 : (((rd_T68 l0_1 x9_1).f1) == 0) = false := beq_eq_false_iff_ne.mpr c15
         have c15b1 : (((rd_T68 l0_1 x9_1).f1) != 0) = true := bne_iff_ne.mpr c15
         have H' := zK H; clear H
         have p131 : 0 ≤ (x9_1 : Int) := of_decide_eq_true (by first | (with_reducible assumption) | assumption)
         have q131 : x9_1 < (l0_1.length : Int) := of_decide_eq_true (by first | (with_reducible assumption) | assumption)
         obtain ⟨ad131, e131, hx131_0, hx131_1⟩ := at_T68 HR0_1.out x9_1 p131 q131
         cases e131
         replace hx131_0 := (HB.out.cell (World.block_lt_of_cell? w _ hx131_0)).trans hx131_0
         replace hx131_1 := (HB.out.cell (World.block_lt_of_cell? w _ hx131_1)).trans hx131_1
         replace p131 := eq_true p131
         replace q131 := eq_true q131
         go_wp2_with (first | ((with_reducible refine gate_dst (N := 5) rfl ?_); refine box_event ?hg (N := 5) ?hd (cs := #[.int .i64 0, .int .i64 0]) (t := 68) ?hr ?_; (case hd => rfl); (case hg => rfl); (case hr => first | (go_simp; done) | (go_simp; rfl)); intro gb132 hg w19 hbox hb; have BK132 := zK (hbox); have GW132 := zK ((by rw [hg]; exact (below_size (zo HB)) : w.heap.size ≤ gb132)); have GE132 := zK ((by rw [hg]; exact (below_size (zo HB)) : w.heap.size ≤ gb132)); replace HB := zK (below_step (zo HB) hb); have NB130_132 := zK ((by rw [hg]; exact Nat.ne_of_lt (blk_lt (g := gb130) (o := .cells #[.int .i64 a0_0, .slice (some ad131) l0_1.length c0_1] 62 (0, 0)) (zb BK130)) : gb130 ≠ gb132)); have NB132_130 := zK ((by rw [hg]; exact Nat.ne_of_gt (blk_lt (g := gb130) (o := .cells #[.int .i64 a0_0, .slice (some ad131) l0_1.length c0_1] 62 (0, 0)) (zb BK130)) : gb132 ≠ gb130)); replace BK130 := zK (blk_below (g := gb130) (o := .cells #[.int .i64 a0_0, .slice (some ad131) l0_1.length c0_1] 62 (0, 0)) (zb BK130) hb); clear hb hbox hg; have hnb20 := NB132_130.out; have hnc20 := NB130_132.out; have hcz21_0 : w19.cell? ⟨gb132, 0, none⟩ = some (.int .i64 0) := (blk_cell BK132.out 0).trans rfl; have hcz21_1 : w19.cell? ⟨gb132, 1, none⟩ = some (.int .i64 0) := (blk_cell BK132.out 1).trans rfl; have hfz21_0 := blk_frozen BK132.out 0; have hfz21_1 := blk_frozen BK132.out 1))
         go_roundg k1
         case measure => have := HK1.out; omega
         case rel => exact ⟨((rd_T68 l0_1 x9_1).f0), (wrap64 (x9_1 + 1)), (by first | rfl | (simp; done) | (simp [*]; done)), (by first | rfl | (simp; done) | (simp [*]; done)), H', ⟨by have := HK1.out; omega⟩, ⟨zb BK130⟩, ⟨zo HB⟩⟩
     ·rw [if_neg c6] at H
      exact absurd H (by simp)
    ·rw [if_neg c5] at H
     exact absurd H (by simp)
   ·rw [if_neg c4] at H
    have c4b0 : decide (x9_1 < (l0_1.length : Int)) = false := decide_eq_false c4
    clear c4
    obtain rfl := Option.some.inj H
    go_wp2
    go_ret
    exact ⟨by first | rfl | (simp [errW_none, errW_some] <;> rfl) | (simp [*, errW_none, errW_some] <;> rfl), zo HB⟩

/-! ### ineq_Right: function 74 -/
def ineq_Right.f (k : Nat) (a0_0 : Int) (l0_1 : List (S68)) (a0_2 : Bool) : Option (Int) := (lin_Right.f k a0_0 l0_1).bind fun t134 => (some t134)
theorem ineq_Right.mono : ∀ a0 a1 a2 k, LeO (ineq_Right.f k a0 a1 a2) (ineq_Right.f (k + 1) a0 a1 a2) := by
 intro a0 a1 a2 k
 unfold ineq_Right.f
 repeat' first
   | (with_reducible exact lin_Right.mono _ _ _)
   | (with_reducible exact LeO.refl _)
   | (with_reducible exact LeO.none _)
   | (with_reducible refine LeO.ite ?_ ?_)
   | (with_reducible refine LeO.bind ?_ (fun _ => ?_))
   | exact lin_Right.mono _ _ _
   | exact LeO.none _
   | refine LeO.ite ?_ ?_
   | refine LeO.bind ?_ (fun _ => ?_)
set_option maxHeartbeats 8000000 in
set_option maxRecDepth 100000 in
theorem ineq_Right.calls (k : Nat) (a0_0 : Int) (A0_1 : Option Addr) (c0_1 : Nat) (l0_1 : List (S68)) (a0_2 : Bool) (r : Int) (w : World) (hr0_1 : Kd.C k68 w A0_1 l0_1.length l0_1) (hc0_1 : l0_1.length ≤ c0_1) (h : ineq_Right.f k a0_0 l0_1 a0_2 = some r) :
  Calls Try.prog 74 #[.agg #[.int .i64 a0_0, .slice A0_1 l0_1.length c0_1, .bool a0_2]] w fun e w' => e = .returned (.int .i64 r) ∧ Below w.heap.size w w' := by
 have hu70 := Try.underlying70
 have hu62 := Try.underlying62
 have HR0_1 := zK hr0_1
 have HC0_1 := zK hc0_1; clear hr0_1 hc0_1
 have HB := zK (Below.refl w.heap.size w)
 have H : ((lin_Right.f k a0_0 l0_1).bind fun t134 => (some t134)) = some r := h
 clear h; replace H := Option.bind_eq_some_iff.mp H
 obtain ⟨t134, A20, H⟩ := H; replace H : (some t134) = some r := H
 have A2 := zK A20; clear A20
 obtain rfl := Option.some.inj H
 go_enter Try.func74, Try.ntmps74
 go_wp2_with (first | ((with_reducible refine gate_dst (N := 1) rfl ?_); refine box_event ?hg (N := 1) ?hd (cs := #[.int .i64 a0_0, .slice A0_1 l0_1.length c0_1, .bool a0_2]) (t := 70) ?hr ?_; (case hd => rfl); (case hg => rfl); (case hr => first | (go_simp; done) | (go_simp; rfl)); intro gb133 hg w3 hbox hb; have BK133 := zK (hbox); have GW133 := zK ((by rw [hg]; exact (below_size (zo HB)) : w.heap.size ≤ gb133)); have GE133 := zK ((by rw [hg]; exact (below_size (zo HB)) : w.heap.size ≤ gb133)); replace HB := zK (below_step (zo HB) hb); clear hb hbox hg; have hcz4_0 : w3.cell? ⟨gb133, 0, none⟩ = some (.int .i64 a0_0) := (blk_cell BK133.out 0).trans rfl; have hcz4_1 : w3.cell? ⟨gb133, 1, none⟩ = some (.slice A0_1 l0_1.length c0_1) := (blk_cell BK133.out 1).trans rfl; have hcz4_2 : w3.cell? ⟨gb133, 2, none⟩ = some (.bool a0_2) := (blk_cell BK133.out 2).trans rfl; have hfz4_0 := blk_frozen BK133.out 0; have hfz4_1 := blk_frozen BK133.out 1; have hfz4_2 := blk_frozen BK133.out 2) | ((with_reducible refine zC (f := 100) rfl ?_); refine goesL_ (some 5) rfl rfl Try.func100 (by kernel_rfl) rfl #[.agg #[.int .i64 a0_0, .slice A0_1 l0_1.length c0_1]] rfl (by (try simp only [List.map_toArray, List.map_cons, List.map_nil]); first | done | rfl | (simp only [List.length_drop, List.length_take]; rfl)) ?_; (with_reducible refine (lin_Right.calls k a0_0 _ _ l0_1 t134 _ ?side1 ?side2 A2.out).mono ?_); (case side1 => repeat (first | exact (Kd.C_below HR0_1.out HB.out) | (with_reducible refine cA ?_ _) | (with_reducible refine cN ?_ _) | (with_reducible refine cD ?_))); (case side2 => exact HC0_1.out); rintro e w5 ⟨rfl, hb⟩; refine ⟨_, rfl, ?_⟩; replace BK133 := zK (blk_below (g := gb133) (o := .cells #[.int .i64 a0_0, .slice A0_1 l0_1.length c0_1, .bool a0_2] 70 (0, 0)) (zb BK133) hb); replace HB := zK (below_step (zo HB) hb); (try clear hb); (try clear hb2); (try clear hk); (try clear hi)))
 go_ret
 exact ⟨by first | rfl | (simp [errW_none, errW_some] <;> rfl) | (simp [*, errW_none, errW_some] <;> rfl), zo HB⟩

end Go.Proofs.Ytkfbfgkdabljiaa.PShadowSplits
