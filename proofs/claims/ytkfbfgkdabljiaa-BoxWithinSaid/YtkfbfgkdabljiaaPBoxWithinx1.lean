/- What the call of each function that the law reaches comes to: it answers as the plain function of the same name does, wherever that one answers; and the law itself out of its plain form. Written by a program of this session (an extended copy of the printer); no condition but what stands in each theorem. -/
import Derived.Test.YtkfbfgkdabljiaaPBoxWithinx0
namespace Go.Proofs.Ytkfbfgkdabljiaa.PBoxWithin
open Go.RowKit Go.Proofs.YtkfbfgkdabljiaaW.PrintWords Go.Proofs.YtkfbfgkdabljiaaW.PrintLast Go.Proofs.YtkfbfgkdabljiaaW.PrintMore
open Go.Proofs.YtkfbfgkdabljiaaW.PrintWords renaming blk_drewN → zN, blk_drew → zD, blk_alloc → zA, below_alloc → yA, pw_below_drewN → yN, below_drew1 → yD, below_set → yS, gate_callee → zC, gate_guard → zG
open Go.Proofs.YtkfbfgkdabljiaaW.PrintWords.Kd renaming C_alloc → cA, C_drewN → cN, C_drew → cD
open Go.Proofs.YtkfbfgkdabljiaaW.PrintWords.Aside0 renaming mk → zK
attribute [local go_sem] max2_int min2_int max_two min_two max_three min_three max_four min_four   -- for this text's walks alone
set_option linter.unusedVariables false
set_option linter.unusedSimpArgs false

/-! ### sequiturlaw32_Few: function 20 -/
mutual
def sequiturlaw32_Few.j0 : Nat → List (S70) → List Int → List Int → Int → Bool → Option (Bool)
 | 0, _, _, _, _, _ => none
 | k + 1, x0, x1, x2, x3, x26 => if x26 = true then (some false) else (sequiturlaw32_Few.l0 k x0 x1 x2 x3 x0 (x0.length : Int) 0)
def sequiturlaw32_Few.l0 : Nat → List (S70) → List Int → List Int → Int → List (S70) → Int → Int → Option (Bool)
 | 0, _, _, _, _, _, _, _ => none
 | k + 1, x0, x1, x2, x3, x27, x28, x29 => if x29 < x28 then (if 0 ≤ x29 then (if x29 < (x27.length : Int) then (if (((rd_T70 x27 x29).f0.f1).length : Int) > 20 then (some false) else (sequiturlaw32_Few.l0 k x0 x1 x2 x3 x27 x28 (wrap64 (x29 + 1)))) else (none)) else (none)) else (sequiturlaw32_Few.l1 k x0 x1 x2 x3 1 0)
def sequiturlaw32_Few.l1 : Nat → List (S70) → List Int → List Int → Int → Int → Int → Option (Bool)
 | 0, _, _, _, _, _, _ => none
 | k + 1, x0, x1, x2, x3, x11, x12 => if x12 < (x1.length : Int) then (sequiturlaw32_Few.j3 k x0 x1 x2 x3 x11 x12 (decide (x12 < (x2.length : Int)))) else (sequiturlaw32_Few.j3 k x0 x1 x2 x3 x11 x12 false)
def sequiturlaw32_Few.j3 : Nat → List (S70) → List Int → List Int → Int → Int → Int → Bool → Option (Bool)
 | 0, _, _, _, _, _, _, _ => none
 | k + 1, x0, x1, x2, x3, x11, x12, x48 => if x48 = true then (if 0 ≤ x12 then (if x12 < (x1.length : Int) then (if x12 < (x2.length : Int) then (if (rd x1 x12) > (rd x2 x12) then (some true) else (if (IntKind.u64.wrap ((IntKind.u64.wrap (rd x2 x12)) - (IntKind.u64.wrap (rd x1 x12)))) ≥ 100000 then (some (decide ((x0.length : Int) ≤ 20))) else (if x11 > 100000 then (some (decide ((x0.length : Int) ≤ 20))) else (sequiturlaw32_Few.l1 k x0 x1 x2 x3 (wrap64 (x11 * (wrap64 ((wrap64 (IntKind.u64.wrap ((IntKind.u64.wrap (rd x2 x12)) - (IntKind.u64.wrap (rd x1 x12))))) + 1)))) (wrap64 (x12 + 1)))))) else (none)) else (none)) else (none)) else (if x11 ≤ x3 then (some true) else (some (decide (x11 > 65536))))
end
def sequiturlaw32_Few.f (k : Nat) (l0 : List (S70)) (l1 : List Int) (l2 : List Int) (a3 : Int) : Option (Bool) := if (l0.length : Int) > 20 then (sequiturlaw32_Few.j0 k l0 l1 l2 a3 true) else (if (l1.length : Int) > 10 then (sequiturlaw32_Few.j0 k l0 l1 l2 a3 true) else (sequiturlaw32_Few.j0 k l0 l1 l2 a3 (decide ((l2.length : Int) > 10))))
theorem sequiturlaw32_Few.mono_l : ∀ k, (∀ y0 y1 y2 y3 y4, LeO (sequiturlaw32_Few.j0 k y0 y1 y2 y3 y4) (sequiturlaw32_Few.j0 (k + 1) y0 y1 y2 y3 y4)) ∧ (∀ y0 y1 y2 y3 y4 y5 y6, LeO (sequiturlaw32_Few.l0 k y0 y1 y2 y3 y4 y5 y6) (sequiturlaw32_Few.l0 (k + 1) y0 y1 y2 y3 y4 y5 y6)) ∧ (∀ y0 y1 y2 y3 y4 y5, LeO (sequiturlaw32_Few.l1 k y0 y1 y2 y3 y4 y5) (sequiturlaw32_Few.l1 (k + 1) y0 y1 y2 y3 y4 y5)) ∧ (∀ y0 y1 y2 y3 y4 y5 y6, LeO (sequiturlaw32_Few.j3 k y0 y1 y2 y3 y4 y5 y6) (sequiturlaw32_Few.j3 (k + 1) y0 y1 y2 y3 y4 y5 y6))
 | 0 => ⟨fun _ _ _ _ _ r h => by simp [sequiturlaw32_Few.j0] at h, fun _ _ _ _ _ _ _ r h => by simp [sequiturlaw32_Few.l0] at h, fun _ _ _ _ _ _ r h => by simp [sequiturlaw32_Few.l1] at h, fun _ _ _ _ _ _ _ r h => by simp [sequiturlaw32_Few.j3] at h⟩
 | k + 1 => by
  obtain ⟨ih0, ih1, ih2, ih3⟩ := sequiturlaw32_Few.mono_l k
  refine ⟨?_, ?_, ?_, ?_⟩
  ·intro y0 y1 y2 y3 y4
   unfold sequiturlaw32_Few.j0
   repeat' first
   | (with_reducible exact ih0 _ _ _ _ _)
   | (with_reducible exact ih1 _ _ _ _ _ _ _)
   | (with_reducible exact ih2 _ _ _ _ _ _)
   | (with_reducible exact ih3 _ _ _ _ _ _ _)
   | (with_reducible exact LeO.refl _)
   | (with_reducible exact LeO.none _)
   | (with_reducible refine LeO.ite ?_ ?_)
   | (with_reducible refine LeO.bind ?_ (fun _ => ?_))
   | exact ih0 _ _ _ _ _
   | exact ih1 _ _ _ _ _ _ _
   | exact ih2 _ _ _ _ _ _
   | exact ih3 _ _ _ _ _ _ _
   | exact LeO.none _
   | refine LeO.ite ?_ ?_
   | refine LeO.bind ?_ (fun _ => ?_)
  ·intro y0 y1 y2 y3 y4 y5 y6
   unfold sequiturlaw32_Few.l0
   repeat' first
   | (with_reducible exact ih0 _ _ _ _ _)
   | (with_reducible exact ih1 _ _ _ _ _ _ _)
   | (with_reducible exact ih2 _ _ _ _ _ _)
   | (with_reducible exact ih3 _ _ _ _ _ _ _)
   | (with_reducible exact LeO.refl _)
   | (with_reducible exact LeO.none _)
   | (with_reducible refine LeO.ite ?_ ?_)
   | (with_reducible refine LeO.bind ?_ (fun _ => ?_))
   | exact ih0 _ _ _ _ _
   | exact ih1 _ _ _ _ _ _ _
   | exact ih2 _ _ _ _ _ _
   | exact ih3 _ _ _ _ _ _ _
   | exact LeO.none _
   | refine LeO.ite ?_ ?_
   | refine LeO.bind ?_ (fun _ => ?_)
  ·intro y0 y1 y2 y3 y4 y5
   unfold sequiturlaw32_Few.l1
   repeat' first
   | (with_reducible exact ih0 _ _ _ _ _)
   | (with_reducible exact ih1 _ _ _ _ _ _ _)
   | (with_reducible exact ih2 _ _ _ _ _ _)
   | (with_reducible exact ih3 _ _ _ _ _ _ _)
   | (with_reducible exact LeO.refl _)
   | (with_reducible exact LeO.none _)
   | (with_reducible refine LeO.ite ?_ ?_)
   | (with_reducible refine LeO.bind ?_ (fun _ => ?_))
   | exact ih0 _ _ _ _ _
   | exact ih1 _ _ _ _ _ _ _
   | exact ih2 _ _ _ _ _ _
   | exact ih3 _ _ _ _ _ _ _
   | exact LeO.none _
   | refine LeO.ite ?_ ?_
   | refine LeO.bind ?_ (fun _ => ?_)
  ·intro y0 y1 y2 y3 y4 y5 y6
   unfold sequiturlaw32_Few.j3
   repeat' first
   | (with_reducible exact ih0 _ _ _ _ _)
   | (with_reducible exact ih1 _ _ _ _ _ _ _)
   | (with_reducible exact ih2 _ _ _ _ _ _)
   | (with_reducible exact ih3 _ _ _ _ _ _ _)
   | (with_reducible exact LeO.refl _)
   | (with_reducible exact LeO.none _)
   | (with_reducible refine LeO.ite ?_ ?_)
   | (with_reducible refine LeO.bind ?_ (fun _ => ?_))
   | exact ih0 _ _ _ _ _
   | exact ih1 _ _ _ _ _ _ _
   | exact ih2 _ _ _ _ _ _
   | exact ih3 _ _ _ _ _ _ _
   | exact LeO.none _
   | refine LeO.ite ?_ ?_
   | refine LeO.bind ?_ (fun _ => ?_)
theorem sequiturlaw32_Few.mono : ∀ a0 a1 a2 a3 k, LeO (sequiturlaw32_Few.f k a0 a1 a2 a3) (sequiturlaw32_Few.f (k + 1) a0 a1 a2 a3) := by
 intro a0 a1 a2 a3 k
 obtain ⟨ih0, ih1, ih2, ih3⟩ := sequiturlaw32_Few.mono_l k
 unfold sequiturlaw32_Few.f
 repeat' first
   | (with_reducible exact ih0 _ _ _ _ _)
   | (with_reducible exact ih1 _ _ _ _ _ _ _)
   | (with_reducible exact ih2 _ _ _ _ _ _)
   | (with_reducible exact ih3 _ _ _ _ _ _ _)
   | (with_reducible exact LeO.refl _)
   | (with_reducible exact LeO.none _)
   | (with_reducible refine LeO.ite ?_ ?_)
   | (with_reducible refine LeO.bind ?_ (fun _ => ?_))
   | exact ih0 _ _ _ _ _
   | exact ih1 _ _ _ _ _ _ _
   | exact ih2 _ _ _ _ _ _
   | exact ih3 _ _ _ _ _ _ _
   | exact LeO.none _
   | refine LeO.ite ?_ ?_
   | refine LeO.bind ?_ (fun _ => ?_)
set_option maxHeartbeats 8000000 in
set_option maxRecDepth 100000 in
theorem sequiturlaw32_Few.calls (k : Nat) (A0 : Option Addr) (c0 : Nat) (l0 : List (S70)) (A1 : Option Addr) (c1 : Nat) (l1 : List Int) (A2 : Option Addr) (c2 : Nat) (l2 : List Int) (a3 : Int) (r : Bool) (w : World) (hr0 : Kd.C k70 w A0 l0.length l0) (hc0 : l0.length ≤ c0) (hr1 : Kd.C (Kd.int .i64) w A1 l1.length l1) (hc1 : l1.length ≤ c1) (hr2 : Kd.C (Kd.int .i64) w A2 l2.length l2) (hc2 : l2.length ≤ c2) (h : sequiturlaw32_Few.f k l0 l1 l2 a3 = some r) :
  Calls Try.prog 20 #[.slice A0 l0.length c0, .slice A1 l1.length c1, .slice A2 l2.length c2, .int .i64 a3] w fun e w' => e = .returned (.bool r) ∧ Below w.heap.size w w' := by
 have hu70 := Try.underlying70
 have HR0 := zK hr0
 have HC0 := zK hc0; clear hr0 hc0
 have HR1 := zK hr1
 have HC1 := zK hc1; clear hr1 hc1
 have HR2 := zK hr2
 have HC2 := zK hc2; clear hr2 hc2
 have HB := zK (Below.refl w.heap.size w)
 have H : (if (l0.length : Int) > 20 then (sequiturlaw32_Few.j0 k l0 l1 l2 a3 true) else (if (l1.length : Int) > 10 then (sequiturlaw32_Few.j0 k l0 l1 l2 a3 true) else (sequiturlaw32_Few.j0 k l0 l1 l2 a3 (decide ((l2.length : Int) > 10))))) = some r := h
 clear h
 have HC5 := zK H; clear H
 go_enter Try.func20, Try.ntmps20
 go_upto_region 1 with (fail)
 repeat (go_quiet (fail); go_upto_region 1 with (fail))
 go_cut [26] (fun v26 wc => ∃ (kq : Nat) (x26_4 : Bool), v26 = .bool x26_4 ∧ Aside0 (sequiturlaw32_Few.j0 kq l0 l1 l2 a3 x26_4 = some r) ∧ Aside0 (kq ≤ k) ∧ Aside0 (Below w.heap.size w wc))
 case first =>
  have H := HC5.out; clear HC5
  by_cases c6 : (l0.length : Int) > 20
  ·rw [if_pos c6] at H
   have c6b0 : decide (20 < (l0.length : Int)) = true := decide_eq_true c6
   have c6b1 : decide (20 < l0.length) = true := decide_eq_true (by omega)
   clear c6
   (first | rw [c6b0] | (simp only [i64_w, i32_w]; rw [c6b0]) | skip)
   have H' := zK H; clear H
   go_wp2
   repeat (go_quiet (fail); try go_wp2)
   go_meet
   case rel => exact ⟨_, (true), (by first | rfl | (simp; done) | (simp [*]; done)), H', ⟨by first | omega | exact Nat.le_refl _⟩, ⟨zo HB⟩⟩
  ·rw [if_neg c6] at H
   have c6b0 : decide (20 < (l0.length : Int)) = false := decide_eq_false c6
   have c6b1 : decide (20 < l0.length) = false := decide_eq_false (by omega)
   clear c6
   (first | rw [c6b0] | (simp only [i64_w, i32_w]; rw [c6b0]) | skip)
   by_cases c7 : (l1.length : Int) > 10
   ·rw [if_pos c7] at H
    have c7b0 : decide (10 < (l1.length : Int)) = true := decide_eq_true c7
    have c7b1 : decide (10 < l1.length) = true := decide_eq_true (by omega)
    clear c7
    have H' := zK H; clear H
    go_wp2
    repeat (go_quiet (fail); try go_wp2)
    go_meet
    case rel => exact ⟨_, (true), (by first | rfl | (simp; done) | (simp [*]; done)), H', ⟨by first | omega | exact Nat.le_refl _⟩, ⟨zo HB⟩⟩
   ·rw [if_neg c7] at H
    have c7b0 : decide (10 < (l1.length : Int)) = false := decide_eq_false c7
    have c7b1 : decide (10 < l1.length) = false := decide_eq_false (by omega)
    clear c7
    have H' := zK H; clear H
    go_wp2
    repeat (go_quiet (fail); try go_wp2)
    go_meet
    case rel => exact ⟨_, (decide ((l2.length : Int) > 10)), (by first | rfl | (simp; done) | (simp [*]; done)), H', ⟨by first | omega | exact Nat.le_refl _⟩, ⟨zo HB⟩⟩
 case rest =>
  clear HC5; try clear c1; try clear c2; try clear p2
  try clear c6; try clear c6b0; try clear c6b1; try clear c7; try clear c7b0; try clear c7b1
  obtain ⟨kq, x26_4, rfl, HA, HJ4, HB⟩ := hcut
  cases kq with
  | zero => exact absurd HA.out (by simp [sequiturlaw32_Few.j0])
  | succ kj4 =>
   have H := HA.out; clear HA
   simp only [sequiturlaw32_Few.j0] at H
   by_cases c8 : x26_4 = true
   ·subst c8
    have H1 : (some false) = some r := by rw [if_pos rfl] at H; exact H
    clear H; have H := H1; clear H1
    obtain rfl := Option.some.inj H
    go_wp2
    repeat (go_quiet (fail); try go_wp2)
    go_ret
    exact ⟨by first | rfl | (simp [errW_none, errW_some] <;> rfl) | (simp [*, errW_none, errW_some] <;> rfl), zo HB⟩
   ·replace c8 := Bool.eq_false_iff.mpr c8
    subst c8
    have H1 : (sequiturlaw32_Few.l0 kj4 l0 l1 l2 a3 l0 (l0.length : Int) 0) = some r := by rw [if_neg (show ¬ (false = true) by decide)] at H; exact H
    clear H; have H := H1; clear H1
    have H' := zK H; clear H
    go_wp2
    repeat (go_quiet (fail); try go_wp2)
    go_loopg [29] kj4 (fun kq v29 w' => ∃ (x29_2 : Int), v29 = .int .i64 x29_2 ∧ Aside0 (sequiturlaw32_Few.l0 kq l0 l1 l2 a3 l0 (l0.length : Int) x29_2 = some r) ∧ Aside0 (kq ≤ kj4) ∧ Aside0 (Below w.heap.size w w'))
    case atStart => exact ⟨(0), (by first | rfl | (simp; done) | (simp [*]; done)), H', ⟨Nat.le_refl _⟩, ⟨zo HB⟩⟩
    case round =>
     clear H'; try clear c1; try clear c2; try clear p2
     try clear c6; try clear c6b0; try clear c6b1; try clear c7
     try clear c7b0; try clear c7b1; try clear c8; try clear p2
     obtain ⟨x29_2, rfl, HA, HK2, HB⟩ := hrel
     cases gk with
     | zero => exact absurd HA.out (by simp [sequiturlaw32_Few.l0])
     | succ k2 =>
      have H := HA.out; clear HA
      simp only [sequiturlaw32_Few.l0] at H
      by_cases c9 : x29_2 < (l0.length : Int)
      ·rw [if_pos c9] at H
       have c9b0 : decide (x29_2 < (l0.length : Int)) = true := decide_eq_true c9
       clear c9
       by_cases c10 : 0 ≤ x29_2
       ·rw [if_pos c10] at H
        have c10b0 : decide (0 ≤ x29_2) = true := decide_eq_true c10; clear c10
        by_cases c11 : x29_2 < (l0.length : Int)
        ·rw [if_pos c11] at H
         have c11b0 : decide (x29_2 < (l0.length : Int)) = true := decide_eq_true c11
         clear c11
         by_cases c12 : (((rd_T70 l0 x29_2).f0.f1).length : Int) > 20
         ·rw [if_pos c12] at H
          have c12b0 : decide (20 < (((rd_T70 l0 x29_2).f0.f1).length : Int)) = true := decide_eq_true c12
          have c12b1 : decide (20 < ((rd_T70 l0 x29_2).f0.f1).length) = true := decide_eq_true (by omega)
          clear c12
          obtain rfl := Option.some.inj H
          have p101 : 0 ≤ (x29_2 : Int) := of_decide_eq_true (by first | (with_reducible assumption) | assumption)
          have q101 : x29_2 < (l0.length : Int) := of_decide_eq_true (by first | (with_reducible assumption) | assumption)
          obtain ⟨ad101, A101_1, c101_1, e101, hx101_0, hx101_1, hx101_2, hl101_1, hi101_1⟩ := at_T70 HR0.out x29_2 p101 q101
          cases e101
          replace hx101_0 := (HB.out.cell (World.block_lt_of_cell? w _ hx101_0)).trans hx101_0
          replace hx101_1 := (HB.out.cell (World.block_lt_of_cell? w _ hx101_1)).trans hx101_1
          replace hx101_2 := (HB.out.cell (World.block_lt_of_cell? w _ hx101_2)).trans hx101_2
          have HR101_1 := zK hi101_1
          have HC101_1 := zK hl101_1; clear hi101_1 hl101_1
          replace p101 := eq_true p101
          replace q101 := eq_true q101
          go_wp2_with (first | ((with_reducible refine gate_dst (N := 10) rfl ?_); (try (refine zG (by rfl) ?_; dsimp only)); refine box_event ?hg (N := 10) ?hd (cs := #[.int .i64 0, .slice none 0 0, .bool false]) (t := 70) ?hr ?_; (case hd => rfl); (case hg => rfl); (case hr => first | (go_simp; done) | (go_simp; rfl)); intro gb102 hg w13 hbox hb; have BK102 := zK (hbox); have GW102 := zK ((by rw [hg]; exact (below_size (zo HB)) : w.heap.size ≤ gb102)); have GE102 := zK ((by rw [hg]; exact (below_size (zo HB)) : w.heap.size ≤ gb102)); replace HB := zK (below_step (zo HB) hb); clear hb hbox hg; have hcz14_0 : w13.cell? ⟨gb102, 0, none⟩ = some (.int .i64 0) := (blk_cell BK102.out 0).trans rfl; have hcz14_1 : w13.cell? ⟨gb102, 1, none⟩ = some (.slice none 0 0) := (blk_cell BK102.out 1).trans rfl; have hcz14_2 : w13.cell? ⟨gb102, 2, none⟩ = some (.bool false) := (blk_cell BK102.out 2).trans rfl; have hfz14_0 := blk_frozen BK102.out 0; have hfz14_1 := blk_frozen BK102.out 1; have hfz14_2 := blk_frozen BK102.out 2))
          repeat (go_quiet (first | ((with_reducible refine gate_dst (N := 10) rfl ?_); (try (refine zG (by rfl) ?_; dsimp only)); refine box_event ?hg (N := 10) ?hd (cs := #[.int .i64 0, .slice none 0 0, .bool false]) (t := 70) ?hr ?_; (case hd => rfl); (case hg => rfl); (case hr => first | (go_simp; done) | (go_simp; rfl)); intro gb102 hg w13 hbox hb; have BK102 := zK (hbox); have GW102 := zK ((by rw [hg]; exact (below_size (zo HB)) : w.heap.size ≤ gb102)); have GE102 := zK ((by rw [hg]; exact (below_size (zo HB)) : w.heap.size ≤ gb102)); replace HB := zK (below_step (zo HB) hb); clear hb hbox hg; have hcz14_0 : w13.cell? ⟨gb102, 0, none⟩ = some (.int .i64 0) := (blk_cell BK102.out 0).trans rfl; have hcz14_1 : w13.cell? ⟨gb102, 1, none⟩ = some (.slice none 0 0) := (blk_cell BK102.out 1).trans rfl; have hcz14_2 : w13.cell? ⟨gb102, 2, none⟩ = some (.bool false) := (blk_cell BK102.out 2).trans rfl; have hfz14_0 := blk_frozen BK102.out 0; have hfz14_1 := blk_frozen BK102.out 1; have hfz14_2 := blk_frozen BK102.out 2)); try go_wp2_with (first | ((with_reducible refine gate_dst (N := 10) rfl ?_); (try (refine zG (by rfl) ?_; dsimp only)); refine box_event ?hg (N := 10) ?hd (cs := #[.int .i64 0, .slice none 0 0, .bool false]) (t := 70) ?hr ?_; (case hd => rfl); (case hg => rfl); (case hr => first | (go_simp; done) | (go_simp; rfl)); intro gb102 hg w13 hbox hb; have BK102 := zK (hbox); have GW102 := zK ((by rw [hg]; exact (below_size (zo HB)) : w.heap.size ≤ gb102)); have GE102 := zK ((by rw [hg]; exact (below_size (zo HB)) : w.heap.size ≤ gb102)); replace HB := zK (below_step (zo HB) hb); clear hb hbox hg; have hcz14_0 : w13.cell? ⟨gb102, 0, none⟩ = some (.int .i64 0) := (blk_cell BK102.out 0).trans rfl; have hcz14_1 : w13.cell? ⟨gb102, 1, none⟩ = some (.slice none 0 0) := (blk_cell BK102.out 1).trans rfl; have hcz14_2 : w13.cell? ⟨gb102, 2, none⟩ = some (.bool false) := (blk_cell BK102.out 2).trans rfl; have hfz14_0 := blk_frozen BK102.out 0; have hfz14_1 := blk_frozen BK102.out 1; have hfz14_2 := blk_frozen BK102.out 2)))
          go_ret
          exact ⟨by first | rfl | (simp [errW_none, errW_some] <;> rfl) | (simp [*, errW_none, errW_some] <;> rfl), zo HB⟩
         ·rw [if_neg c12] at H
          have c12b0 : decide (20 < (((rd_T70 l0 x29_2).f0.f1).length : Int)) = false := decide_eq_false c12
          have c12b1 : decide (20 < ((rd_T70 l0 x29_2).f0.f1).length) = false := decide_eq_false (by omega)
          clear c12
          have H' := zK H; clear H
          have p101 : 0 ≤ (x29_2 : Int) := of_decide_eq_true (by first | (with_reducible assumption) | assumption)
          have q101 : x29_2 < (l0.length : Int) := of_decide_eq_true (by first | (with_reducible assumption) | assumption)
          obtain ⟨ad101, A101_1, c101_1, e101, hx101_0, hx101_1, hx101_2, hl101_1, hi101_1⟩ := at_T70 HR0.out x29_2 p101 q101
          cases e101
          replace hx101_0 := (HB.out.cell (World.block_lt_of_cell? w _ hx101_0)).trans hx101_0
          replace hx101_1 := (HB.out.cell (World.block_lt_of_cell? w _ hx101_1)).trans hx101_1
          replace hx101_2 := (HB.out.cell (World.block_lt_of_cell? w _ hx101_2)).trans hx101_2
          have HR101_1 := zK hi101_1
          have HC101_1 := zK hl101_1; clear hi101_1 hl101_1
          replace p101 := eq_true p101
          replace q101 := eq_true q101
          go_wp2_with (first | ((with_reducible refine gate_dst (N := 10) rfl ?_); (try (refine zG (by rfl) ?_; dsimp only)); refine box_event ?hg (N := 10) ?hd (cs := #[.int .i64 0, .slice none 0 0, .bool false]) (t := 70) ?hr ?_; (case hd => rfl); (case hg => rfl); (case hr => first | (go_simp; done) | (go_simp; rfl)); intro gb102 hg w15 hbox hb; have BK102 := zK (hbox); have GW102 := zK ((by rw [hg]; exact (below_size (zo HB)) : w.heap.size ≤ gb102)); have GE102 := zK ((by rw [hg]; exact (below_size (zo HB)) : w.heap.size ≤ gb102)); replace HB := zK (below_step (zo HB) hb); clear hb hbox hg; have hcz16_0 : w15.cell? ⟨gb102, 0, none⟩ = some (.int .i64 0) := (blk_cell BK102.out 0).trans rfl; have hcz16_1 : w15.cell? ⟨gb102, 1, none⟩ = some (.slice none 0 0) := (blk_cell BK102.out 1).trans rfl; have hcz16_2 : w15.cell? ⟨gb102, 2, none⟩ = some (.bool false) := (blk_cell BK102.out 2).trans rfl; have hfz16_0 := blk_frozen BK102.out 0; have hfz16_1 := blk_frozen BK102.out 1; have hfz16_2 := blk_frozen BK102.out 2))
          repeat (go_quiet (first | ((with_reducible refine gate_dst (N := 10) rfl ?_); (try (refine zG (by rfl) ?_; dsimp only)); refine box_event ?hg (N := 10) ?hd (cs := #[.int .i64 0, .slice none 0 0, .bool false]) (t := 70) ?hr ?_; (case hd => rfl); (case hg => rfl); (case hr => first | (go_simp; done) | (go_simp; rfl)); intro gb102 hg w15 hbox hb; have BK102 := zK (hbox); have GW102 := zK ((by rw [hg]; exact (below_size (zo HB)) : w.heap.size ≤ gb102)); have GE102 := zK ((by rw [hg]; exact (below_size (zo HB)) : w.heap.size ≤ gb102)); replace HB := zK (below_step (zo HB) hb); clear hb hbox hg; have hcz16_0 : w15.cell? ⟨gb102, 0, none⟩ = some (.int .i64 0) := (blk_cell BK102.out 0).trans rfl; have hcz16_1 : w15.cell? ⟨gb102, 1, none⟩ = some (.slice none 0 0) := (blk_cell BK102.out 1).trans rfl; have hcz16_2 : w15.cell? ⟨gb102, 2, none⟩ = some (.bool false) := (blk_cell BK102.out 2).trans rfl; have hfz16_0 := blk_frozen BK102.out 0; have hfz16_1 := blk_frozen BK102.out 1; have hfz16_2 := blk_frozen BK102.out 2)); try go_wp2_with (first | ((with_reducible refine gate_dst (N := 10) rfl ?_); (try (refine zG (by rfl) ?_; dsimp only)); refine box_event ?hg (N := 10) ?hd (cs := #[.int .i64 0, .slice none 0 0, .bool false]) (t := 70) ?hr ?_; (case hd => rfl); (case hg => rfl); (case hr => first | (go_simp; done) | (go_simp; rfl)); intro gb102 hg w15 hbox hb; have BK102 := zK (hbox); have GW102 := zK ((by rw [hg]; exact (below_size (zo HB)) : w.heap.size ≤ gb102)); have GE102 := zK ((by rw [hg]; exact (below_size (zo HB)) : w.heap.size ≤ gb102)); replace HB := zK (below_step (zo HB) hb); clear hb hbox hg; have hcz16_0 : w15.cell? ⟨gb102, 0, none⟩ = some (.int .i64 0) := (blk_cell BK102.out 0).trans rfl; have hcz16_1 : w15.cell? ⟨gb102, 1, none⟩ = some (.slice none 0 0) := (blk_cell BK102.out 1).trans rfl; have hcz16_2 : w15.cell? ⟨gb102, 2, none⟩ = some (.bool false) := (blk_cell BK102.out 2).trans rfl; have hfz16_0 := blk_frozen BK102.out 0; have hfz16_1 := blk_frozen BK102.out 1; have hfz16_2 := blk_frozen BK102.out 2)))
          go_roundg k2
          case measure => have := HJ4.out; have := HK2.out; omega
          case rel => exact ⟨(wrap64 (x29_2 + 1)), (by first | rfl | (simp; done) | (simp [*]; done)), H', ⟨by have := HJ4.out; have := HK2.out; omega⟩, ⟨zo HB⟩⟩
        ·rw [if_neg c11] at H
         exact absurd H (by simp)
       ·rw [if_neg c10] at H
        exact absurd H (by simp)
      ·rw [if_neg c9] at H
       have c9b0 : decide (x29_2 < (l0.length : Int)) = false := decide_eq_false c9
       clear c9
       have H' := zK H; clear H
       go_wp2
       repeat (go_quiet (fail); try go_wp2)
       go_loopg [11, 12] k2 (fun kq v11 v12 w' => ∃ (x11_3 : Int) (x12_3 : Int), v11 = .int .i64 x11_3 ∧ v12 = .int .i64 x12_3 ∧ Aside0 (sequiturlaw32_Few.l1 kq l0 l1 l2 a3 x11_3 x12_3 = some r) ∧ Aside0 (kq ≤ k2) ∧ Aside0 (Below w.heap.size w w'))
       case atStart => exact ⟨(1), (0), (by first | rfl | (simp; done) | (simp [*]; done)), (by first | rfl | (simp; done) | (simp [*]; done)), H', ⟨Nat.le_refl _⟩, ⟨zo HB⟩⟩
       case round =>
        clear H'; try clear c1; try clear p1; try clear q1
        try clear hx1; try clear c2; try clear p2; try clear c6
        try clear c6b0; try clear c6b1; try clear p6; try clear c7
        try clear c7b0; try clear c7b1; try clear c8; try clear c9
        try clear c9b0; try clear c10; try clear c10b0; try clear p10
        try clear q10; try clear hx10; try clear c11; try clear c11b0
        try clear c12; try clear c12b0; try clear c12b1; try clear hcz14_0
        try clear hcz14_1; try clear hcz14_2; try clear hcz16_0; try clear hcz16_1
        try clear hcz16_2; try clear hfz14_0; try clear hfz14_1; try clear hfz14_2
        try clear hfz16_0; try clear hfz16_1; try clear hfz16_2; try clear hx101_0
        try clear hx101_1; try clear hx101_2; try clear p101; try clear p2; try clear q101
        obtain ⟨x11_3, x12_3, rfl, rfl, HA, HK3, HB⟩ := hrel
        cases gk with
        | zero => exact absurd HA.out (by simp [sequiturlaw32_Few.l1])
        | succ k3 =>
         have H := HA.out; clear HA
         simp only [sequiturlaw32_Few.l1] at H
         have HC17 := zK H; clear H
         go_upto_region 11 with (fail)
         repeat (go_quiet (fail); go_upto_region 11 with (fail))
         go_cut [48] (fun v48 wc => ∃ (kq : Nat) (x48_16 : Bool), v48 = .bool x48_16 ∧ Aside0 (sequiturlaw32_Few.j3 kq l0 l1 l2 a3 x11_3 x12_3 x48_16 = some r) ∧ Aside0 (kq ≤ k3) ∧ Aside0 (Below w.heap.size w wc))
         case first =>
          have H := HC17.out; clear HC17
          by_cases c18 : x12_3 < (l1.length : Int)
          ·rw [if_pos c18] at H
           have c18b0 : decide (x12_3 < (l1.length : Int)) = true := decide_eq_true c18
           clear c18
           (first | rw [c18b0] | (simp only [i64_w, i32_w]; rw [c18b0]) | skip)
           have H' := zK H; clear H
           go_wp2
           repeat (go_quiet (fail); try go_wp2)
           go_meet
           case rel => exact ⟨_, (decide (x12_3 < (l2.length : Int))), (by first | rfl | (simp; done) | (simp [*]; done)), H', ⟨by have := HJ4.out; have := HK2.out; have := HK3.out; first | omega | exact Nat.le_refl _⟩, ⟨zo HB⟩⟩
          ·rw [if_neg c18] at H
           have c18b0 : decide (x12_3 < (l1.length : Int)) = false := decide_eq_false c18
           clear c18
           (first | rw [c18b0] | (simp only [i64_w, i32_w]; rw [c18b0]) | skip)
           have H' := zK H; clear H
           go_wp2
           repeat (go_quiet (fail); try go_wp2)
           go_meet
           case rel => exact ⟨_, (false), (by first | rfl | (simp; done) | (simp [*]; done)), H', ⟨by have := HJ4.out; have := HK2.out; have := HK3.out; first | omega | exact Nat.le_refl _⟩, ⟨zo HB⟩⟩
         case rest =>
          clear HC17; try clear c1; try clear p1; try clear q1
          try clear hx1; try clear c2; try clear p2; try clear c6
          try clear c6b0; try clear c6b1; try clear p6; try clear c7
          try clear c7b0; try clear c7b1; try clear c8; try clear c9
          try clear c9b0; try clear c10; try clear c10b0; try clear p10
          try clear q10; try clear hx10; try clear c11; try clear c11b0
          try clear c12; try clear c12b0; try clear c12b1; try clear c18
          try clear c18b0; try clear hcz14_0; try clear hcz14_1; try clear hcz14_2
          try clear hcz16_0; try clear hcz16_1; try clear hcz16_2; try clear hfz14_0
          try clear hfz14_1; try clear hfz14_2; try clear hfz16_0; try clear hfz16_1
          try clear hfz16_2; try clear hx101_0; try clear hx101_1; try clear hx101_2
          try clear p1; try clear p10; try clear p101; try clear p2
          try clear p6; try clear q1; try clear q10; try clear q101
          obtain ⟨kq, x48_16, rfl, HA, HJ16, HB⟩ := hcut
          cases kq with
          | zero => exact absurd HA.out (by simp [sequiturlaw32_Few.j3])
          | succ kj16 =>
           have H := HA.out; clear HA
           simp only [sequiturlaw32_Few.j3] at H
           by_cases c19 : x48_16 = true
           ·subst c19
            have H1 : (if 0 ≤ x12_3 then (if x12_3 < (l1.length : Int) then (if x12_3 < (l2.length : Int) then (if (rd l1 x12_3) > (rd l2 x12_3) then (some true) else (if (IntKind.u64.wrap ((IntKind.u64.wrap (rd l2 x12_3)) - (IntKind.u64.wrap (rd l1 x12_3)))) ≥ 100000 then (some (decide ((l0.length : Int) ≤ 20))) else (if x11_3 > 100000 then (some (decide ((l0.length : Int) ≤ 20))) else (sequiturlaw32_Few.l1 kj16 l0 l1 l2 a3 (wrap64 (x11_3 * (wrap64 ((wrap64 (IntKind.u64.wrap ((IntKind.u64.wrap (rd l2 x12_3)) - (IntKind.u64.wrap (rd l1 x12_3))))) + 1)))) (wrap64 (x12_3 + 1)))))) else (none)) else (none)) else (none)) = some r := by rw [if_pos rfl] at H; exact H
            clear H; have H := H1; clear H1
            by_cases c20 : 0 ≤ x12_3
            ·rw [if_pos c20] at H
             have c20b0 : decide (0 ≤ x12_3) = true := decide_eq_true c20; clear c20
             by_cases c21 : x12_3 < (l1.length : Int)
             ·rw [if_pos c21] at H
              have c21b0 : decide (x12_3 < (l1.length : Int)) = true := decide_eq_true c21
              clear c21
              by_cases c22 : x12_3 < (l2.length : Int)
              ·rw [if_pos c22] at H
               have c22b0 : decide (x12_3 < (l2.length : Int)) = true := decide_eq_true c22
               clear c22
               by_cases c23 : (rd l1 x12_3) > (rd l2 x12_3)
               ·rw [if_pos c23] at H
                have c23b0 : decide ((rd l2 x12_3) < (rd l1 x12_3)) = true := decide_eq_true c23
                clear c23
                obtain rfl := Option.some.inj H
                have p103 : 0 ≤ (x12_3 : Int) := of_decide_eq_true (by first | (with_reducible assumption) | assumption)
                have q103 : x12_3 < (l1.length : Int) := of_decide_eq_true (by first | (with_reducible assumption) | assumption)
                obtain ⟨ad103, e103, hx103_0⟩ := Kd.at_int HR1.out x12_3 p103 q103
                cases e103
                replace hx103_0 := (HB.out.cell (World.block_lt_of_cell? w _ hx103_0)).trans hx103_0
                replace p103 := eq_true p103
                replace q103 := eq_true q103
                have p104 : 0 ≤ (x12_3 : Int) := of_decide_eq_true (by first | (with_reducible assumption) | assumption)
                have q104 : x12_3 < (l2.length : Int) := of_decide_eq_true (by first | (with_reducible assumption) | assumption)
                obtain ⟨ad104, e104, hx104_0⟩ := Kd.at_int HR2.out x12_3 p104 q104
                cases e104
                replace hx104_0 := (HB.out.cell (World.block_lt_of_cell? w _ hx104_0)).trans hx104_0
                replace p104 := eq_true p104
                replace q104 := eq_true q104
                go_wp2
                repeat (go_quiet (fail); try go_wp2)
                go_ret
                exact ⟨by first | rfl | (simp [errW_none, errW_some] <;> rfl) | (simp [*, errW_none, errW_some] <;> rfl), zo HB⟩
               ·rw [if_neg c23] at H
                have c23b0 : decide ((rd l2 x12_3) < (rd l1 x12_3)) = false := decide_eq_false c23
                clear c23
                by_cases c24 : (IntKind.u64.wrap ((IntKind.u64.wrap (rd l2 x12_3)) - (IntKind.u64.wrap (rd l1 x12_3)))) ≥ 100000
                ·rw [if_pos c24] at H
                 have c24b0 : decide (100000 ≤ (IntKind.u64.wrap ((IntKind.u64.wrap (rd l2 x12_3)) - (IntKind.u64.wrap (rd l1 x12_3))))) = true := decide_eq_true c24
                 clear c24
                 obtain rfl := Option.some.inj H
                 have p103 : 0 ≤ (x12_3 : Int) := of_decide_eq_true (by first | (with_reducible assumption) | assumption)
                 have q103 : x12_3 < (l1.length : Int) := of_decide_eq_true (by first | (with_reducible assumption) | assumption)
                 obtain ⟨ad103, e103, hx103_0⟩ := Kd.at_int HR1.out x12_3 p103 q103
                 cases e103
                 replace hx103_0 := (HB.out.cell (World.block_lt_of_cell? w _ hx103_0)).trans hx103_0
                 replace p103 := eq_true p103
                 replace q103 := eq_true q103
                 have p104 : 0 ≤ (x12_3 : Int) := of_decide_eq_true (by first | (with_reducible assumption) | assumption)
                 have q104 : x12_3 < (l2.length : Int) := of_decide_eq_true (by first | (with_reducible assumption) | assumption)
                 obtain ⟨ad104, e104, hx104_0⟩ := Kd.at_int HR2.out x12_3 p104 q104
                 cases e104
                 replace hx104_0 := (HB.out.cell (World.block_lt_of_cell? w _ hx104_0)).trans hx104_0
                 replace p104 := eq_true p104
                 replace q104 := eq_true q104
                 have p105 : 0 ≤ (x12_3 : Int) := of_decide_eq_true (by first | (with_reducible assumption) | assumption)
                 have q105 : x12_3 < (l2.length : Int) := of_decide_eq_true (by first | (with_reducible assumption) | assumption)
                 obtain ⟨ad105, e105, hx105_0⟩ := Kd.at_int HR2.out x12_3 p105 q105
                 obtain rfl : ad104 = ad105 := (by injection e105)
                 replace hx105_0 := (HB.out.cell (World.block_lt_of_cell? w _ hx105_0)).trans hx105_0
                 replace p105 := eq_true p105
                 replace q105 := eq_true q105
                 have p106 : 0 ≤ (x12_3 : Int) := of_decide_eq_true (by first | (with_reducible assumption) | assumption)
                 have q106 : x12_3 < (l1.length : Int) := of_decide_eq_true (by first | (with_reducible assumption) | assumption)
                 obtain ⟨ad106, e106, hx106_0⟩ := Kd.at_int HR1.out x12_3 p106 q106
                 obtain rfl : ad103 = ad106 := (by injection e106)
                 replace hx106_0 := (HB.out.cell (World.block_lt_of_cell? w _ hx106_0)).trans hx106_0
                 replace p106 := eq_true p106
                 replace q106 := eq_true q106
                 go_wp2
                 repeat (go_quiet (fail); try go_wp2)
                 go_ret
                 exact ⟨by first | rfl | (simp [errW_none, errW_some] <;> rfl) | (simp [*, errW_none, errW_some] <;> rfl), zo HB⟩
                ·rw [if_neg c24] at H
                 have c24b0 : decide (100000 ≤ (IntKind.u64.wrap ((IntKind.u64.wrap (rd l2 x12_3)) - (IntKind.u64.wrap (rd l1 x12_3))))) = false := decide_eq_false c24
                 clear c24
                 by_cases c25 : x11_3 > 100000
                 ·rw [if_pos c25] at H
                  have c25b0 : decide (100000 < x11_3) = true := decide_eq_true c25; clear c25
                  obtain rfl := Option.some.inj H
                  have p103 : 0 ≤ (x12_3 : Int) := of_decide_eq_true (by first | (with_reducible assumption) | assumption)
                  have q103 : x12_3 < (l1.length : Int) := of_decide_eq_true (by first | (with_reducible assumption) | assumption)
                  obtain ⟨ad103, e103, hx103_0⟩ := Kd.at_int HR1.out x12_3 p103 q103
                  cases e103
                  replace hx103_0 := (HB.out.cell (World.block_lt_of_cell? w _ hx103_0)).trans hx103_0
                  replace p103 := eq_true p103
                  replace q103 := eq_true q103
                  have p104 : 0 ≤ (x12_3 : Int) := of_decide_eq_true (by first | (with_reducible assumption) | assumption)
                  have q104 : x12_3 < (l2.length : Int) := of_decide_eq_true (by first | (with_reducible assumption) | assumption)
                  obtain ⟨ad104, e104, hx104_0⟩ := Kd.at_int HR2.out x12_3 p104 q104
                  cases e104
                  replace hx104_0 := (HB.out.cell (World.block_lt_of_cell? w _ hx104_0)).trans hx104_0
                  replace p104 := eq_true p104
                  replace q104 := eq_true q104
                  have p105 : 0 ≤ (x12_3 : Int) := of_decide_eq_true (by first | (with_reducible assumption) | assumption)
                  have q105 : x12_3 < (l2.length : Int) := of_decide_eq_true (by first | (with_reducible assumption) | assumption)
                  obtain ⟨ad105, e105, hx105_0⟩ := Kd.at_int HR2.out x12_3 p105 q105
                  obtain rfl : ad104 = ad105 := (by injection e105)
                  replace hx105_0 := (HB.out.cell (World.block_lt_of_cell? w _ hx105_0)).trans hx105_0
                  replace p105 := eq_true p105
                  replace q105 := eq_true q105
                  have p106 : 0 ≤ (x12_3 : Int) := of_decide_eq_true (by first | (with_reducible assumption) | assumption)
                  have q106 : x12_3 < (l1.length : Int) := of_decide_eq_true (by first | (with_reducible assumption) | assumption)
                  obtain ⟨ad106, e106, hx106_0⟩ := Kd.at_int HR1.out x12_3 p106 q106
                  obtain rfl : ad103 = ad106 := (by injection e106)
                  replace hx106_0 := (HB.out.cell (World.block_lt_of_cell? w _ hx106_0)).trans hx106_0
                  replace p106 := eq_true p106
                  replace q106 := eq_true q106
                  go_wp2
                  repeat (go_quiet (fail); try go_wp2)
                  go_ret
                  exact ⟨by first | rfl | (simp [errW_none, errW_some] <;> rfl) | (simp [*, errW_none, errW_some] <;> rfl), zo HB⟩
                 ·rw [if_neg c25] at H
                  have c25b0 : decide (100000 < x11_3) = false := decide_eq_false c25
                  clear c25
                  have H' := zK H; clear H
                  have p103 : 0 ≤ (x12_3 : Int) := of_decide_eq_true (by first | (with_reducible assumption) | assumption)
                  have q103 : x12_3 < (l1.length : Int) := of_decide_eq_true (by first | (with_reducible assumption) | assumption)
                  obtain ⟨ad103, e103, hx103_0⟩ := Kd.at_int HR1.out x12_3 p103 q103
                  cases e103
                  replace hx103_0 := (HB.out.cell (World.block_lt_of_cell? w _ hx103_0)).trans hx103_0
                  replace p103 := eq_true p103
                  replace q103 := eq_true q103
                  have p104 : 0 ≤ (x12_3 : Int) := of_decide_eq_true (by first | (with_reducible assumption) | assumption)
                  have q104 : x12_3 < (l2.length : Int) := of_decide_eq_true (by first | (with_reducible assumption) | assumption)
                  obtain ⟨ad104, e104, hx104_0⟩ := Kd.at_int HR2.out x12_3 p104 q104
                  cases e104
                  replace hx104_0 := (HB.out.cell (World.block_lt_of_cell? w _ hx104_0)).trans hx104_0
                  replace p104 := eq_true p104
                  replace q104 := eq_true q104
                  have p105 : 0 ≤ (x12_3 : Int) := of_decide_eq_true (by first | (with_reducible assumption) | assumption)
                  have q105 : x12_3 < (l2.length : Int) := of_decide_eq_true (by first | (with_reducible assumption) | assumption)
                  obtain ⟨ad105, e105, hx105_0⟩ := Kd.at_int HR2.out x12_3 p105 q105
                  obtain rfl : ad104 = ad105 := (by injection e105)
                  replace hx105_0 := (HB.out.cell (World.block_lt_of_cell? w _ hx105_0)).trans hx105_0
                  replace p105 := eq_true p105
                  replace q105 := eq_true q105
                  have p106 : 0 ≤ (x12_3 : Int) := of_decide_eq_true (by first | (with_reducible assumption) | assumption)
                  have q106 : x12_3 < (l1.length : Int) := of_decide_eq_true (by first | (with_reducible assumption) | assumption)
                  obtain ⟨ad106, e106, hx106_0⟩ := Kd.at_int HR1.out x12_3 p106 q106
                  obtain rfl : ad103 = ad106 := (by injection e106)
                  replace hx106_0 := (HB.out.cell (World.block_lt_of_cell? w _ hx106_0)).trans hx106_0
                  replace p106 := eq_true p106
                  replace q106 := eq_true q106
                  go_wp2
                  repeat (go_quiet (fail); try go_wp2)
                  go_roundg kj16
                  case measure => have := HJ4.out; have := HK2.out; have := HK3.out; have := HJ16.out; omega
                  case rel => exact ⟨(wrap64 (x11_3 * (wrap64 ((wrap64 (IntKind.u64.wrap ((IntKind.u64.wrap (rd l2 x12_3)) - (IntKind.u64.wrap (rd l1 x12_3))))) + 1)))), (wrap64 (x12_3 + 1)), (by first | rfl | (simp; done) | (simp [*]; done)), (by first | rfl | (simp; done) | (simp [*]; done)), H', ⟨by have := HJ4.out; have := HK2.out; have := HK3.out; have := HJ16.out; omega⟩, ⟨zo HB⟩⟩
              ·rw [if_neg c22] at H
               exact absurd H (by simp)
             ·rw [if_neg c21] at H
              exact absurd H (by simp)
            ·rw [if_neg c20] at H
             exact absurd H (by simp)
           ·replace c19 := Bool.eq_false_iff.mpr c19
            subst c19
            have H1 : (if x11_3 ≤ a3 then (some true) else (some (decide (x11_3 > 65536)))) = some r := by rw [if_neg (show ¬ (false = true) by decide)] at H; exact H
            clear H; have H := H1; clear H1
            by_cases c26 : x11_3 ≤ a3
            ·rw [if_pos c26] at H
             have c26b0 : decide (x11_3 ≤ a3) = true := decide_eq_true c26; clear c26
             obtain rfl := Option.some.inj H
             go_wp2
             repeat (go_quiet (fail); try go_wp2)
             go_ret
             exact ⟨by first | rfl | (simp [errW_none, errW_some] <;> rfl) | (simp [*, errW_none, errW_some] <;> rfl), zo HB⟩
            ·rw [if_neg c26] at H
             have c26b0 : decide (x11_3 ≤ a3) = false := decide_eq_false c26; clear c26
             obtain rfl := Option.some.inj H
             go_wp2
             repeat (go_quiet (fail); try go_wp2)
             go_ret
             exact ⟨by first | rfl | (simp [errW_none, errW_some] <;> rfl) | (simp [*, errW_none, errW_some] <;> rfl), zo HB⟩

-- NOT PRINTED: function 52 (slices_Clone_int64_int64)

-- NOT PRINTED: function 27 (box_All)

/-! ### lin_Right: function 100 -/
def lin_Right.l0 : Nat → Int → List (S68) → Int → Int → Option (Int)
 | 0, _, _, _, _ => none
 | k + 1, x3, x7, x8, x9 => if x9 < x8 then (if 0 ≤ x9 then (if x9 < (x7.length : Int) then (if ((rd_T68 x7 x9).f0) ≤ x3 then (some 1) else (if ((rd_T68 x7 x9).f0) ≥ 64 then (some 1) else (if ((rd_T68 x7 x9).f1) = 0 then (some 1) else (lin_Right.l0 k ((rd_T68 x7 x9).f0) x7 x8 (wrap64 (x9 + 1)))))) else (none)) else (none)) else (some 0)
def lin_Right.f (k : Nat) (a0_0 : Int) (l0_1 : List (S68)) : Option (Int) := lin_Right.l0 k (-1) l0_1 (l0_1.length : Int) 0
theorem lin_Right.mono_l : ∀ k, (∀ y0 y1 y2 y3, LeO (lin_Right.l0 k y0 y1 y2 y3) (lin_Right.l0 (k + 1) y0 y1 y2 y3))
 | 0 => fun _ _ _ _ r h => by simp [lin_Right.l0] at h
 | k + 1 => by
  have ih0 := lin_Right.mono_l k
  ·intro y0 y1 y2 y3
   unfold lin_Right.l0
   repeat' first
   | (with_reducible exact ih0 _ _ _ _)
   | (with_reducible exact LeO.refl _)
   | (with_reducible exact LeO.none _)
   | (with_reducible refine LeO.ite ?_ ?_)
   | (with_reducible refine LeO.bind ?_ (fun _ => ?_))
   | exact ih0 _ _ _ _
   | exact LeO.none _
   | refine LeO.ite ?_ ?_
   | refine LeO.bind ?_ (fun _ => ?_)
theorem lin_Right.mono : ∀ a0 a1 k, LeO (lin_Right.f k a0 a1) (lin_Right.f (k + 1) a0 a1) := by
 intro a0 a1 k
 have ih0 := lin_Right.mono_l k
 unfold lin_Right.f
 repeat' first
   | (with_reducible exact ih0 _ _ _ _)
   | (with_reducible exact LeO.refl _)
   | (with_reducible exact LeO.none _)
   | (with_reducible refine LeO.ite ?_ ?_)
   | (with_reducible refine LeO.bind ?_ (fun _ => ?_))
   | exact ih0 _ _ _ _
   | exact LeO.none _
   | refine LeO.ite ?_ ?_
   | refine LeO.bind ?_ (fun _ => ?_)
set_option maxHeartbeats 8000000 in
set_option maxRecDepth 100000 in
theorem lin_Right.calls (k : Nat) (a0_0 : Int) (A0_1 : Option Addr) (c0_1 : Nat) (l0_1 : List (S68)) (r : Int) (w : World) (hr0_1 : Kd.C k68 w A0_1 l0_1.length l0_1) (hc0_1 : l0_1.length ≤ c0_1) (h : lin_Right.f k a0_0 l0_1 = some r) :
  Calls Try.prog 100 #[.agg #[.int .i64 a0_0, .slice A0_1 l0_1.length c0_1]] w fun e w' => e = .returned (.int .i64 r) ∧ Below w.heap.size w w' := by
 have hu62 := Try.underlying62
 have hu68 := Try.underlying68
 have HR0_1 := zK hr0_1
 have HC0_1 := zK hc0_1; clear hr0_1 hc0_1
 have HB := zK (Below.refl w.heap.size w)
 have H : (lin_Right.l0 k (-1) l0_1 (l0_1.length : Int) 0) = some r := h
 clear h
 have H' := zK H; clear H
 go_enter Try.func100, Try.ntmps100
 go_wp2_with (first | ((with_reducible refine gate_dst (N := 1) rfl ?_); refine box_event ?hg (N := 1) ?hd (cs := #[.int .i64 a0_0, .slice A0_1 l0_1.length c0_1]) (t := 62) ?hr ?_; (case hd => rfl); (case hg => rfl); (case hr => first | (go_simp; done) | (go_simp; rfl)); intro gb107 hg w2 hbox hb; have BK107 := zK (hbox); have GW107 := zK ((by rw [hg]; exact (below_size (zo HB)) : w.heap.size ≤ gb107)); have GE107 := zK ((by rw [hg]; exact (below_size (zo HB)) : w.heap.size ≤ gb107)); replace HB := zK (below_step (zo HB) hb); clear hb hbox hg; have hcz3_0 : w2.cell? ⟨gb107, 0, none⟩ = some (.int .i64 a0_0) := (blk_cell BK107.out 0).trans rfl; have hcz3_1 : w2.cell? ⟨gb107, 1, none⟩ = some (.slice A0_1 l0_1.length c0_1) := (blk_cell BK107.out 1).trans rfl; have hfz3_0 := blk_frozen BK107.out 0; have hfz3_1 := blk_frozen BK107.out 1))
 go_loopg [3, 9] k (fun kq v3 v9 w' => ∃ (x3_1 : Int) (x9_1 : Int), v3 = .int .i64 x3_1 ∧ v9 = .int .i64 x9_1 ∧ Aside0 (lin_Right.l0 kq x3_1 l0_1 (l0_1.length : Int) x9_1 = some r) ∧ Aside0 (kq ≤ k) ∧ Aside0 (w'.heap[gb107]? = some (.cells #[.int .i64 a0_0, (.slice A0_1 l0_1.length c0_1)] 62 (0, 0))) ∧ Aside0 (Below w.heap.size w w'))
 case atStart => exact ⟨((-1)), (0), (by first | rfl | (simp; done) | (simp [*]; done)), (by first | rfl | (simp; done) | (simp [*]; done)), H', ⟨Nat.le_refl _⟩, ⟨zb BK107⟩, ⟨zo HB⟩⟩
 case round =>
  clear H'; try clear c1; try clear p2; try clear hcz3_0
  try clear hcz3_1; try clear hfz3_0; try clear hfz3_1
  obtain ⟨x3_1, x9_1, rfl, rfl, HA, HK1, BK107, HB⟩ := hrel
  cases gk with
  | zero => exact absurd HA.out (by simp [lin_Right.l0])
  | succ k1 =>
   have H := HA.out; clear HA
   simp only [lin_Right.l0] at H
   by_cases c4 : x9_1 < (l0_1.length : Int)
   ·rw [if_pos c4] at H
    have c4b0 : decide (x9_1 < (l0_1.length : Int)) = true := decide_eq_true c4
    clear c4
    by_cases c5 : 0 ≤ x9_1
    ·rw [if_pos c5] at H
     have c5b0 : decide (0 ≤ x9_1) = true := decide_eq_true c5; clear c5
     by_cases c6 : x9_1 < (l0_1.length : Int)
     ·rw [if_pos c6] at H
      have c6b0 : decide (x9_1 < (l0_1.length : Int)) = true := decide_eq_true c6
      clear c6
      by_cases c7 : ((rd_T68 l0_1 x9_1).f0) ≤ x3_1
      ·rw [if_pos c7] at H
       have c7b0 : decide (((rd_T68 l0_1 x9_1).f0) ≤ x3_1) = true := decide_eq_true c7
       clear c7
       obtain rfl := Option.some.inj H
       have p108 : 0 ≤ (x9_1 : Int) := of_decide_eq_true (by first | (with_reducible assumption) | assumption)
       have q108 : x9_1 < (l0_1.length : Int) := of_decide_eq_true (by first | (with_reducible assumption) | assumption)
       obtain ⟨ad108, e108, hx108_0, hx108_1⟩ := at_T68 HR0_1.out x9_1 p108 q108
       cases e108
       replace hx108_0 := (HB.out.cell (World.block_lt_of_cell? w _ hx108_0)).trans hx108_0
       replace hx108_1 := (HB.out.cell (World.block_lt_of_cell? w _ hx108_1)).trans hx108_1
       replace p108 := eq_true p108
       replace q108 := eq_true q108
       go_wp2_with (first | ((with_reducible refine gate_dst (N := 5) rfl ?_); refine box_event ?hg (N := 5) ?hd (cs := #[.int .i64 0, .int .i64 0]) (t := 68) ?hr ?_; (case hd => rfl); (case hg => rfl); (case hr => first | (go_simp; done) | (go_simp; rfl)); intro gb109 hg w8 hbox hb; have BK109 := zK (hbox); have GW109 := zK ((by rw [hg]; exact (below_size (zo HB)) : w.heap.size ≤ gb109)); have GE109 := zK ((by rw [hg]; exact (below_size (zo HB)) : w.heap.size ≤ gb109)); replace HB := zK (below_step (zo HB) hb); have NB107_109 := zK ((by rw [hg]; exact Nat.ne_of_lt (blk_lt (g := gb107) (o := .cells #[.int .i64 a0_0, .slice (some ad108) l0_1.length c0_1] 62 (0, 0)) (zb BK107)) : gb107 ≠ gb109)); have NB109_107 := zK ((by rw [hg]; exact Nat.ne_of_gt (blk_lt (g := gb107) (o := .cells #[.int .i64 a0_0, .slice (some ad108) l0_1.length c0_1] 62 (0, 0)) (zb BK107)) : gb109 ≠ gb107)); replace BK107 := zK (blk_below (g := gb107) (o := .cells #[.int .i64 a0_0, .slice (some ad108) l0_1.length c0_1] 62 (0, 0)) (zb BK107) hb); clear hb hbox hg; have hnb9 := NB109_107.out; have hnc9 := NB107_109.out; have hcz10_0 : w8.cell? ⟨gb109, 0, none⟩ = some (.int .i64 0) := (blk_cell BK109.out 0).trans rfl; have hcz10_1 : w8.cell? ⟨gb109, 1, none⟩ = some (.int .i64 0) := (blk_cell BK109.out 1).trans rfl; have hfz10_0 := blk_frozen BK109.out 0; have hfz10_1 := blk_frozen BK109.out 1))
       go_ret
       exact ⟨by first | rfl | (simp [errW_none, errW_some] <;> rfl) | (simp [*, errW_none, errW_some] <;> rfl), zo HB⟩
      ·rw [if_neg c7] at H
       have c7b0 : decide (((rd_T68 l0_1 x9_1).f0) ≤ x3_1) = false := decide_eq_false c7
       clear c7
       by_cases c11 : ((rd_T68 l0_1 x9_1).f0) ≥ 64
       ·rw [if_pos c11] at H
        have c11b0 : decide (64 ≤ ((rd_T68 l0_1 x9_1).f0)) = true := decide_eq_true c11
        clear c11
        obtain rfl := Option.some.inj H
        have p108 : 0 ≤ (x9_1 : Int) := of_decide_eq_true (by first | (with_reducible assumption) | assumption)
        have q108 : x9_1 < (l0_1.length : Int) := of_decide_eq_true (by first | (with_reducible assumption) | assumption)
        obtain ⟨ad108, e108, hx108_0, hx108_1⟩ := at_T68 HR0_1.out x9_1 p108 q108
        cases e108
        replace hx108_0 := (HB.out.cell (World.block_lt_of_cell? w _ hx108_0)).trans hx108_0
        replace hx108_1 := (HB.out.cell (World.block_lt_of_cell? w _ hx108_1)).trans hx108_1
        replace p108 := eq_true p108
        replace q108 := eq_true q108
        go_wp2_with (first | ((with_reducible refine gate_dst (N := 5) rfl ?_); refine box_event ?hg (N := 5) ?hd (cs := #[.int .i64 0, .int .i64 0]) (t := 68) ?hr ?_; (case hd => rfl); (case hg => rfl); (case hr => first | (go_simp; done) | (go_simp; rfl)); intro gb109 hg w12 hbox hb; have BK109 := zK (hbox); have GW109 := zK ((by rw [hg]; exact (below_size (zo HB)) : w.heap.size ≤ gb109)); have GE109 := zK ((by rw [hg]; exact (below_size (zo HB)) : w.heap.size ≤ gb109)); replace HB := zK (below_step (zo HB) hb); have NB107_109 := zK ((by rw [hg]; exact Nat.ne_of_lt (blk_lt (g := gb107) (o := .cells #[.int .i64 a0_0, .slice (some ad108) l0_1.length c0_1] 62 (0, 0)) (zb BK107)) : gb107 ≠ gb109)); have NB109_107 := zK ((by rw [hg]; exact Nat.ne_of_gt (blk_lt (g := gb107) (o := .cells #[.int .i64 a0_0, .slice (some ad108) l0_1.length c0_1] 62 (0, 0)) (zb BK107)) : gb109 ≠ gb107)); replace BK107 := zK (blk_below (g := gb107) (o := .cells #[.int .i64 a0_0, .slice (some ad108) l0_1.length c0_1] 62 (0, 0)) (zb BK107) hb); clear hb hbox hg; have hnb13 := NB109_107.out; have hnc13 := NB107_109.out; have hcz14_0 : w12.cell? ⟨gb109, 0, none⟩ = some (.int .i64 0) := (blk_cell BK109.out 0).trans rfl; have hcz14_1 : w12.cell? ⟨gb109, 1, none⟩ = some (.int .i64 0) := (blk_cell BK109.out 1).trans rfl; have hfz14_0 := blk_frozen BK109.out 0; have hfz14_1 := blk_frozen BK109.out 1))
        go_ret
        exact ⟨by first | rfl | (simp [errW_none, errW_some] <;> rfl) | (simp [*, errW_none, errW_some] <;> rfl), zo HB⟩
       ·rw [if_neg c11] at H
        have c11b0 : decide (64 ≤ ((rd_T68 l0_1 x9_1).f0)) = false := decide_eq_false c11
        clear c11
        by_cases c15 : ((rd_T68 l0_1 x9_1).f1) = 0
        ·rw [if_pos c15] at H
         have c15b0 : (((rd_T68 l0_1 x9_1).f1) == 0) = true := beq_iff_eq.mpr c15
         have c15b1 : (((rd_T68 l0_1 x9_1).f1) != 0) = false := bne_eq_false_iff_eq.mpr c15
         clear c15
         obtain rfl := Option.some.inj H
         have p108 : 0 ≤ (x9_1 : Int) := of_decide_eq_true (by first | (with_reducible assumption) | assumption)
         have q108 : x9_1 < (l0_1.length : Int) := of_decide_eq_true (by first | (with_reducible assumption) | assumption)
         obtain ⟨ad108, e108, hx108_0, hx108_1⟩ := at_T68 HR0_1.out x9_1 p108 q108
         cases e108
         replace hx108_0 := (HB.out.cell (World.block_lt_of_cell? w _ hx108_0)).trans hx108_0
         replace hx108_1 := (HB.out.cell (World.block_lt_of_cell? w _ hx108_1)).trans hx108_1
         replace p108 := eq_true p108
         replace q108 := eq_true q108
         go_wp2_with (first | ((with_reducible refine gate_dst (N := 5) rfl ?_); refine box_event ?hg (N := 5) ?hd (cs := #[.int .i64 0, .int .i64 0]) (t := 68) ?hr ?_; (case hd => rfl); (case hg => rfl); (case hr => first | (go_simp; done) | (go_simp; rfl)); intro gb109 hg w16 hbox hb; have BK109 := zK (hbox); have GW109 := zK ((by rw [hg]; exact (below_size (zo HB)) : w.heap.size ≤ gb109)); have GE109 := zK ((by rw [hg]; exact (below_size (zo HB)) : w.heap.size ≤ gb109)); replace HB := zK (below_step (zo HB) hb); have NB107_109 := zK ((by rw [hg]; exact Nat.ne_of_lt (blk_lt (g := gb107) (o := .cells #[.int .i64 a0_0, .slice (some ad108) l0_1.length c0_1] 62 (0, 0)) (zb BK107)) : gb107 ≠ gb109)); have NB109_107 := zK ((by rw [hg]; exact Nat.ne_of_gt (blk_lt (g := gb107) (o := .cells #[.int .i64 a0_0, .slice (some ad108) l0_1.length c0_1] 62 (0, 0)) (zb BK107)) : gb109 ≠ gb107)); replace BK107 := zK (blk_below (g := gb107) (o := .cells #[.int .i64 a0_0, .slice (some ad108) l0_1.length c0_1] 62 (0, 0)) (zb BK107) hb); clear hb hbox hg; have hnb17 := NB109_107.out; have hnc17 := NB107_109.out; have hcz18_0 : w16.cell? ⟨gb109, 0, none⟩ = some (.int .i64 0) := (blk_cell BK109.out 0).trans rfl; have hcz18_1 : w16.cell? ⟨gb109, 1, none⟩ = some (.int .i64 0) := (blk_cell BK109.out 1).trans rfl; have hfz18_0 := blk_frozen BK109.out 0; have hfz18_1 := blk_frozen BK109.out 1))
         go_ret
         exact ⟨by first | rfl | (simp [errW_none, errW_some] <;> rfl) | (simp [*, errW_none, errW_some] <;> rfl), zo HB⟩
        ·rw [if_neg c15] at H
         have c15b0 : (((rd_T68 l0_1 x9_1).f1) == 0) = false := beq_eq_false_iff_ne.mpr c15
         have c15b1 : (((rd_T68 l0_1 x9_1).f1) != 0) = true := bne_iff_ne.mpr c15
         have H' := zK H; clear H
         have p108 : 0 ≤ (x9_1 : Int) := of_decide_eq_true (by first | (with_reducible assumption) | assumption)
         have q108 : x9_1 < (l0_1.length : Int) := of_decide_eq_true (by first | (with_reducible assumption) | assumption)
         obtain ⟨ad108, e108, hx108_0, hx108_1⟩ := at_T68 HR0_1.out x9_1 p108 q108
         cases e108
         replace hx108_0 := (HB.out.cell (World.block_lt_of_cell? w _ hx108_0)).trans hx108_0
         replace hx108_1 := (HB.out.cell (World.block_lt_of_cell? w _ hx108_1)).trans hx108_1
         replace p108 := eq_true p108
         replace q108 := eq_true q108
         go_wp2_with (first | ((with_reducible refine gate_dst (N := 5) rfl ?_); refine box_event ?hg (N := 5) ?hd (cs := #[.int .i64 0, .int .i64 0]) (t := 68) ?hr ?_; (case hd => rfl); (case hg => rfl); (case hr => first | (go_simp; done) | (go_simp; rfl)); intro gb109 hg w19 hbox hb; have BK109 := zK (hbox); have GW109 := zK ((by rw [hg]; exact (below_size (zo HB)) : w.heap.size ≤ gb109)); have GE109 := zK ((by rw [hg]; exact (below_size (zo HB)) : w.heap.size ≤ gb109)); replace HB := zK (below_step (zo HB) hb); have NB107_109 := zK ((by rw [hg]; exact Nat.ne_of_lt (blk_lt (g := gb107) (o := .cells #[.int .i64 a0_0, .slice (some ad108) l0_1.length c0_1] 62 (0, 0)) (zb BK107)) : gb107 ≠ gb109)); have NB109_107 := zK ((by rw [hg]; exact Nat.ne_of_gt (blk_lt (g := gb107) (o := .cells #[.int .i64 a0_0, .slice (some ad108) l0_1.length c0_1] 62 (0, 0)) (zb BK107)) : gb109 ≠ gb107)); replace BK107 := zK (blk_below (g := gb107) (o := .cells #[.int .i64 a0_0, .slice (some ad108) l0_1.length c0_1] 62 (0, 0)) (zb BK107) hb); clear hb hbox hg; have hnb20 := NB109_107.out; have hnc20 := NB107_109.out; have hcz21_0 : w19.cell? ⟨gb109, 0, none⟩ = some (.int .i64 0) := (blk_cell BK109.out 0).trans rfl; have hcz21_1 : w19.cell? ⟨gb109, 1, none⟩ = some (.int .i64 0) := (blk_cell BK109.out 1).trans rfl; have hfz21_0 := blk_frozen BK109.out 0; have hfz21_1 := blk_frozen BK109.out 1))
         go_roundg k1
         case measure => have := HK1.out; omega
         case rel => exact ⟨((rd_T68 l0_1 x9_1).f0), (wrap64 (x9_1 + 1)), (by first | rfl | (simp; done) | (simp [*]; done)), (by first | rfl | (simp; done) | (simp [*]; done)), H', ⟨by have := HK1.out; omega⟩, ⟨zb BK107⟩, ⟨zo HB⟩⟩
     ·rw [if_neg c6] at H
      exact absurd H (by simp)
    ·rw [if_neg c5] at H
     exact absurd H (by simp)
   ·rw [if_neg c4] at H
    have c4b0 : decide (x9_1 < (l0_1.length : Int)) = false := decide_eq_false c4
    clear c4
    obtain rfl := Option.some.inj H
    go_wp2
    go_ret
    exact ⟨by first | rfl | (simp [errW_none, errW_some] <;> rfl) | (simp [*, errW_none, errW_some] <;> rfl), zo HB⟩

/-! ### lin_right_1: function 106 -/
def lin_right_1.f (k : Nat) (a0_0 : Int) (l0_1 : List (S68)) : Option (Bool) := (lin_Right.f k a0_0 l0_1).bind fun t111 => (some (t111 != 0))
theorem lin_right_1.mono : ∀ a0 a1 k, LeO (lin_right_1.f k a0 a1) (lin_right_1.f (k + 1) a0 a1) := by
 intro a0 a1 k
 unfold lin_right_1.f
 repeat' first
   | (with_reducible exact lin_Right.mono _ _ _)
   | (with_reducible exact LeO.refl _)
   | (with_reducible exact LeO.none _)
   | (with_reducible refine LeO.ite ?_ ?_)
   | (with_reducible refine LeO.bind ?_ (fun _ => ?_))
   | exact lin_Right.mono _ _ _
   | exact LeO.none _
   | refine LeO.ite ?_ ?_
   | refine LeO.bind ?_ (fun _ => ?_)
set_option maxHeartbeats 8000000 in
set_option maxRecDepth 100000 in
theorem lin_right_1.calls (k : Nat) (a0_0 : Int) (A0_1 : Option Addr) (c0_1 : Nat) (l0_1 : List (S68)) (r : Bool) (w : World) (hr0_1 : Kd.C k68 w A0_1 l0_1.length l0_1) (hc0_1 : l0_1.length ≤ c0_1) (h : lin_right_1.f k a0_0 l0_1 = some r) :
  Calls Try.prog 106 #[.agg #[.int .i64 a0_0, .slice A0_1 l0_1.length c0_1]] w fun e w' => e = .returned (.bool r) ∧ Below w.heap.size w w' := by
 have hu62 := Try.underlying62
 have HR0_1 := zK hr0_1
 have HC0_1 := zK hc0_1; clear hr0_1 hc0_1
 have HB := zK (Below.refl w.heap.size w)
 have H : ((lin_Right.f k a0_0 l0_1).bind fun t111 => (some (t111 != 0))) = some r := h
 clear h; replace H := Option.bind_eq_some_iff.mp H
 obtain ⟨t111, A20, H⟩ := H; replace H : (some (t111 != 0)) = some r := H
 have A2 := zK A20; clear A20
 obtain rfl := Option.some.inj H
 go_enter Try.func106, Try.ntmps106
 go_wp2_with (first | ((with_reducible refine gate_dst (N := 1) rfl ?_); refine box_event ?hg (N := 1) ?hd (cs := #[.int .i64 a0_0, .slice A0_1 l0_1.length c0_1]) (t := 62) ?hr ?_; (case hd => rfl); (case hg => rfl); (case hr => first | (go_simp; done) | (go_simp; rfl)); intro gb110 hg w3 hbox hb; have BK110 := zK (hbox); have GW110 := zK ((by rw [hg]; exact (below_size (zo HB)) : w.heap.size ≤ gb110)); have GE110 := zK ((by rw [hg]; exact (below_size (zo HB)) : w.heap.size ≤ gb110)); replace HB := zK (below_step (zo HB) hb); clear hb hbox hg; have hcz4_0 : w3.cell? ⟨gb110, 0, none⟩ = some (.int .i64 a0_0) := (blk_cell BK110.out 0).trans rfl; have hcz4_1 : w3.cell? ⟨gb110, 1, none⟩ = some (.slice A0_1 l0_1.length c0_1) := (blk_cell BK110.out 1).trans rfl; have hfz4_0 := blk_frozen BK110.out 0; have hfz4_1 := blk_frozen BK110.out 1) | ((with_reducible refine zC (f := 100) rfl ?_); refine goesL_ (some 4) rfl rfl Try.func100 (by kernel_rfl) rfl #[.agg #[.int .i64 a0_0, .slice A0_1 l0_1.length c0_1]] rfl (by (try simp only [List.map_toArray, List.map_cons, List.map_nil]); first | done | rfl | (simp only [List.length_drop, List.length_take]; rfl)) ?_; (with_reducible refine (lin_Right.calls k a0_0 _ _ l0_1 t111 _ ?side1 ?side2 A2.out).mono ?_); (case side1 => repeat (first | exact (Kd.C_below HR0_1.out HB.out) | (with_reducible refine cA ?_ _) | (with_reducible refine cN ?_ _) | (with_reducible refine cD ?_))); (case side2 => exact HC0_1.out); rintro e w5 ⟨rfl, hb⟩; refine ⟨_, rfl, ?_⟩; replace BK110 := zK (blk_below (g := gb110) (o := .cells #[.int .i64 a0_0, .slice A0_1 l0_1.length c0_1] 62 (0, 0)) (zb BK110) hb); replace HB := zK (below_step (zo HB) hb); (try clear hb); (try clear hb2); (try clear hk); (try clear hi)))
 go_ret
 exact ⟨by first | rfl | (simp [errW_none, errW_some] <;> rfl) | (simp [*, errW_none, errW_some] <;> rfl), zo HB⟩

end Go.Proofs.Ytkfbfgkdabljiaa.PBoxWithin
