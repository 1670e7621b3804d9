/- What the call of each function that the law reaches comes to: it answers as the plain function of the same name does, wherever that one answers; and the law itself out of its plain form. Written by a program of this session (an extended copy of the printer); no condition but what stands in each theorem. -/
import Derived.Test.YtkfbfgkdabljiaaPBoxWithinx0
import Derived.Test.YtkfbfgkdabljiaaPBoxWithinx3
namespace Go.Proofs.Ytkfbfgkdabljiaa.PBoxWithin
open Go.RowKit Go.Proofs.YtkfbfgkdabljiaaW.PrintWords Go.Proofs.YtkfbfgkdabljiaaW.PrintLast Go.Proofs.YtkfbfgkdabljiaaW.PrintMore
open Go.Proofs.YtkfbfgkdabljiaaW.PrintWords renaming blk_drewN → zN, blk_drew → zD, blk_alloc → zA, below_alloc → yA, pw_below_drewN → yN, below_drew1 → yD, below_set → yS, gate_callee → zC
open Go.Proofs.YtkfbfgkdabljiaaW.PrintWords.Kd renaming C_alloc → cA, C_drewN → cN, C_drew → cD
open Go.Proofs.YtkfbfgkdabljiaaW.PrintWords.Aside0 renaming mk → zK
attribute [local go_sem] max2_int min2_int max_two min_two max_three min_three max_four min_four   -- for this text's walks alone
set_option linter.unusedVariables false
set_option linter.unusedSimpArgs false

/-! ### box_check: function 47 -/
def box_check.l0 : Nat → Int → Int → List (S70) → Int → Int → Option (Int)
 | 0, _, _, _, _, _ => none
 | k + 1, x7, x8, x20, x21, x22 => if x22 < x21 then (if 0 ≤ x22 then (if x22 < (x20.length : Int) then ((ineq_Right.f k ((rd_T70 x20 x22).f0.f0) ((rd_T70 x20 x22).f0.f1) ((rd_T70 x20 x22).f1)).bind fun t137 => (if t137 = 0 then (box_check.l0 k x7 x8 x20 x21 (wrap64 (x22 + 1))) else (some 1))) else (none)) else (none)) else (if x7 = 0 then (some x8) else (some 0))
def box_check.f (k : Nat) (l0 : List (S70)) (l1 : List Int) (l2 : List Int) : Option (Int) := (box_size.f k l1 l2).bind fun bt133 => (if bt133.2 = 1 then (some bt133.2) else (box_check.l0 k bt133.1 bt133.2 l0 (l0.length : Int) 0))
theorem box_check.mono_l : ∀ k, (∀ y0 y1 y2 y3 y4, LeO (box_check.l0 k y0 y1 y2 y3 y4) (box_check.l0 (k + 1) y0 y1 y2 y3 y4))
 | 0 => fun _ _ _ _ _ r h => by simp [box_check.l0] at h
 | k + 1 => by
  have ih0 := box_check.mono_l k
  ·intro y0 y1 y2 y3 y4
   unfold box_check.l0
   repeat' first
   | (with_reducible exact ih0 _ _ _ _ _)
   | (with_reducible exact box_size.mono _ _ _)
   | (with_reducible exact ineq_Right.mono _ _ _ _)
   | (with_reducible exact LeO.refl _)
   | (with_reducible exact LeO.none _)
   | (with_reducible refine LeO.ite ?_ ?_)
   | (with_reducible refine LeO.bind ?_ (fun _ => ?_))
   | exact ih0 _ _ _ _ _
   | exact box_size.mono _ _ _
   | exact ineq_Right.mono _ _ _ _
   | exact LeO.none _
   | refine LeO.ite ?_ ?_
   | refine LeO.bind ?_ (fun _ => ?_)
theorem box_check.mono : ∀ a0 a1 a2 k, LeO (box_check.f k a0 a1 a2) (box_check.f (k + 1) a0 a1 a2) := by
 intro a0 a1 a2 k
 have ih0 := box_check.mono_l k
 unfold box_check.f
 repeat' first
   | (with_reducible exact ih0 _ _ _ _ _)
   | (with_reducible exact box_size.mono _ _ _)
   | (with_reducible exact ineq_Right.mono _ _ _ _)
   | (with_reducible exact LeO.refl _)
   | (with_reducible exact LeO.none _)
   | (with_reducible refine LeO.ite ?_ ?_)
   | (with_reducible refine LeO.bind ?_ (fun _ => ?_))
   | exact ih0 _ _ _ _ _
   | exact box_size.mono _ _ _
   | exact ineq_Right.mono _ _ _ _
   | exact LeO.none _
   | refine LeO.ite ?_ ?_
   | refine LeO.bind ?_ (fun _ => ?_)
set_option maxHeartbeats 8000000 in
set_option maxRecDepth 100000 in
theorem box_check.calls (k : Nat) (A0 : Option Addr) (c0 : Nat) (l0 : List (S70)) (A1 : Option Addr) (c1 : Nat) (l1 : List Int) (A2 : Option Addr) (c2 : Nat) (l2 : List Int) (r : Int) (w : World) (hr0 : Kd.C k70 w A0 l0.length l0) (hc0 : l0.length ≤ c0) (hr1 : Kd.C (Kd.int .i64) w A1 l1.length l1) (hc1 : l1.length ≤ c1) (hr2 : Kd.C (Kd.int .i64) w A2 l2.length l2) (hc2 : l2.length ≤ c2) (h : box_check.f k l0 l1 l2 = some r) :
  Calls Try.prog 47 #[.slice A0 l0.length c0, .slice A1 l1.length c1, .slice A2 l2.length c2] w fun e w' => e = .returned (.int .i64 r) ∧ Below w.heap.size w w' := by
 have hu70 := Try.underlying70
 have HR0 := zK hr0
 have HC0 := zK hc0; clear hr0 hc0
 have HR1 := zK hr1
 have HC1 := zK hc1; clear hr1 hc1
 have HR2 := zK hr2
 have HC2 := zK hc2; clear hr2 hc2
 have HB := zK (Below.refl w.heap.size w)
 have H : ((box_size.f k l1 l2).bind fun bt133 => (if bt133.2 = 1 then (some bt133.2) else (box_check.l0 k bt133.1 bt133.2 l0 (l0.length : Int) 0))) = some r := h
 clear h; replace H := Option.bind_eq_some_iff.mp H
 obtain ⟨⟨t133, t134⟩, A40, H⟩ := H
 replace H : (if t134 = 1 then (some t134) else (box_check.l0 k t133 t134 l0 (l0.length : Int) 0)) = some r := H
 have A4 := zK A40; clear A40
 by_cases c5 : t134 = 1
 ·rw [if_pos c5] at H
  have c5b0 : (t134 == 1) = true := beq_iff_eq.mpr c5
  have c5b1 : (t134 != 1) = false := bne_eq_false_iff_eq.mpr c5; clear c5
  obtain rfl := Option.some.inj H
  go_enter Try.func47, Try.ntmps47
  go_wp2_with (first | ((with_reducible refine zC (f := 54) rfl ?_); refine goesL_ (some 14) rfl rfl Try.func54 (by kernel_rfl) rfl #[.slice A1 l1.length c1, .slice A2 l2.length c2] rfl (by (try simp only [List.map_toArray, List.map_cons, List.map_nil]); first | done | rfl | (simp only [List.length_drop, List.length_take]; rfl)) ?_; (with_reducible refine (box_size.calls k _ _ l1 _ _ l2 t133 t134 _ ?side1 ?side2 ?side3 ?side4 A4.out).mono ?_); (case side1 => repeat (first | exact HR1.out | (with_reducible refine cA ?_ _) | (with_reducible refine cN ?_ _) | (with_reducible refine cD ?_))); (case side2 => exact HC1.out); (case side3 => repeat (first | exact HR2.out | (with_reducible refine cA ?_ _) | (with_reducible refine cN ?_ _) | (with_reducible refine cD ?_))); (case side4 => exact HC2.out); rintro e w' ⟨rfl, ⟨nd, rfl⟩⟩; refine ⟨_, rfl, ?_⟩))
  go_ret
  exact ⟨by first | rfl | (simp [errW_none, errW_some] <;> rfl) | (simp [*, errW_none, errW_some] <;> rfl), zo HB⟩
 ·rw [if_neg c5] at H
  have c5b0 : (t134 == 1) = false := beq_eq_false_iff_ne.mpr c5
  have c5b1 : (t134 != 1) = true := bne_iff_ne.mpr c5
  have H' := zK H; clear H
  go_enter Try.func47, Try.ntmps47
  go_wp2_with (first | ((with_reducible refine zC (f := 54) rfl ?_); refine goesL_ (some 14) rfl rfl Try.func54 (by kernel_rfl) rfl #[.slice A1 l1.length c1, .slice A2 l2.length c2] rfl (by (try simp only [List.map_toArray, List.map_cons, List.map_nil]); first | done | rfl | (simp only [List.length_drop, List.length_take]; rfl)) ?_; (with_reducible refine (box_size.calls k _ _ l1 _ _ l2 t133 t134 _ ?side1 ?side2 ?side3 ?side4 A4.out).mono ?_); (case side1 => repeat (first | exact HR1.out | (with_reducible refine cA ?_ _) | (with_reducible refine cN ?_ _) | (with_reducible refine cD ?_))); (case side2 => exact HC1.out); (case side3 => repeat (first | exact HR2.out | (with_reducible refine cA ?_ _) | (with_reducible refine cN ?_ _) | (with_reducible refine cD ?_))); (case side4 => exact HC2.out); rintro e w' ⟨rfl, ⟨nd, rfl⟩⟩; refine ⟨_, rfl, ?_⟩))
  go_loopg [22] k (fun kq v22 w' => ∃ (x22_1 : Int), v22 = .int .i64 x22_1 ∧ Aside0 (box_check.l0 kq t133 t134 l0 (l0.length : Int) x22_1 = some r) ∧ Aside0 (kq ≤ k) ∧ Aside0 (Below w.heap.size w w'))
  case atStart => exact ⟨(0), (by first | rfl | (simp; done) | (simp [*]; done)), H', ⟨Nat.le_refl _⟩, ⟨zo HB⟩⟩
  case round =>
   clear H'; try clear c1; try clear c2; try clear p2
   try clear c4; try clear c5; try clear c5b0; try clear c5b1
   obtain ⟨x22_1, rfl, HA, HK1, HB⟩ := hrel
   cases gk with
   | zero => exact absurd HA.out (by simp [box_check.l0])
   | succ k1 =>
    have H := HA.out; clear HA
    simp only [box_check.l0] at H
    by_cases c6 : x22_1 < (l0.length : Int)
    ·rw [if_pos c6] at H
     have c6b0 : decide (x22_1 < (l0.length : Int)) = true := decide_eq_true c6
     clear c6
     by_cases c7 : 0 ≤ x22_1
     ·rw [if_pos c7] at H
      have c7b0 : decide (0 ≤ x22_1) = true := decide_eq_true c7; clear c7
      by_cases c8 : x22_1 < (l0.length : Int)
      ·rw [if_pos c8] at H
       have c8b0 : decide (x22_1 < (l0.length : Int)) = true := decide_eq_true c8
       clear c8; replace H := Option.bind_eq_some_iff.mp H
       obtain ⟨t137, A90, H⟩ := H
       replace H : (if t137 = 0 then (box_check.l0 k1 t133 t134 l0 (l0.length : Int) (wrap64 (x22_1 + 1))) else (some 1)) = some r := H
       have A9 := zK A90; clear A90
       by_cases c10 : t137 = 0
       ·rw [if_pos c10] at H
        have c10b0 : (t137 == 0) = true := beq_iff_eq.mpr c10
        have c10b1 : (t137 != 0) = false := bne_eq_false_iff_eq.mpr c10; clear c10
        have H' := zK H; clear H
        have p135 : 0 ≤ (x22_1 : Int) := of_decide_eq_true (by first | (with_reducible assumption) | assumption)
        have q135 : x22_1 < (l0.length : Int) := of_decide_eq_true (by first | (with_reducible assumption) | assumption)
        obtain ⟨ad135, A135_1, c135_1, e135, hx135_0, hx135_1, hx135_2, hl135_1, hi135_1⟩ := at_T70 HR0.out x22_1 p135 q135
        cases e135
        replace hx135_0 := (HB.out.cell (World.block_lt_of_cell? w _ hx135_0)).trans hx135_0
        replace hx135_1 := (HB.out.cell (World.block_lt_of_cell? w _ hx135_1)).trans hx135_1
        replace hx135_2 := (HB.out.cell (World.block_lt_of_cell? w _ hx135_2)).trans hx135_2
        have HR135_1 := zK hi135_1
        have HC135_1 := zK hl135_1; clear hi135_1 hl135_1
        replace p135 := eq_true p135
        replace q135 := eq_true q135
        go_wp2_with (first | ((with_reducible refine gate_dst (N := 10) rfl ?_); refine box_event ?hg (N := 10) ?hd (cs := #[.int .i64 0, .slice none 0 0, .bool false]) (t := 70) ?hr ?_; (case hd => rfl); (case hg => rfl); (case hr => first | (go_simp; done) | (go_simp; rfl)); intro gb136 hg w11 hbox hb; have BK136 := zK (hbox); have GW136 := zK ((by rw [hg]; exact (below_size (zo HB)) : w.heap.size ≤ gb136)); have GE136 := zK ((by rw [hg]; exact (below_size (zo HB)) : w.heap.size ≤ gb136)); replace HB := zK (below_step (zo HB) hb); clear hb hbox hg; have hcz12_0 : w11.cell? ⟨gb136, 0, none⟩ = some (.int .i64 0) := (blk_cell BK136.out 0).trans rfl; have hcz12_1 : w11.cell? ⟨gb136, 1, none⟩ = some (.slice none 0 0) := (blk_cell BK136.out 1).trans rfl; have hcz12_2 : w11.cell? ⟨gb136, 2, none⟩ = some (.bool false) := (blk_cell BK136.out 2).trans rfl; have hfz12_0 := blk_frozen BK136.out 0; have hfz12_1 := blk_frozen BK136.out 1; have hfz12_2 := blk_frozen BK136.out 2) | ((with_reducible refine zC (f := 74) rfl ?_); refine goesL_ (some 27) rfl rfl Try.func74 (by kernel_rfl) rfl #[.agg #[.int .i64 ((rd_T70 l0 x22_1).f0.f0), .slice A135_1 ((rd_T70 l0 x22_1).f0.f1).length c135_1, .bool ((rd_T70 l0 x22_1).f1)]] rfl (by (try simp only [List.map_toArray, List.map_cons, List.map_nil]); first | done | rfl | (simp only [List.length_drop, List.length_take]; rfl)) ?_; (with_reducible refine (ineq_Right.calls k1 ((rd_T70 l0 x22_1).f0.f0) _ _ ((rd_T70 l0 x22_1).f0.f1) ((rd_T70 l0 x22_1).f1) t137 _ ?side1 ?side2 A9.out).mono ?_); (case side1 => exact Kd.C_below HR135_1.out (zo HB)); (case side2 => exact HC135_1.out); rintro e w13 ⟨rfl, hb⟩; refine ⟨_, rfl, ?_⟩; replace BK136 := zK (blk_below (g := gb136) (o := .cells #[.int .i64 ((rd_T70 l0 x22_1).f0.f0), .slice A135_1 ((rd_T70 l0 x22_1).f0.f1).length c135_1, .bool ((rd_T70 l0 x22_1).f1)] 70 (0, 0)) (by refine zM ?_; refine blk_put (cs := #[.int .i64 ((rd_T70 l0 x22_1).f0.f0), .slice A135_1 ((rd_T70 l0 x22_1).f0.f1).length c135_1, .bool false]) ?_ 2 _ rfl; refine zM ?_; refine blk_put (cs := #[.int .i64 ((rd_T70 l0 x22_1).f0.f0), .slice none 0 0, .bool false]) ?_ 1 _ rfl; refine zM ?_; refine blk_put (cs := #[.int .i64 0, .slice none 0 0, .bool false]) ?_ 0 _ rfl; refine zM ?_; exact BK136.out) hb); replace HB := zK (below_step (zo HB) hb); (try clear hb); (try clear hb2); (try clear hk); (try clear hi)))
        go_roundg k1
        case measure => have := HK1.out; omega
        case rel => exact ⟨(wrap64 (x22_1 + 1)), (by first | rfl | (simp; done) | (simp [*]; done)), H', ⟨by have := HK1.out; omega⟩, ⟨zo HB⟩⟩
       ·rw [if_neg c10] at H
        have c10b0 : (t137 == 0) = false := beq_eq_false_iff_ne.mpr c10
        have c10b1 : (t137 != 0) = true := bne_iff_ne.mpr c10
        obtain rfl := Option.some.inj H
        have p135 : 0 ≤ (x22_1 : Int) := of_decide_eq_true (by first | (with_reducible assumption) | assumption)
        have q135 : x22_1 < (l0.length : Int) := of_decide_eq_true (by first | (with_reducible assumption) | assumption)
        obtain ⟨ad135, A135_1, c135_1, e135, hx135_0, hx135_1, hx135_2, hl135_1, hi135_1⟩ := at_T70 HR0.out x22_1 p135 q135
        cases e135
        replace hx135_0 := (HB.out.cell (World.block_lt_of_cell? w _ hx135_0)).trans hx135_0
        replace hx135_1 := (HB.out.cell (World.block_lt_of_cell? w _ hx135_1)).trans hx135_1
        replace hx135_2 := (HB.out.cell (World.block_lt_of_cell? w _ hx135_2)).trans hx135_2
        have HR135_1 := zK hi135_1
        have HC135_1 := zK hl135_1; clear hi135_1 hl135_1
        replace p135 := eq_true p135
        replace q135 := eq_true q135
        go_wp2_with (first | ((with_reducible refine gate_dst (N := 10) rfl ?_); refine box_event ?hg (N := 10) ?hd (cs := #[.int .i64 0, .slice none 0 0, .bool false]) (t := 70) ?hr ?_; (case hd => rfl); (case hg => rfl); (case hr => first | (go_simp; done) | (go_simp; rfl)); intro gb136 hg w14 hbox hb; have BK136 := zK (hbox); have GW136 := zK ((by rw [hg]; exact (below_size (zo HB)) : w.heap.size ≤ gb136)); have GE136 := zK ((by rw [hg]; exact (below_size (zo HB)) : w.heap.size ≤ gb136)); replace HB := zK (below_step (zo HB) hb); clear hb hbox hg; have hcz15_0 : w14.cell? ⟨gb136, 0, none⟩ = some (.int .i64 0) := (blk_cell BK136.out 0).trans rfl; have hcz15_1 : w14.cell? ⟨gb136, 1, none⟩ = some (.slice none 0 0) := (blk_cell BK136.out 1).trans rfl; have hcz15_2 : w14.cell? ⟨gb136, 2, none⟩ = some (.bool false) := (blk_cell BK136.out 2).trans rfl; have hfz15_0 := blk_frozen BK136.out 0; have hfz15_1 := blk_frozen BK136.out 1; have hfz15_2 := blk_frozen BK136.out 2) | ((with_reducible refine zC (f := 74) rfl ?_); refine goesL_ (some 27) rfl rfl Try.func74 (by kernel_rfl) rfl #[.agg #[.int .i64 ((rd_T70 l0 x22_1).f0.f0), .slice A135_1 ((rd_T70 l0 x22_1).f0.f1).length c135_1, .bool ((rd_T70 l0 x22_1).f1)]] rfl (by (try simp only [List.map_toArray, List.map_cons, List.map_nil]); first | done | rfl | (simp only [List.length_drop, List.length_take]; rfl)) ?_; (with_reducible refine (ineq_Right.calls k1 ((rd_T70 l0 x22_1).f0.f0) _ _ ((rd_T70 l0 x22_1).f0.f1) ((rd_T70 l0 x22_1).f1) t137 _ ?side1 ?side2 A9.out).mono ?_); (case side1 => exact Kd.C_below HR135_1.out (zo HB)); (case side2 => exact HC135_1.out); rintro e w16 ⟨rfl, hb⟩; refine ⟨_, rfl, ?_⟩; replace BK136 := zK (blk_below (g := gb136) (o := .cells #[.int .i64 ((rd_T70 l0 x22_1).f0.f0), .slice A135_1 ((rd_T70 l0 x22_1).f0.f1).length c135_1, .bool ((rd_T70 l0 x22_1).f1)] 70 (0, 0)) (by refine zM ?_; refine blk_put (cs := #[.int .i64 ((rd_T70 l0 x22_1).f0.f0), .slice A135_1 ((rd_T70 l0 x22_1).f0.f1).length c135_1, .bool false]) ?_ 2 _ rfl; refine zM ?_; refine blk_put (cs := #[.int .i64 ((rd_T70 l0 x22_1).f0.f0), .slice none 0 0, .bool false]) ?_ 1 _ rfl; refine zM ?_; refine blk_put (cs := #[.int .i64 0, .slice none 0 0, .bool false]) ?_ 0 _ rfl; refine zM ?_; exact BK136.out) hb); replace HB := zK (below_step (zo HB) hb); (try clear hb); (try clear hb2); (try clear hk); (try clear hi)))
        go_ret
        exact ⟨by first | rfl | (simp [errW_none, errW_some] <;> rfl) | (simp [*, errW_none, errW_some] <;> rfl), zo HB⟩
      ·rw [if_neg c8] at H
       exact absurd H (by simp)
     ·rw [if_neg c7] at H
      exact absurd H (by simp)
    ·rw [if_neg c6] at H
     have c6b0 : decide (x22_1 < (l0.length : Int)) = false := decide_eq_false c6
     clear c6
     by_cases c17 : t133 = 0
     ·rw [if_pos c17] at H
      have c17b0 : (t133 == 0) = true := beq_iff_eq.mpr c17
      have c17b1 : (t133 != 0) = false := bne_eq_false_iff_eq.mpr c17; clear c17
      obtain rfl := Option.some.inj H
      go_wp2
      go_ret
      exact ⟨by first | rfl | (simp [errW_none, errW_some] <;> rfl) | (simp [*, errW_none, errW_some] <;> rfl), zo HB⟩
     ·rw [if_neg c17] at H
      have c17b0 : (t133 == 0) = false := beq_eq_false_iff_ne.mpr c17
      have c17b1 : (t133 != 0) = true := bne_iff_ne.mpr c17
      obtain rfl := Option.some.inj H
      go_wp2
      go_ret
      exact ⟨by first | rfl | (simp [errW_none, errW_some] <;> rfl) | (simp [*, errW_none, errW_some] <;> rfl), zo HB⟩

/-! ### a range over a function that turns blocks of its own between two rounds -/
/-- The iterator's step: of what lay, its own blocks alone (from a on, below b) may have turned. -/
structure IStep (a b : Nat) (W W' : World) : Prop where
 os : W'.os = W.os
 tape : W'.tape = W.tape
 output : W'.output = W.output
 size : W.heap.size ≤ W'.heap.size
 block : ∀ k, k < W.heap.size → ¬ (a ≤ k ∧ k < b) → W'.heap[k]? = W.heap[k]?
/-- A round's step: below n what it may turn alone has turned. -/
structure RStep (May : Nat → Prop) (n : Nat) (W W' : World) : Prop where
 os : W'.os = W.os
 tape : W'.tape = W.tape
 output : W'.output = W.output
 size : W.heap.size ≤ W'.heap.size
 block : ∀ k, k < n → ¬ May k → W'.heap[k]? = W.heap[k]?
theorem IStep.wider {a a' b : Nat} {W W' : World} (h : IStep a b W W') (ha : a' ≤ a) : IStep a' b W W' := ⟨h.os, h.tape, h.output, h.size, fun k hk hn => h.block k hk (fun ⟨h1, h2⟩ => hn ⟨by omega, h2⟩)⟩
theorem IStep.putObj {a b l : Nat} {W : World} {o : Obj} (h1 : a ≤ l) (h2 : l < b) : IStep a b W (W.putObj l o) :=
 ⟨rfl, rfl, rfl, by simp, fun k _ hn => World.putObj_heap_other (fun e => hn (by subst e; exact ⟨h1, h2⟩))⟩
theorem IStep.of_below {a b : Nat} {W W' : World} (h : Below W.heap.size W W') : IStep a b W W' := ⟨h.os, h.tape, h.output, h.size, fun k hk _ => h.block k hk⟩
theorem IStep.below {a b : Nat} {w W W' : World} (h : IStep a b W W') (hb : Below a w W) (hw : w.heap.size = a) : Below a w W' :=
 ⟨h.os.trans hb.os, h.tape.trans hb.tape, h.output.trans hb.output, Nat.le_trans hb.size h.size, fun k hk => (h.block k (by have := hb.size; omega) (fun ⟨h1, _⟩ => by omega)).trans (hb.block k hk)⟩
theorem IStep.below' {a b c : Nat} {w W W' : World} (h : IStep a b W W') (hb : Below c w W) (hc : c ≤ a) (hw : c ≤ w.heap.size) : Below c w W' :=
 ⟨h.os.trans hb.os, h.tape.trans hb.tape, h.output.trans hb.output, Nat.le_trans hb.size h.size, fun k hk => (h.block k (by have := hb.size; omega) (fun ⟨h1, _⟩ => by omega)).trans (hb.block k hk)⟩
theorem IStep.blk {a b g : Nat} {A B : World} {o : Obj} (h : IStep a b A B) (hg : A.heap[g]? = some o) (hl : g < a) : B.heap[g]? = some o :=
 (h.block g (Array.getElem?_eq_some_iff.1 hg).1 (fun ⟨h1, _⟩ => by omega)).trans hg
theorem IStep.trans {a b : Nat} {A B C : World} (h : IStep a b A B) (k : IStep a b B C) : IStep a b A C :=
 ⟨k.os.trans h.os, k.tape.trans h.tape, k.output.trans h.output, Nat.le_trans h.size k.size, fun i hi hn => (k.block i (Nat.lt_of_lt_of_le hi h.size) hn).trans (h.block i hi hn)⟩
theorem IStep.setCell {a b : Nat} {A B : World} (h : IStep a b A B) {p : Addr} (h1 : a ≤ p.block) (h2 : p.block < b) (v : Value) : IStep a b A (B.setCell p v) :=
 h.trans ⟨rfl, rfl, rfl, by simp [World.setCell], fun k _ hn => Below.heap_setCell B p v k (fun e => hn (by rw [e]; exact ⟨h1, h2⟩))⟩
theorem IStep.drewN {a b : Nat} {A B : World} (h : IStep a b A B) (n : Nat) : IStep a b A (B.drewN n) := ⟨h.os, h.tape, h.output, h.size, h.block⟩
theorem RStep.trans {May : Nat → Prop} {n : Nat} {A B C : World} (h : RStep May n A B) (k : RStep May n B C) : RStep May n A C :=
 ⟨k.os.trans h.os, k.tape.trans h.tape, k.output.trans h.output, Nat.le_trans h.size k.size, fun i hi hn => (k.block i hi hn).trans (h.block i hi hn)⟩
theorem RStep.of_below {May : Nat → Prop} {n : Nat} {A B : World} (h : Below A.heap.size A B) (hn : n ≤ A.heap.size) : RStep May n A B :=
 ⟨h.os, h.tape, h.output, h.size, fun k hk _ => h.block k (Nat.lt_of_lt_of_le hk hn)⟩
theorem RStep.setCell {May : Nat → Prop} {n : Nat} {A B : World} (h : RStep May n A B) {p : Addr} (hp : May p.block) (v : Value) : RStep May n A (B.setCell p v) :=
 h.trans ⟨rfl, rfl, rfl, by simp [World.setCell], fun k _ hn => Below.heap_setCell B p v k (fun e => hn (by rw [e]; exact hp))⟩
theorem RStep.drewN {May : Nat → Prop} {n : Nat} {A B : World} (h : RStep May n A B) (k : Nat) : RStep May n A (B.drewN k) := ⟨h.os, h.tape, h.output, h.size, h.block⟩
/-- AN ITERATOR's CONTRACT: gf, called in W. more: a round is to come; nxt: from round to round; enc: what a round is handed. -/
def IterC (P : Program) (gf : FuncId) (lb : Array Value) (W : World) (May : Nat → Prop) {α : Type} (more : α → Prop) (nxt : α → α → Prop) (s0 : α) (enc : World → Nat → Value → α → Prop) : Prop :=
 ∀ (l : Nat) (J : Nat → α → World → Prop) (Jx : Nat → World → Prop),
  (∀ n s A B, J n s A → IStep W.heap.size n A B → J n s B) →
  (∀ W2, Below W.heap.size W W2 → J W2.heap.size s0 W2) →
  (∀ n s A v, J n s A → more s → W.heap.size ≤ n → n ≤ A.heap.size → enc A n v s → YieldAt Fence.wide 0 P l #[v] A fun e B =>
   (e = .returned (.bool true) ∧ RStep May n A B ∧ ∃ s', nxt s s' ∧ J n s' B) ∨ (e = .returned (.bool false) ∧ Jx n B)) →
  Calls P gf (#[.func (.yield l) #[] #[]] ++ lb) W fun e B => (∃ v, e = .returned v) ∧ ∃ n, W.heap.size ≤ n ∧ ((∃ s, ¬ more s ∧ J n s B) ∨ Jx n B)
/-- HOW THE BODY OF A ROUND MAY BE LEFT. -/
def postR {α : Type} (May : Nat → Prop) (nxt : α → α → Prop) (I : Nat → α → World → Prop) (Ix : Code → Nat → World → Prop) (n : Nat) (s : α) (W : World) : Exit → Act → World → Prop
 | .normal, _, W' => RStep May n W W' ∧ ∃ s', nxt s s' ∧ I n s' W'
 | .ret, _, W' => RStep May n W W' ∧ Ix .ret n W'
 | .exit id, _, W' => RStep May n W W' ∧ Ix (.exit id) n W'
 | .goto t, _, W' => RStep May n W W' ∧ Ix (.goto t) n W'
 | .panic _, _, _ => False
 | .outgrown, _, _ => False
theorem then_mono {F : Fence} {n : Nat} {P : Program} {c : Code} {K K' : Act → World → Prop} {a : Act} {w : World} (h : c.wpIn F n P (Exit.then K (fun _ _ _ => False)) a w) (hk : ∀ a w, K a w → K' a w) : c.wpIn F n P (Exit.then K' (fun _ _ _ => False)) a w :=
 wpIn_mono h (fun e a w hq => by cases e <;> first | exact hk _ _ hq | exact hq)
/-- THE STATEMENT. -/
theorem wp_range {P : Program} {g : Operand} {ps : Array Tmp} {assign body : Code} {Q : Exit → Act → World → Prop} {a : Act} {w : World}
  {gf : FuncId} {lb : Array Value} (hg : a.eval g = .func (.func gf) #[] lb) (eg : ∀ args w, (callFunc gf args).run P w = .ok (.enter gf args) w) (hps : ps.size = 1)
  {May : Nat → Prop} {α : Type} {more : α → Prop} {nxt : α → α → Prop} {s0 : α} {enc : World → Nat → Value → α → Prop}
  (hC : ∀ W, Below w.heap.size w W → IterC P gf lb W May more nxt s0 enc) (hMay : ∀ b, May b → b < w.heap.size)
  (henc : ∀ A B n v s, enc A n v s → IStep 0 n A B → enc B n v s)
  (I : Nat → α → World → Prop) (Ix : Code → Nat → World → Prop)
  (hI : ∀ n s A B, I n s A → IStep w.heap.size n A B → I n s B) (hIx : ∀ c n A B, Ix c n A → IStep w.heap.size n A B → Ix c n B)
  (h0 : ∀ W, Below w.heap.size w W → I W.heap.size s0 W)
  (hround : ∀ (l n : Nat) (s : α) (v : Value) (W : World), more s → w.heap.size + 2 ≤ n →
   assign.wpIn (Fence.wide.inRound l) 0 P (Exit.then (fun a₁ W₁ => W₁ = W ∧ ∀ Wb, I n s Wb → n ≤ Wb.heap.size → enc Wb n v s → body.wpIn (Fence.wide.inRound l) 0 P (postR May nxt I Ix n s Wb) a₁ Wb) (fun _ _ _ => False))
    { tmps := (ps.zip #[v]).foldl (fun t (p, v) => t.setIfInBounds p v) a.tmps, defers := [] } W)
  (hdone : ∀ (n : Nat) (s : α) (W : World), I n s W → ¬ more s → W.heap[w.heap.size]? = some (.deferred (some [])) → Q .normal { a with defers := { target := .collected w.heap.size, args := #[] } :: a.defers } W)
  (hstop : ∀ (c : Code) (n : Nat) (W : World), Ix c n W → W.heap[w.heap.size]? = some (.deferred (some [])) → c.wp P Q { a with defers := { target := .collected w.heap.size, args := #[] } :: a.defers } W) :
  (Code.rangeFunc g ps assign body).wp P Q a w := by
 refine (wpIn_wide (n := 1)).1 (wpIn_rangeFunc ?_)
 intro fn hfn
 obtain ⟨rec, hrec⟩ : ∃ rec : LoopState → Option Code → Loop, rec = fun st pe => { state := st, pending := pe, fn, tmps := a.tmps, params := ps, assign, body, defers := w.heap.size } := ⟨_, rfl⟩
 obtain ⟨W1, hW1⟩ : ∃ W1, (w.alloc (.deferred (some []))).alloc (.loop (rec .ready none)) = W1 := ⟨_, rfl⟩
 have hL1 : W1.heap[w.heap.size + 1]? = some (.loop (rec .ready none)) := by
  rw [← hW1]; have := World.alloc_heap_new (w.alloc (.deferred (some []))) (.loop (rec .ready none)); rwa [World.size_alloc] at this
 have hK1 : W1.heap[w.heap.size]? = some (.deferred (some [])) := by
  rw [← hW1]; exact (Below.heap_alloc _ _ _ (by simp)).trans (World.alloc_heap_new w _)
 have hsz : W1.heap.size = w.heap.size + 2 := by rw [← hW1]; simp
 have hb1 : Below w.heap.size w W1 := by rw [← hW1]; exact ((Below.refl _ w).alloc (Nat.le_refl _) _).alloc (by simp) _
 refine ⟨w.heap.size + 1, [{ target := .collected w.heap.size, args := #[] }], W1, { target := .fn (.func gf) lb, args := #[.func (.yield (w.heap.size + 1)) #[] #[]] }, W1, gf,
  #[.func (.yield (w.heap.size + 1)) #[] #[]] ++ lb, W1, ?_, ?_, ?_, ?_, (fun h => by cases h), callsIn_wide.2 ?_⟩
 ·rw [← hW1, hrec]; exact run_enterLoop_outer _ _ _ _ _
 ·simp only [resolve, hg]
  simp [go_sem]
 ·intro f' _; trivial
 ·simp [invoke, go_sem, eg]
 ·refine Calls.mono ((hC W1 hb1) (w.heap.size + 1)
   (fun n s W => I n s W ∧ W.heap[w.heap.size + 1]? = some (.loop (rec .ready none)) ∧ W.heap[w.heap.size]? = some (.deferred (some [])))
   (fun n W => ∃ c, Ix c n W ∧ W.heap[w.heap.size + 1]? = some (.loop (rec .done (some c))) ∧ W.heap[w.heap.size]? = some (.deferred (some []))) ?_ ?_ ?_) ?_
  ·rintro n s A B ⟨hi, hl, hk⟩ hs
   have h1 : ∀ {k : Nat} {o : Obj}, k < w.heap.size + 2 → A.heap[k]? = some o → B.heap[k]? = some o := fun hk ho => (hs.block _ (Array.getElem?_eq_some_iff.1 ho).1 (fun ⟨e, _⟩ => by omega)).trans ho
   exact ⟨hI _ _ _ _ hi (hs.wider (by omega)), h1 (by omega) hl, h1 (by omega) hk⟩
  ·intro W2 hb2
   exact ⟨h0 W2 (hb1.trans (hb2.mono (by omega))), (hb2.block _ (by omega)).trans hL1, (hb2.block _ (by omega)).trans hK1⟩
  ·-- ONE ROUND
   rintro n s W v ⟨hi, hl, hk⟩ hm hn1 hn2 he
   have hlt : w.heap.size + 1 < W.heap.size := (Array.getElem?_eq_some_iff.1 hl).1
   have hy := run_yield (P := P) (args := #[v]) hl (by rw [hrec]; simp [hps])
   rw [hrec] at hy
   refine ⟨fn, _, assign, body, hy, roundIn_of_wpIn hfn (then_mono (hround _ n s v W hm (by omega)) ?_)⟩
   rintro a₁ W₁ ⟨hW₁, hbody⟩
   rw [hW₁]
   refine ⟨_, run_beginRound hl (by rw [hrec]), ?_⟩
   have hl2 : (W.putObj (w.heap.size + 1) (.loop { rec .ready none with state := .busy })).heap[w.heap.size + 1]? = some (.loop { rec .ready none with state := .busy }) := World.putObj_heap_same hlt
   have hk2 : (W.putObj (w.heap.size + 1) (.loop { rec .ready none with state := .busy })).heap[w.heap.size]? = some (.deferred (some [])) := (World.putObj_heap_other (by omega)).trans hk
   have hst : ∀ (A : World) (o : Obj), IStep w.heap.size n A (A.putObj (w.heap.size + 1) o) := fun A o => IStep.putObj (by omega) (by omega)
   have hst0 : ∀ (A : World) (o : Obj), IStep 0 n A (A.putObj (w.heap.size + 1) o) := fun A o => IStep.putObj (by omega) (by omega)
   refine wpIn_mono (hbody _ (hI _ _ _ _ hi (hst _ _)) (by simpa using hn2) (henc _ _ _ _ _ he (hst0 _ _))) ?_
   have fin : ∀ (jump : Option Code) (W3 : World), RStep May n (W.putObj (w.heap.size + 1) (.loop { rec .ready none with state := .busy })) W3 →
     (Instr.endRound (w.heap.size + 1) jump).run P W3 = .ok (.bool jump.isNone) (W3.putObj (w.heap.size + 1) (.loop (rec (if jump.isNone then .ready else .done) jump))) ∧
     (W3.putObj (w.heap.size + 1) (.loop (rec (if jump.isNone then .ready else .done) jump))).heap[w.heap.size + 1]? = some (.loop (rec (if jump.isNone then .ready else .done) jump)) ∧
     (W3.putObj (w.heap.size + 1) (.loop (rec (if jump.isNone then .ready else .done) jump))).heap[w.heap.size]? = some (.deferred (some [])) ∧
     (jump = none → RStep May n W (W3.putObj (w.heap.size + 1) (.loop (rec (if jump.isNone then .ready else .done) jump)))) := fun jump W3 hk3 => by
    have hl3 := (hk3.block (w.heap.size + 1) (by omega) (fun h => by have := hMay _ h; omega)).trans hl2
    have hk4 := (hk3.block w.heap.size (by omega) (fun h => by have := hMay _ h; omega)).trans hk2
    have := run_endRound (P := P) jump hl3
    refine ⟨by rw [this, hrec], World.putObj_heap_same (Array.getElem?_eq_some_iff.1 hl3).1, (World.putObj_heap_other (by omega)).trans hk4, fun hj => ⟨hk3.os, hk3.tape, hk3.output, by have := hk3.size; simpa using this, fun k hkn hnm => ?_⟩⟩
    subst hj
    by_cases e : k = w.heap.size + 1
    ·subst e
     exact (World.putObj_heap_same (Array.getElem?_eq_some_iff.1 hl3).1).trans hl.symm
    ·exact (World.putObj_heap_other e).trans ((hk3.block k hkn hnm).trans (World.putObj_heap_other e))
   rintro e a3 W3 hp
   cases e with
   | normal =>
    obtain ⟨hk3, s', hs', hi3⟩ := hp
    obtain ⟨hr, hl4, hk4, hR⟩ := fin none W3 hk3
    exact ⟨_, _, hr, .inl ⟨rfl, hR rfl, s', hs', hI _ _ _ _ hi3 (hst _ _), hl4, hk4⟩⟩
   | ret =>
    obtain ⟨hk3, hi3⟩ := hp
    obtain ⟨hr, hl4, hk4, _⟩ := fin (some .ret) W3 hk3
    exact ⟨_, _, hr, .inr ⟨rfl, .ret, hIx _ _ _ _ hi3 (hst _ _), hl4, hk4⟩⟩
   | exit id =>
    obtain ⟨hk3, hi3⟩ := hp
    obtain ⟨hr, hl4, hk4, _⟩ := fin (some (.exit id)) W3 hk3
    exact ⟨_, _, hr, .inr ⟨rfl, .exit id, hIx _ _ _ _ hi3 (hst _ _), hl4, hk4⟩⟩
   | goto t =>
    obtain ⟨hk3, hi3⟩ := hp
    obtain ⟨hr, hl4, hk4, _⟩ := fin (some (.goto t)) W3 hk3
    exact ⟨_, _, hr, .inr ⟨rfl, .goto t, hIx _ _ _ _ hi3 (hst _ _), hl4, hk4⟩⟩
   | panic ch => exact hp.elim
   | outgrown => exact hp.elim
  ·-- BEHIND THE ITERATOR
   rintro e W2 ⟨⟨v, rfl⟩, n, hn, (⟨s, hS, hi, hl, hk⟩ | ⟨c, hi, hl, hk⟩)⟩
   ·have hst : ∀ (A : World) (o : Obj), IStep w.heap.size n A (A.putObj (w.heap.size + 1) o) := fun A o => IStep.putObj (by omega) (by omega)
    exact ⟨none, _, by have := run_endLoop (P := P) hl (by rw [hrec]; simp); rw [hrec] at this; exact this, hdone n s _ (hI _ _ _ _ hi (hst _ _)) hS ((World.putObj_heap_other (by omega)).trans hk)⟩
   ·have hst : ∀ (A : World) (o : Obj), IStep w.heap.size n A (A.putObj (w.heap.size + 1) o) := fun A o => IStep.putObj (by omega) (by omega)
    exact ⟨some c, _, by have := run_endLoop (P := P) hl (by rw [hrec]; simp); rw [hrec] at this; exact this, wpIn_wide.2 (hstop c n _ (hIx _ _ _ _ hi (hst _ _)) ((World.putObj_heap_other (by omega)).trans hk))⟩
theorem blk_putObj {w : World} {g D : Nat} {o o' : Obj} (h : w.heap[g]? = some o) (hn : g ≠ D) : (w.putObj D o').heap[g]? = some o := (World.putObj_heap_other hn).trans h
theorem below_putObj {B D : Nat} {a w : World} {o : Obj} (h : Below B a w) (hd : B ≤ D) : Below B a (w.putObj D o) :=
 h.trans ⟨rfl, rfl, rfl, by simp, fun k hk => World.putObj_heap_other (by omega)⟩

/-! ### slices.Clone of whole numbers -/
set_option maxHeartbeats 8000000 in
set_option maxRecDepth 100000 in
theorem cloneInt.calls (A0 : Option Addr) (c0 : Nat) (l0 : List Int) (w : World) (hr0 : Kd.C (Kd.int .i64) w A0 l0.length l0) (hl : l0.length < 17592186044416) :
  Calls Try.prog 52 #[.slice A0 l0.length c0] w fun e w' => ∃ v0_ : Value, e = .returned (v0_) ∧ Kd.R (Kd.int .i64) 2 w' w.heap.size (fun _ => True) v0_ l0 ∧ Below w.heap.size w w' := by
 have HR0 := zK hr0
 have HL := zK hl
 have hnil := fun w => Lib.run_eql_slice_nil (P := Try.prog) w 33 2 A0 l0.length c0 0 0 Try.underlying33
 clear hr0 hl
 cases A0 with
 | none =>
  have hz : l0 = [] := by
   cases l0 with
   | nil => rfl
   | cons x l => obtain ⟨ad, e, _⟩ := HR0.out.2.2 (by simp); cases e
  subst hz
  simp only [List.length_nil, Option.isNone_none] at hnil
  go_enter Try.func52, Try.ntmps52
  go_wp2
  go_ret
  exact ⟨_, rfl, Kd.R_nil _ _ _ _ _, Below.refl _ _⟩
 | some ad =>
  go_enter Try.func52, Try.ntmps52
  go_wp2_with (first
   | ((with_reducible refine gate_dst (N := 5) rfl ?_); refine Kd.R_lit (w0 := w) (Kd.int .i64) w.heap.size 2 ?hg (N := 5) ?hd (xs := ([] : List Int)) (inner := []) (ok := fun _ => True) (okp := fun _ => True) ?hr ?hp (fun _ hk => hk) trivial (Below.refl _ _) (Nat.le_refl _) (by simp) ?_; (case hd => rfl); (case hg => rfl); (case hr => first | (go_simp; done) | (go_simp; rfl)); (case hp => exact Reps.none _ _); intro v1 w1 ho_ hb_ hg_ hnew_; have HO := zK ho_; have HB := zK hb_; clear ho_ hb_ hg_ hnew_; obtain ⟨Ao, co, eo⟩ := Kd.R_slice HO.out; subst eo)
   | ((with_reducible refine gate_builtin (b := .append) (xs := #[.tmp 5, .tmp 6]) rfl ?_); at_builtin; refine Kd.R_append_rows (w0 := w) (Kd.int .i64) w.heap.size rfl (.tmp 5) (.tmp 6) 33 2 (.int .i64 0) 8 rfl Try.underlying33 info2 rfl (by decide) (by omega) (.slice Ao 0 co) ([] : List Int) l0 (some ad) l0.length c0 (fun _ => True) (fun _ => False) rfl rfl HO.out (Kd.C_below HR0.out HB.out) (fun _ _ h => h) (fun _ h => h.elim) (fun _ _ => trivial) HB.out HB.out.size (by have := HL.out; simp; omega) ?_; intro v1 w2 ho_ hb_ hg_ hat_; have HO2 := zK ho_; have HB2 := zK hb_; clear ho_ hb_ hg_ hat_; obtain ⟨Ao2, co2, eo2⟩ := Kd.R_slice HO2.out; subst eo2))
  go_ret
  exact ⟨_, rfl, HO2.out, HB2.out⟩

/-! ### box.All: the points, one after another -/
def box_step.l0 : Nat → List Int → List Int → List Int → Int → Option (List Int)
 | 0, _, _, _, _ => none
 | k + 1, lo, hi, x, i => if i ≥ 0 then (if i < (x.length : Int) then (if i < (hi.length : Int) then (if rd x i < rd hi i then some (x.set i.toNat (wrap64 (rd x i + 1))) else (if i < (lo.length : Int) then box_step.l0 k lo hi (x.set i.toNat (rd lo i)) (wrap64 (i - 1)) else none)) else none) else none) else some x
def box_step.f (k : Nat) (lo hi x : List Int) : Option (List Int) := box_step.l0 k lo hi x (wrap64 ((x.length : Int) - 1))
theorem box_step.mono_l : ∀ k lo hi x i, LeO (box_step.l0 k lo hi x i) (box_step.l0 (k + 1) lo hi x i)
 | 0, _, _, _, _ => LeO.none _
 | k + 1, lo, hi, x, i => by
   have ih0 := box_step.mono_l k
   unfold box_step.l0
   repeat' first
    | (with_reducible exact ih0 _ _ _ _)
    | (with_reducible exact LeO.refl _)
    | (with_reducible exact LeO.none _)
    | (with_reducible refine LeO.ite ?_ ?_)
    | (with_reducible refine LeO.bind ?_ (fun _ => ?_))
theorem box_step.mono (lo hi x : List Int) (k : Nat) : LeO (box_step.f k lo hi x) (box_step.f (k + 1) lo hi x) := box_step.mono_l k _ _ _ _
/-- The number of rounds. -/
def boxMore (n e : Int) (s : List Int × Int) : Prop := e = 0 ∧ s.2 < n
def boxNxt (lo hi : List Int) (s s' : List Int × Int) : Prop := s'.2 = s.2 + 1 ∧ ∃ k, box_step.f k lo hi s.1 = some s'.1
def boxEnc (W : World) (n : Nat) (v : Value) (s : List Int × Int) : Prop := Kd.R (Kd.int .i64) 2 W n (fun _ => True) v s.1
theorem boxEnc_step (A B : World) (n : Nat) (v : Value) (s : List Int × Int) (h : boxEnc A n v s) (hs : IStep 0 n A B) : boxEnc B n v s :=
 Kd.R_mono (Kd.R_step (Kd.R_mono (ok' := fun k => n ≤ k) (Kd.R_bound h) (fun _ hk => hk.2.1)) (fun k hk hlt => hs.block k hlt (fun ⟨_, e⟩ => by omega))) (fun _ _ => trivial)
/-- Of what lay, what the rounds may not turn lies as it lay. -/
def KeepW (May : Nat → Prop) (w w' : World) : Prop := w.heap.size ≤ w'.heap.size ∧ ∀ b, b < w.heap.size → ¬ May b → w'.heap[b]? = w.heap[b]?
theorem keepW_step {May : Nat → Prop} {w A B : World} {n : Nat} (h : KeepW May w A) (hs : IStep w.heap.size n A B) : KeepW May w B :=
 ⟨Nat.le_trans h.1 hs.size, fun b hb hm => (hs.block b (Nat.lt_of_lt_of_le hb h.1) (fun ⟨e1, _⟩ => by omega)).trans (h.2 b hb hm)⟩
theorem w64_ {n : Int} (h1 : -9223372036854775808 ≤ n) (h2 : n ≤ 9223372036854775807) : wrap64 n = n := by unfold wrap64; omega
theorem wp_part {P : Program} {c y : Code} {Q : Exit → Act → World → Prop} {a : Act} {w : World} (a1 : Act) (w1 : World) (h : c.wp P (fun e a w => e = .normal ∧ a = a1 ∧ w = w1) a w) (k : y.wp P Q a1 w1) : (Code.seq c y).wp P Q a w :=
 wp_seq (wp_mono h (fun e a w h => by obtain ⟨rfl, rfl, rfl⟩ := h; exact k))
set_option maxHeartbeats 8000000 in
set_option maxRecDepth 100000 in
theorem boxAll1 (k : Nat) (Bl Bh : Nat) (A1 A2 : Option Addr) (c1 c2 : Nat) (lo hi : List Int) (n e : Int) (w : World) (May : Nat → Prop)
  (hbl : w.heap[Bl]? = some (.cells #[.slice A1 lo.length c1] 33 (0, 0))) (hbh : w.heap[Bh]? = some (.cells #[.slice A2 hi.length c2] 33 (0, 0)))
  (hr1 : Kd.C (Kd.int .i64) w A1 lo.length lo) (hc1 : lo.length ≤ c1) (hr2 : Kd.C (Kd.int .i64) w A2 hi.length hi) (hc2 : hi.length ≤ c2)
  (hM : ∀ b, May b → b < w.heap.size ∧ b ≠ Bl ∧ b ≠ Bh ∧ (∀ ad, A1 = some ad → b ≠ ad.block) ∧ (∀ ad, A2 = some ad → b ≠ ad.block))
  (hs : box_size.f k lo hi = some (n, e)) (hn : n ≤ 65536) (hl : lo.length < 17592186044416) :
  IterC Try.prog 53 #[.pointer (some ⟨Bl, 0, none⟩), .pointer (some ⟨Bh, 0, none⟩)] w May (boxMore n e) (boxNxt lo hi) (lo, 0) boxEnc := by
 intro l J Jx hJ h0 hY
 show Calls _ _ #[.func (.yield l) #[] #[], .pointer (some ⟨Bl, 0, none⟩), .pointer (some ⟨Bh, 0, none⟩)] _ _
 have hcl := (blk_cell hbl 0).trans rfl
 have hch := (blk_cell hbh 0).trans rfl
 have HJ := zK hJ
 have H0 := zK h0
 have HY := zK hY
 have HM := zK hM
 have HR1 := zK hr1
 have HR2 := zK hr2
 have HL := zK hl
 have HBL := zK hbl
 have HBH := zK hbh
 have CS := zK (box_size.calls k A1 c1 lo A2 c2 hi n e w hr1 hc1 hr2 hc2 hs)
 clear hJ h0 hY hM hr1 hr2 hl hs hbl hbh
 by_cases he : e = 0
 ·subst he
  go_enter Try.func53, Try.ntmps53
  go_wp2_with (first
   | (go_at_call 54; refine CS.out.mono ?_; rintro e w' ⟨rfl, ⟨nd, rfl⟩⟩)
   | (go_at_call 52; refine (cloneInt.calls A1 c1 lo _ (cN HR1.out _) HL.out).mono ?_; rintro e w2 ⟨v, rfl, hR, hB⟩; have HO := zK hR; have HB2 := zK hB; clear hR hB; obtain ⟨Ao, co, eo⟩ := Kd.R_slice HO.out; subst eo))
  have HB := zK ((yN (Below.refl w.heap.size w) nd).trans HB2.out)
  have hJ2 := H0.out w2 HB.out
  have hKW : KeepW May w w2 := ⟨HB.out.size, fun b hb _ => HB.out.block b hb⟩
  obtain ⟨n2, hn2⟩ : ∃ n2, n2 = w2.heap.size := ⟨_, rfl⟩
  rw [← hn2] at hJ2
  have HO2 := zK (show Kd.R (Kd.int .i64) 2 w2 w.heap.size (fun b => w.heap.size ≤ b ∧ b < n2) (.slice Ao lo.length co) lo from Kd.R_mono (Kd.R_bound HO.out) (fun _ hk => ⟨hk.2.1, by rw [hn2]; exact hk.2.2.1⟩))
  have HN2 := zK (show w.heap.size ≤ n2 ∧ n2 ≤ w2.heap.size from ⟨by rw [hn2]; exact HB.out.size, by rw [hn2]; exact Nat.le_refl _⟩)
  have HJ2 := zK hJ2
  have HKW := zK hKW; clear hJ2 hKW hn2
  go_loopg [19] (n.toNat) (fun kq v19 w' => ∃ (s : List Int × Int), v19 = .int .i64 s.2 ∧ Aside0 (0 ≤ s.2 ∧ kq = (n - s.2).toNat) ∧ Aside0 (s.1.length = lo.length) ∧ Aside0 (Kd.R (Kd.int .i64) 2 w' w.heap.size (fun b => w.heap.size ≤ b ∧ b < n2) (.slice Ao lo.length co) s.1) ∧ Aside0 (J n2 s w') ∧ Aside0 (KeepW May w w') ∧ Aside0 (n2 ≤ w'.heap.size))
  case atStart => exact ⟨(lo, 0), rfl, ⟨by simp⟩, ⟨rfl⟩, HO2, HJ2, HKW, ⟨HN2.out.2⟩⟩
  case round =>
   obtain ⟨s, rfl, HK0, HLn, HOs, HJs, HKs, HNs⟩ := hrel
   by_cases hlt : s.2 < n
   ·obtain ⟨gko, rfl⟩ : ∃ gko, gk = gko + 1 := ⟨gk - 1, by have := HK0.out; omega⟩
    have hb1 : decide (s.2 < n) = true := decide_eq_true hlt
    apply wp_part
    case h =>
     go_wp2
     first | exact ⟨rfl, rfl, rfl⟩ | exact ⟨rfl, rfl⟩ | exact rfl
    apply wp_part
    case h =>
     go_wp2
     first | exact ⟨rfl, rfl, rfl⟩ | exact ⟨rfl, rfl⟩ | exact rfl
    refine wp_seq ?_
    refine wp_block ?_
    refine wp_seq ?_
    refine wp_seq ?_
    refine (wpIn_wide (n := 0)).1 ?_
    have hlen : s.1.length < 17592186044416 := by rw [HLn.out]; exact HL.out
    have HC := zK (cloneInt.calls Ao co s.1 wr (Kd.R_reads' HOs.out).2.2 hlen)
    rw [HLn.out] at HC
    gi_wp2
    refine ⟨trivial, rfl, (callsIn_wide.2 HC.out).mono ?_⟩
    rintro e w3 ⟨v3, rfl, hR3, hB3⟩
    have hJ3 := HJ.out n2 s wr w3 HJs.out (IStep.of_below hB3)
    obtain ⟨fn, tmps, assign, body, hy, hR⟩ := HY.out n2 s w3 v3 hJ3 ⟨rfl, hlt⟩ HN2.out.1 (Nat.le_trans HNs.out hB3.size) (Kd.R_lower hR3 HNs.out)
    gi_wp2
    refine ⟨rfl, hR.mono ?_⟩
    clear hy hR
    rintro e w4 (⟨rfl, hst, s', ⟨hs1, kf, hs2⟩, hJ4⟩ | ⟨rfl, hJx⟩)
    ·have hO3 := Kd.R_below HOs.out hB3
     have HO4 := zK (Kd.R_step (w1 := w4) hO3 (fun b hb _ => hst.block b hb.2 (fun hm => by have := (HM.out b hm).1; omega)))
     have HK4 := zK (show KeepW May w w4 from ⟨Nat.le_trans HKs.out.1 (Nat.le_trans hB3.size hst.size), fun b hb hm => (hst.block b (Nat.lt_of_lt_of_le hb HN2.out.1) hm).trans ((hB3.block b (Nat.lt_of_lt_of_le hb HKs.out.1)).trans (HKs.out.2 b hb hm))⟩)
     have HN4 := zK (show n2 ≤ w4.heap.size from Nat.le_trans HNs.out (Nat.le_trans hB3.size hst.size))
     have HJ4 := zK hJ4
     have HS1 := zK hs1
     have HS2 := zK hs2; clear hst hs1 hs2 hJ4 hO3 hB3 hR3 hJ3
     gi_wp2
     go_wp2
     go_loopg [7] kf (fun kq v7 w' => ∃ (x : List Int) (i : Int), v7 = .int .i64 i ∧ Aside0 (box_step.l0 kq lo hi x i = some s'.1) ∧ Aside0 (kq ≤ kf) ∧ Aside0 (x.length = lo.length) ∧ Aside0 (Kd.R (Kd.int .i64) 2 w' w.heap.size (fun b => w.heap.size ≤ b ∧ b < n2) (.slice Ao lo.length co) x) ∧ Aside0 (IStep w.heap.size n2 w4 w'))
     case atStart =>
      refine ⟨s.1, _, ?_, HS2, ⟨Nat.le_refl _⟩, HLn, HO4, ⟨IStep.of_below (Below.refl _ _)⟩⟩
      rw [HLn.out]
     case round =>
      obtain ⟨x, i, rfl, HA, HKq, HLx, HOx, HIx⟩ := hrel
      cases gk with
      | zero => exact absurd HA.out (by simp [box_step.l0])
      | succ k1 =>
       have H := HA.out; clear HA
       simp only [box_step.l0] at H
       by_cases c7 : i ≥ 0
       ·rw [if_pos c7] at H
        have c7b0 : decide (0 ≤ i) = true := decide_eq_true c7
        by_cases c9 : i < (x.length : Int)
        ·rw [if_pos c9] at H
         rw [HLx.out] at c9
         have c9b0 : decide (i < (lo.length : Int)) = true := decide_eq_true c9
         by_cases c10 : i < (hi.length : Int)
         ·rw [if_pos c10] at H
          have c10b0 : decide (i < (hi.length : Int)) = true := decide_eq_true c10
          have hbB : ∀ b, b < w.heap.size → ¬ May b → wr.heap[b]? = w.heap[b]? := fun b hb hm => (HIx.out.block b (Nat.lt_of_lt_of_le hb HK4.out.1) (fun ⟨e1, _⟩ => by omega)).trans (HK4.out.2 b hb hm)
          have hclr : wr.cell? ⟨Bl, 0, none⟩ = some (.slice A1 lo.length c1) := (World.cell?_of_block (hbB Bl (blk_lt HBL.out) (fun hm => (HM.out _ hm).2.1 rfl))).trans hcl
          have hchr : wr.cell? ⟨Bh, 0, none⟩ = some (.slice A2 hi.length c2) := (World.cell?_of_block (hbB Bh (blk_lt HBH.out) (fun hm => (HM.out _ hm).2.2.1 rfl))).trans hch
          obtain ⟨go12, co12, eo12, gb12, gl12, cl12, HG12⟩ := Kd.R_form HOx.out (by have := HLx.out; omega)
          injection eo12 with ea en ec
          clear en
          subst ea
          subst ec
          obtain ⟨ad1, e1, hx1⟩ := Kd.at_int (Kd.R_reads' HOx.out).2.2 i c7 (by rw [HLx.out]; exact c9)
          cases e1
          simp only [add_plain] at hx1
          have hf12 := (Kd.R_celln 0 HOx.out i c7 c9).2
          obtain ⟨ad2, e2, hx2⟩ := Kd.at_int HR2.out i c7 c10
          cases e2
          replace hx2 := (World.cell?_of_block (hbB _ (World.block_lt_of_cell? w _ hx2) (fun hm => (HM.out _ hm).2.2.2.2 _ rfl (by simp [Addr.add]; split <;> rfl)))).trans hx2
          by_cases c11 : rd x i < rd hi i
          ·rw [if_pos c11] at H
           have c11b0 : decide (rd x i < rd hi i) = true := decide_eq_true c11
           have HS' := zK (Option.some.inj H); clear H
           go_wp2
           repeat (go_quiet (fail); try go_wp2)
           go_roundg gko
           case measure => omega
           case rel =>
            have hst := (HIx.out.drewN nq).setCell (p := ⟨go12, i.toNat, none⟩) (HOx.out.1 go12 (by simp [Value.ownBlock])).1 (HOx.out.1 go12 (by simp [Value.ownBlock])).2 (Value.int .i64 (wrap64 (rd x i + 1)))
            refine ⟨s', ?_, ⟨by have := HK0.out; have := HS1.out; omega, by have := HK0.out; have := HS1.out; omega⟩, ⟨by rw [← HS'.out, List.length_set]; exact HLx.out⟩, ⟨by rw [← HS'.out]; exact (Kd.R_putg (Kd.R_drewN HOx.out nq) i (wrap64 (rd x i + 1))).1⟩, ⟨HJ.out n2 s' w4 _ HJ4.out hst⟩, ⟨keepW_step HK4.out hst⟩, ⟨Nat.le_trans HN4.out hst.size⟩⟩
            have := HS1.out; have := HK0.out
            rw [HS1.out, w64_ (by omega) (by omega)]
          ·rw [if_neg c11] at H
           have c11b0 : decide (rd x i < rd hi i) = false := decide_eq_false c11
           by_cases c15 : i < (lo.length : Int)
           ·rw [if_pos c15] at H
            have H' := zK H; clear H
            obtain ⟨ad3, e3, hx3⟩ := Kd.at_int HR1.out i c7 c15
            cases e3
            replace hx3 := (World.cell?_of_block (hbB _ (World.block_lt_of_cell? w _ hx3) (fun hm => (HM.out _ hm).2.2.2.1 _ rfl (by simp [Addr.add]; split <;> rfl)))).trans hx3
            go_wp2
            repeat (go_quiet (fail); try go_wp2)
            go_roundg k1
            case measure => omega
            case rel =>
             have hst := (HIx.out.drewN nq).setCell (p := ⟨go12, i.toNat, none⟩) (HOx.out.1 go12 (by simp [Value.ownBlock])).1 (HOx.out.1 go12 (by simp [Value.ownBlock])).2 (Value.int .i64 (rd lo i))
             exact ⟨x.set i.toNat (rd lo i), wrap64 (i - 1), (by first | rfl | (simp; done) | (simp [*]; done)), H', ⟨by have := HKq.out; omega⟩, ⟨by rw [List.length_set]; exact HLx.out⟩, ⟨(Kd.R_putg (Kd.R_drewN HOx.out nq) i (rd lo i)).1⟩, ⟨hst⟩⟩
           ·rw [if_neg c15] at H; cases H
         ·rw [if_neg c10] at H; cases H
        ·rw [if_neg c9] at H; cases H
       ·rw [if_neg c7] at H
        have c7b0 : decide (0 ≤ i) = false := decide_eq_false c7
        obtain rfl := Option.some.inj H
        go_wp2
        go_roundg gko
        case measure => omega
        case rel =>
         refine ⟨s', ?_, ⟨by have := HK0.out; have := HS1.out; omega, by have := HK0.out; have := HS1.out; omega⟩, HLx, HOx, ⟨HJ.out n2 s' w4 wr HJ4.out HIx.out⟩, ⟨keepW_step HK4.out HIx.out⟩, ⟨Nat.le_trans HN4.out HIx.out.size⟩⟩
         have := HS1.out; have := HK0.out
         rw [HS1.out, w64_ (by omega) (by omega)]
    ·gi_wp2
     go_wp2
     refine bodyPost_ret (results_none rfl _ _ _) rfl ?_
     exact ⟨⟨_, rfl⟩, n2, HN2.out.1, .inr hJx⟩
   ·have hb1 : decide (s.2 < n) = false := decide_eq_false hlt
    go_wp2
    go_end0
    exact ⟨⟨_, rfl⟩, n2, HN2.out.1, .inl ⟨s.1, s.2, fun hm => by have := hm.2; simp only at this; omega, HJs.out⟩⟩
 ·have he1 : (e != 0) = true := bne_iff_ne.mpr he
  have he2 : (e == 0) = false := beq_eq_false_iff_ne.mpr he
  go_enter Try.func53, Try.ntmps53
  go_wp2_with (first
   | (go_at_call 54; refine CS.out.mono ?_; rintro e w' ⟨rfl, ⟨nd, rfl⟩⟩))
  refine bodyPost_ret (results_none rfl _ _ _) rfl ?_
  exact ⟨⟨_, rfl⟩, _, Nat.le_refl _, .inl ⟨(lo, 0), fun hm => he hm.1, H0.out _ (yN (Below.refl w.heap.size w) nd)⟩⟩
set_option maxHeartbeats 8000000 in
set_option maxRecDepth 100000 in
/-- box.All: the function value, by what its two variables hold. -/
theorem boxAll.calls (A1 A2 : Option Addr) (c1 c2 : Nat) (lo hi : List Int) (w : World)
  (hr1 : Kd.C (Kd.int .i64) w A1 lo.length lo) (hr2 : Kd.C (Kd.int .i64) w A2 hi.length hi) (hl1 : lo.length < 17592186044416) (hl2 : hi.length < 17592186044416) :
  Calls Try.prog 27 #[.slice A1 lo.length c1, .slice A2 hi.length c2] w fun e w' => ∃ (Bl Bh : Nat) (E1 E2 : Option Addr) (d1 d2 : Nat), e = .returned (.func (.func 53) #[] #[.pointer (some ⟨Bl, 0, none⟩), .pointer (some ⟨Bh, 0, none⟩)]) ∧
   w'.heap[Bl]? = some (.cells #[.slice E1 lo.length d1] 33 (0, 0)) ∧ w'.heap[Bh]? = some (.cells #[.slice E2 hi.length d2] 33 (0, 0)) ∧
   (Kd.C (Kd.int .i64) w' E1 lo.length lo ∧ lo.length ≤ d1) ∧ (Kd.C (Kd.int .i64) w' E2 hi.length hi ∧ hi.length ≤ d2) ∧
   (∀ b, b < w.heap.size → b < w'.heap.size ∧ b ≠ Bl ∧ b ≠ Bh ∧ (∀ ad, E1 = some ad → b ≠ ad.block) ∧ (∀ ad, E2 = some ad → b ≠ ad.block)) ∧ Below w.heap.size w w' := by
 have HR1 := zK hr1
 have HR2 := zK hr2
 have HL1 := zK hl1
 have HL2 := zK hl2; clear hr1 hr2 hl1 hl2
 go_enter Try.func27, Try.ntmps27
 go_wp2_with (first
  | ((with_reducible refine gate_dst (N := 2) rfl ?_); refine box_event ?hg (N := 2) ?hd (cs := #[.slice A1 lo.length c1]) (t := 33) ?hr ?_; (case hd => rfl); (case hg => rfl); (case hr => first | (go_simp; done) | (go_simp; rfl)); intro gl hg_ w1 hbox_ hb_; have BL := zK hbox_; have HB1 := zK hb_; have GL := zK hg_; clear hg_ hbox_ hb_)
  | ((with_reducible refine gate_dst (N := 3) rfl ?_); refine box_event ?hg (N := 3) ?hd (cs := #[.slice A2 hi.length c2]) (t := 33) ?hr ?_; (case hd => rfl); (case hg => rfl); (case hr => first | (go_simp; done) | (go_simp; rfl)); intro gh hg_ w2 hbox_ hb_; have BH2 := zK hbox_; have HB2 := zK hb_; have GH := zK hg_; clear hg_ hbox_ hb_; have BL2 := zK (blk_below BL.out HB2.out); have hcl := (blk_cell BL2.out 0).trans rfl; have hch := (blk_cell BH2.out 0).trans rfl))
 have HNE := zK (show gl ≠ gh by have h1 := GL.out; have h2 := GH.out; have h3 := blk_lt BL.out; omega)
 have hne1 : (gl == gh) = false := beq_eq_false_iff_ne.mpr HNE.out
 have hne2 : (gh == gl) = false := beq_eq_false_iff_ne.mpr (Ne.symm HNE.out)
 have hne3 := HNE.out
 have hne4 := Ne.symm HNE.out
 go_region_with (first
  | (go_at_call 52; (with_reducible refine (cloneInt.calls A1 c1 lo _ ?cr HL1.out).mono ?_); (case cr => exact cD (Kd.C_below (Kd.C_below HR1.out HB1.out) HB2.out)); rintro e w3 ⟨v3, rfl, hR_, hB_⟩; have HO3 := zK hR_; have HB3 := zK hB_; clear hR_ hB_; obtain ⟨E3, d3, eo3⟩ := Kd.R_slice HO3.out; subst eo3; have BL3 := zK (blk_below (zD BL2.out) HB3.out); have BH3 := zK (blk_below (zD BH2.out) HB3.out); have hcl3 := (blk_cell BL3.out 0).trans rfl; have hch3 := (blk_cell BH3.out 0).trans rfl)
  | (go_at_call 52; (with_reducible refine (cloneInt.calls A2 c2 hi _ ?cr HL2.out).mono ?_); (case cr => exact Kd.C_below (cD (Kd.C_below (Kd.C_below HR2.out HB1.out) HB2.out)) HB3.out); rintro e w4 ⟨v4, rfl, hR_, hB_⟩; have HO4 := zK hR_; have HB4 := zK hB_; clear hR_ hB_; obtain ⟨E4, d4, eo4⟩ := Kd.R_slice HO4.out; subst eo4; have BL4 := zK (blk_below BL3.out HB4.out); have BH4 := zK (blk_below BH3.out HB4.out); have hcl4 := (blk_cell BL4.out 0).trans rfl; have hch4 := (blk_cell BH4.out 0).trans rfl; have fl4 := blk_frozen BL4.out 0; have fh4 := blk_frozen BH4.out 0))
 all_goals
  go_wp2
  go_ret
  have hgl := blk_lt BL2.out
  have hgh := blk_lt BH2.out
  have h3 := Kd.R_far (Kd.R_far (Kd.R_below (Kd.R_mono (ok' := fun k => w2.heap.size ≤ k) (Kd.R_bound HO3.out) (fun _ hk => hk.2.1)) HB4.out) (p := ⟨gl, 0, none⟩) (fun k hk => by show k ≠ gl; omega) (.slice E3 lo.length d3)) (p := ⟨gh, 0, none⟩) (fun k hk => by show k ≠ gh; omega) (.slice E4 hi.length d4)
  have hs3 : w2.heap.size ≤ w3.heap.size := HB3.out.size
  have h4 := Kd.R_far (Kd.R_far (Kd.R_mono (ok' := fun k => w2.heap.size ≤ k) (Kd.R_bound HO4.out) (fun _ hk => Nat.le_trans hs3 hk.2.1)) (p := ⟨gl, 0, none⟩) (fun k hk => by show k ≠ gl; omega) (.slice E3 lo.length d3)) (p := ⟨gh, 0, none⟩) (fun k hk => by show k ≠ gh; omega) (.slice E4 hi.length d4)
  have hB : Below w.heap.size w w4 := below_step (below_step (yD (below_step HB1.out HB2.out)) HB3.out) HB4.out
  have hs1 : w.heap.size ≤ w1.heap.size := HB1.out.size
  have hs2 : w1.heap.size ≤ w2.heap.size := HB2.out.size
  have e1 := GL.out
  have e2 := GH.out
  refine ⟨gl, gh, E3, E4, d3, d4, rfl, blk_far (blk_put BL4.out 0 (.slice E3 lo.length d3) rfl) (p := ⟨gh, 0, none⟩) HNE.out _, blk_put (blk_far BH4.out (p := ⟨gl, 0, none⟩) (Ne.symm HNE.out) _) 0 (.slice E4 hi.length d4) rfl, ⟨(Kd.R_reads' h3).2.2, (Kd.R_reads' h3).2.1⟩, ⟨(Kd.R_reads' h4).2.2, (Kd.R_reads' h4).2.1⟩, fun b hb => ⟨?_, by omega, by omega, fun ad he => ?_, fun ad he => ?_⟩, ?_⟩
  ·have := hB.size
   simp [World.setCell]; omega
  ·have := h3.1 ad.block (by subst he; simp [Value.ownBlock])
   omega
  ·have := h4.1 ad.block (by subst he; simp [Value.ownBlock])
   omega
  ·exact yS (yS hB (by omega)) (by omega)

/-! ### box_First: function 22, by hand -/
/-- The points from x on, one after another, till all hold. -/
def box_First.l0 : Nat → List S70 → List Int → List Int → List Int → Int → Int → Option (List Int × Bool × Int)
 | 0, _, _, _, _, _, _ => none
 | k + 1, l, lo, hi, x, n, j => if j < n then ((ineq_All.f k l x).bind fun r => if r.2 = 0 then (if r.1 < 0 then some (x, true, 0) else (box_step.f k lo hi x).bind fun y => box_First.l0 k l lo hi y n (j + 1)) else some ([], false, r.2)) else some ([], false, 0)
def box_First.f (k : Nat) (l0 : List S70) (l1 l2 : List Int) : Option (List Int × Bool × Int) :=
 (box_check.f k l0 l1 l2).bind fun e => if e = 0 then ((box_size.f k l1 l2).bind fun s => if s.2 = 0 then (if s.1 ≤ 65536 then (if l1.length < 17592186044416 then (if l2.length < 17592186044416 then box_First.l0 k l0 l1 l2 l1 s.1 0 else none) else none) else none) else none) else some ([], false, e)
theorem box_First.mono_l : ∀ k y0 y1 y2 y3 y4 y5, LeO (box_First.l0 k y0 y1 y2 y3 y4 y5) (box_First.l0 (k + 1) y0 y1 y2 y3 y4 y5)
 | 0, _, _, _, _, _, _ => LeO.none _
 | k + 1, y0, y1, y2, y3, y4, y5 => by
   have ih0 := box_First.mono_l k
   unfold box_First.l0
   repeat' first
    | (with_reducible exact ih0 _ _ _ _ _ _)
    | (with_reducible exact ineq_All.mono _ _ _)
    | (with_reducible exact box_step.mono _ _ _ _)
    | (with_reducible exact LeO.refl _)
    | (with_reducible exact LeO.none _)
    | (with_reducible refine LeO.ite ?_ ?_)
    | (with_reducible refine LeO.bind ?_ (fun _ => ?_))
theorem box_First.mono : ∀ a0 a1 a2 k, LeO (box_First.f k a0 a1 a2) (box_First.f (k + 1) a0 a1 a2) := by
 intro a0 a1 a2 k
 have ih0 := box_First.mono_l k
 unfold box_First.f
 repeat' first
  | (with_reducible exact ih0 _ _ _ _ _ _)
  | (with_reducible exact box_check.mono _ _ _ _)
  | (with_reducible exact box_size.mono _ _ _)
  | (with_reducible exact LeO.refl _)
  | (with_reducible exact LeO.none _)
  | (with_reducible refine LeO.ite ?_ ?_)
  | (with_reducible refine LeO.bind ?_ (fun _ => ?_))
theorem calls_marks {P : Program} {f : FuncId} {fn : Func} {c : Code} {args : Array Value} {w : World} {R : Ending → World → Prop} (hf : P.funcs[f]? = some fn) (hb : fn.body = some c)
  (h : c.wp P (bodyPostM Fence.wide 0 P fn R) { tmps := args ++ Array.replicate (fn.ntmps - args.size) undef, defers := [] } w) : Calls P f args w R :=
 (callsIn_wide (n := 0)).1 (callsIn_of_wp_marks hf hb trivial (wpIn_wide.2 h) rfl)
section rounds
attribute [local go_sem] Oper.semAt_some
set_option maxHeartbeats 8000000 in
set_option maxRecDepth 100000 in
theorem box_First.calls (k : Nat) (A0 : Option Addr) (c0 : Nat) (l0 : List (S70)) (A1 : Option Addr) (c1 : Nat) (l1 : List Int) (A2 : Option Addr) (c2 : Nat) (l2 : List Int) (r1 : List Int) (r2 : Bool) (r3 : Int) (w : World) (hr0 : Kd.C k70 w A0 l0.length l0) (hc0 : l0.length ≤ c0) (hr1 : Kd.C (Kd.int .i64) w A1 l1.length l1) (hc1 : l1.length ≤ c1) (hr2 : Kd.C (Kd.int .i64) w A2 l2.length l2) (hc2 : l2.length ≤ c2) (h : box_First.f k l0 l1 l2 = some (r1, r2, r3)) :
  Calls Try.prog 22 #[.slice A0 l0.length c0, .slice A1 l1.length c1, .slice A2 l2.length c2] w fun e w' => ∃ v0_ : Value, e = .returned (.tuple #[v0_, .bool r2, .int .i64 r3]) ∧ Kd.R (Kd.int .i64) 2 w' w.heap.size (fun _ => True) v0_ r1 ∧ Below w.heap.size w w' := by
 have HR0 := zK hr0
 have HC0 := zK hc0
 have HR1 := zK hr1
 have HC1 := zK hc1
 have HR2 := zK hr2
 have HC2 := zK hc2; clear hr0 hc0 hr1 hc1 hr2 hc2
 unfold box_First.f at h
 obtain ⟨e, hE, h⟩ := Option.bind_eq_some_iff.1 h
 have HE := zK hE; clear hE
 by_cases he : e = 0
 ·rw [if_pos he] at h
  subst he
  obtain ⟨⟨n, e2⟩, hS, h⟩ := Option.bind_eq_some_iff.1 h
  simp only at h
  by_cases he2 : e2 = 0
  ·rw [if_pos he2] at h
   subst he2
   by_cases hn : n ≤ 65536
   ·rw [if_pos hn] at h
    by_cases hl1 : l1.length < 17592186044416
    ·rw [if_pos hl1] at h
     by_cases hl2 : l2.length < 17592186044416
     ·rw [if_pos hl2] at h
      have HS := zK hS
      have HN := zK hn
      have HL1 := zK hl1
      have HL2 := zK hl2; have H := zK h; clear hS hn hl1 hl2 h
      refine calls_marks Try.func22 rfl ?_
      simp only [Try.ntmps22, List.size_toArray, List.length_cons, List.length_nil, Nat.reduceAdd, Nat.reduceSub, Array.replicate_succ, Array.replicate_zero, List.push_toArray, List.append_toArray, List.nil_append, List.cons_append]
      go_wp2_with (first
       | ((with_reducible refine gate_dst (N := 3) rfl ?_); refine box_event ?hg (N := 3) ?hd (cs := #[.slice A0 l0.length c0]) (t := 22) ?hr ?_; (case hd => rfl); (case hg => rfl); (case hr => first | (go_simp; done) | (go_simp; rfl)); intro b3 hg_ w1 hbox_ hb_; have BB3 := zK hbox_; have HB1 := zK hb_; have G3 := zK hg_; clear hg_ hbox_ hb_)
       | ((with_reducible refine gate_dst (N := 6) rfl ?_); refine box_event ?hg (N := 6) ?hd (cs := #[.slice none 0 0]) (t := 33) ?hr ?_; (case hd => rfl); (case hg => rfl); (case hr => first | (go_simp; done) | (go_simp; rfl)); intro b6 hg_ w2 hbox_ hb_; have BB6 := zK hbox_; have HB2 := zK hb_; have G6 := zK hg_; clear hg_ hbox_ hb_)
       | ((with_reducible refine gate_dst (N := 7) rfl ?_); refine box_event ?hg (N := 7) ?hd (cs := #[.bool false]) (t := 4) ?hr ?_; (case hd => rfl); (case hg => rfl); (case hr => first | (go_simp; done) | (go_simp; rfl)); intro b7 hg_ w3 hbox_ hb_; have BB7 := zK hbox_; have HB3 := zK hb_; have G7 := zK hg_; clear hg_ hbox_ hb_)
       | ((with_reducible refine gate_dst (N := 8) rfl ?_); refine box_event ?hg (N := 8) ?hd (cs := #[.int .i64 0]) (t := 26) ?hr ?_; (case hd => rfl); (case hg => rfl); (case hr => first | (go_simp; done) | (go_simp; rfl)); intro b8 hg_ w4 hbox_ hb_; have BB8 := zK hbox_; have HB4 := zK hb_; have G8 := zK hg_; clear hg_ hbox_ hb_; have hcl := (blk_cell (blk_below (blk_below (blk_below BB3.out HB2.out) HB3.out) HB4.out) 0).trans rfl)
       | (go_at_call 47; refine (box_check.calls k A0 c0 l0 A1 c1 l1 A2 c2 l2 0 w4 (Kd.C_below (Kd.C_below (Kd.C_below (Kd.C_below HR0.out HB1.out) HB2.out) HB3.out) HB4.out) HC0.out (Kd.C_below (Kd.C_below (Kd.C_below (Kd.C_below HR1.out HB1.out) HB2.out) HB3.out) HB4.out) HC1.out (Kd.C_below (Kd.C_below (Kd.C_below (Kd.C_below HR2.out HB1.out) HB2.out) HB3.out) HB4.out) HC2.out HE.out).mono ?_; rintro e w5 ⟨rfl, hb_⟩; have HB5 := zK hb_; clear hb_)
       | (go_at_call 27; refine (boxAll.calls A1 A2 c1 c2 l1 l2 w5 (Kd.C_below (Kd.C_below (Kd.C_below (Kd.C_below (Kd.C_below HR1.out HB1.out) HB2.out) HB3.out) HB4.out) HB5.out) (Kd.C_below (Kd.C_below (Kd.C_below (Kd.C_below (Kd.C_below HR2.out HB1.out) HB2.out) HB3.out) HB4.out) HB5.out) HL1.out HL2.out).mono ?_; rintro e w6 ⟨Bl, Bh, E1, E2, d1, d2, rfl, hbl, hbh, ⟨hq1, hd1⟩, ⟨hq2, hd2⟩, hfr, hb_⟩; have HB6 := zK hb_; have HBL := zK hbl; have HBH := zK hbh; have HQ1 := zK hq1; have HQ2 := zK hq2; have HFR := zK hfr; clear hb_ hbl hbh hq1 hq2 hfr))
      have h53 := (blk_below (blk_below (blk_below (blk_below BB3.out HB2.out) HB3.out) HB4.out) HB5.out)
      have h56 := (blk_below (blk_below (blk_below BB6.out HB3.out) HB4.out) HB5.out)
      have h57 := (blk_below (blk_below BB7.out HB4.out) HB5.out)
      have h58 := (blk_below BB8.out HB5.out)
      have L3 := blk_lt h53
      have L6 := blk_lt h56
      have L7 := blk_lt h57
      have L8 := blk_lt h58
      have hw6 : Below w.heap.size w w6 := below_step (below_step (below_step (below_step (below_step HB1.out HB2.out) HB3.out) HB4.out) HB5.out) HB6.out
      have h63 := blk_below h53 HB6.out
      have h66 := blk_below h56 HB6.out
      have h67 := blk_below h57 HB6.out
      have h68 := blk_below h58 HB6.out
      have hs6 := HB6.out.size
      have hE6 := hw6.size
      have M6 : w.heap.size ≤ b6 := by have h1 := G6.out; have h2 := HB1.out.size; omega
      have M7 : w.heap.size ≤ b7 := by have h1 := G7.out; have h2 := HB1.out.size; have h3 := HB2.out.size; omega
      have M8 : w.heap.size ≤ b8 := by have h1 := G8.out; have h2 := HB1.out.size; have h3 := HB2.out.size; have h4 := HB3.out.size; omega
      have n67 : b6 ≠ b7 := by have h1 := G7.out; have h2 := blk_lt BB6.out; omega
      have n68 : b6 ≠ b8 := by have h1 := G8.out; have h2 := blk_lt (blk_below BB6.out HB3.out); omega
      have n78 : b7 ≠ b8 := by have h1 := G8.out; have h2 := blk_lt BB7.out; omega
      have n76 := Ne.symm n67
      have n86 := Ne.symm n68
      have n87 := Ne.symm n78
      refine wp_range (gf := 53) (lb := #[.pointer (some ⟨Bl, 0, none⟩), .pointer (some ⟨Bh, 0, none⟩)]) rfl (enters_of Try.func53 (by kernel_rfl) rfl) rfl
       (May := fun b => b = b6 ∨ b = b7 ∨ b = b8) (more := boxMore n 0) (nxt := boxNxt l1 l2) (s0 := (l1, 0)) (enc := boxEnc)
       (fun W hb => boxAll1 k Bl Bh E1 E2 d1 d2 l1 l2 n 0 W _ (blk_below HBL.out hb) (blk_below HBH.out hb) (Kd.C_below HQ1.out hb) hd1 (Kd.C_below HQ2.out hb) hd2 (fun b hm => ?hM) HS.out HN.out HL1.out)
       (fun b hm => by rcases hm with rfl | rfl | rfl <;> omega) boxEnc_step
       (fun m s W => (∃ kq, box_First.l0 kq l0 l1 l2 s.1 n s.2 = some (r1, r2, r3)) ∧ W.heap[b3]? = some (.cells #[.slice A0 l0.length c0] 22 (0, 0)) ∧ W.heap[b6]? = some (.cells #[.slice none 0 0] 33 (0, 0)) ∧ W.heap[b7]? = some (.cells #[.bool false] 4 (0, 0)) ∧ W.heap[b8]? = some (.cells #[.int .i64 0] 26 (0, 0)) ∧ Below w.heap.size w W)
       (fun c m W => c = .ret ∧ w6.heap.size < m ∧ ∃ v : Value, boxEnc W m v (r1, 0) ∧ W.heap[b6]? = some (.cells #[v] 33 (0, 0)) ∧ W.heap[b7]? = some (.cells #[.bool r2] 4 (0, 0)) ∧ W.heap[b8]? = some (.cells #[.int .i64 r3] 26 (0, 0)) ∧ Below w.heap.size w W)
       ?hI ?hIx ?h0 ?round ?done ?stop
      case hM =>
       have hlt : b < w5.heap.size := by rcases hm with rfl | rfl | rfl <;> omega
       obtain ⟨f1, f2⟩ := HFR.out b hlt
       exact ⟨Nat.lt_of_lt_of_le f1 hb.size, f2⟩
      case hI =>
       rintro m s A B ⟨hk, g3, g6, g7, g8, hb⟩ hs
       exact ⟨hk, hs.blk g3 (by omega), hs.blk g6 (by omega), hs.blk g7 (by omega), hs.blk g8 (by omega), hs.below' hb hE6 (Nat.le_refl _)⟩
      case hIx =>
       rintro c m A B ⟨hc, hmm, v, hv, g6, g7, g8, hb⟩ hs
       exact ⟨hc, hmm, v, boxEnc_step A B m v (r1, 0) hv (hs.wider (Nat.zero_le _)), hs.blk g6 (by omega), hs.blk g7 (by omega), hs.blk g8 (by omega), hs.below' hb hE6 (Nat.le_refl _)⟩
      case h0 =>
       intro W hb
       exact ⟨⟨k, H.out⟩, blk_below h63 hb, blk_below h66 hb, blk_below h67 hb, blk_below h68 hb, hw6.trans (hb.mono hE6)⟩
      case round =>
       intro l m s v W hm hm2
       gi_wp2
       refine ⟨trivial, ?_⟩
       rintro Wb ⟨⟨kq, hq⟩, g3, g6, g7, g8, hb⟩ hn he
       obtain ⟨Av, cv, rfl⟩ := Kd.R_slice he
       obtain ⟨_, hcv, hCv⟩ := Kd.R_reads' he
       cases kq with
       | zero => exact absurd hq (by simp [box_First.l0])
       | succ kq =>
        simp only [box_First.l0] at hq
        rw [if_pos hm.2] at hq
        obtain ⟨⟨q1, q2⟩, hA, hq⟩ := Option.bind_eq_some_iff.1 hq
        simp only at hq
        have CA := zK (ineq_All.calls kq A0 c0 l0 Av cv s.1 q1 q2 Wb (Kd.C_below (HR0.out) (hb)) HC0.out hCv hcv hA)
        have hz3 := (blk_cell g3 0).trans rfl
        gi_wp2
        refine ⟨trivial, rfl, (CallsIn.inRound l (callsIn_wide.2 CA.out)).mono ?_⟩
        rintro e W' ⟨rfl, hB'⟩
        have hBw : Below w.heap.size w W' := hb.trans (hB'.mono hb.size)
        have hRS : RStep (fun b => b = b6 ∨ b = b7 ∨ b = b8) m Wb W' := RStep.of_below hB' hn
        have k3 := blk_below g3 hB'
        have k6 := blk_below g6 hB'
        have k7 := blk_below g7 hB'
        have k8 := blk_below g8 hB'
        have he' : boxEnc W' m (.slice Av s.1.length cv) (s.1, 0) := Kd.R_below he hB'
        have hz6 := (blk_cell k6 0).trans rfl
        have hz7 := (blk_cell k7 0).trans rfl
        have hz8 := (blk_cell k8 0).trans rfl
        have fz6 := blk_frozen k6 0
        have fz7 := blk_frozen k7 0
        have fz8 := blk_frozen k8 0
        by_cases c1 : q2 = 0
        ·subst c1
         rw [if_pos rfl] at hq
         by_cases c2 : q1 < 0
         ·rw [if_pos c2] at hq
          have c2b : decide (q1 < 0) = true := decide_eq_true c2
          simp only [Option.some.injEq, Prod.mk.injEq] at hq
          obtain ⟨rfl, rfl, rfl⟩ := hq; clear CA hA
          gi_wp2
          exact ⟨((hRS.setCell (.inl rfl) _).setCell (.inr (.inl rfl)) _).setCell (.inr (.inr rfl)) _, rfl, by omega, .slice Av s.1.length cv, Kd.R_far (Kd.R_far (Kd.R_far (Kd.R_mono (ok' := fun k => m ≤ k) (Kd.R_bound he') (fun _ hk => hk.2.1)) (p := ⟨b6, 0, none⟩) (fun k hk => by show k ≠ b6; omega) _) (p := ⟨b7, 0, none⟩) (fun k hk => by show k ≠ b7; omega) _) (p := ⟨b8, 0, none⟩) (fun k hk => by show k ≠ b8; omega) _ |> (Kd.R_mono · (fun _ _ => trivial)),
           blk_far (blk_far (blk_put k6 0 (.slice Av s.1.length cv) rfl) (p := ⟨b7, 0, none⟩) n67 (.bool true)) (p := ⟨b8, 0, none⟩) n68 (.int .i64 0), blk_far (blk_put (blk_far k7 (p := ⟨b6, 0, none⟩) n76 (.slice Av s.1.length cv)) 0 (.bool true) rfl) (p := ⟨b8, 0, none⟩) n78 (.int .i64 0), blk_put (blk_far (blk_far k8 (p := ⟨b6, 0, none⟩) n86 (.slice Av s.1.length cv)) (p := ⟨b7, 0, none⟩) n87 (.bool true)) 0 (.int .i64 0) rfl, yS (yS (yS hBw M6) M7) M8⟩
         ·rw [if_neg c2] at hq
          have c2b : decide (q1 < 0) = false := decide_eq_false c2
          obtain ⟨y, hy, hq⟩ := Option.bind_eq_some_iff.1 hq
          have HY := zK hy; clear CA hA hy
          gi_wp2
          exact ⟨hRS, (y, s.2 + 1), ⟨rfl, kq, HY.out⟩, ⟨kq, hq⟩, k3, k6, k7, k8, hBw⟩
        ·rw [if_neg c1] at hq
         have c1b : (q2 != 0) = true := bne_iff_ne.mpr c1
         simp only [Option.some.injEq, Prod.mk.injEq] at hq
         obtain ⟨rfl, rfl, rfl⟩ := hq; clear CA hA
         gi_wp2
         exact ⟨((hRS.setCell (.inl rfl) _).setCell (.inr (.inl rfl)) _).setCell (.inr (.inr rfl)) _, rfl, by omega, .slice none 0 0, Kd.R_nil _ _ _ _ _,
          blk_far (blk_far (blk_put k6 0 (.slice none 0 0) rfl) (p := ⟨b7, 0, none⟩) n67 (.bool false)) (p := ⟨b8, 0, none⟩) n68 (.int .i64 q2), blk_far (blk_put (blk_far k7 (p := ⟨b6, 0, none⟩) n76 (.slice none 0 0)) 0 (.bool false) rfl) (p := ⟨b8, 0, none⟩) n78 (.int .i64 q2), blk_put (blk_far (blk_far k8 (p := ⟨b6, 0, none⟩) n86 (.slice none 0 0)) (p := ⟨b7, 0, none⟩) n87 (.bool false)) 0 (.int .i64 q2) rfl, yS (yS (yS hBw M6) M7) M8⟩
      case done =>
       rintro m s W ⟨⟨kq, hq⟩, g3, g6, g7, g8, hb⟩ hm hK
       have hq' : box_First.l0 kq l0 l1 l2 s.1 n s.2 = some (r1, r2, r3) := hq
       cases kq with
       | zero => exact absurd hq' (by simp [box_First.l0])
       | succ kq =>
        simp only [box_First.l0] at hq'
        rw [if_neg (fun e => hm ⟨rfl, e⟩)] at hq'
        simp only [Option.some.injEq, Prod.mk.injEq] at hq'
        obtain ⟨rfl, rfl, rfl⟩ := hq'
        have hz6 := (blk_cell g6 0).trans rfl
        have hz7 := (blk_cell g7 0).trans rfl
        have hz8 := (blk_cell g8 0).trans rfl
        have fz6 := blk_frozen g6 0
        have fz7 := blk_frozen g7 0
        have fz8 := blk_frozen g8 0
        dsimp only
        clear hq
        go_wp2
        have u6 := blk_far (blk_far (blk_put g6 0 (.slice none 0 0) rfl) (p := ⟨b7, 0, none⟩) n67 (.bool false)) (p := ⟨b8, 0, none⟩) n68 (.int .i64 0)
        have u7 := blk_far (blk_put (blk_far g7 (p := ⟨b6, 0, none⟩) n76 (.slice none 0 0)) 0 (.bool false) rfl) (p := ⟨b8, 0, none⟩) n78 (.int .i64 0)
        have u8 := blk_put (blk_far (blk_far g8 (p := ⟨b6, 0, none⟩) n86 (.slice none 0 0)) (p := ⟨b7, 0, none⟩) n87 (.bool false)) 0 (.int .i64 0) rfl
        have hD : (((W.setCell ⟨b6, 0, none⟩ (.slice none 0 0)).setCell ⟨b7, 0, none⟩ (.bool false)).setCell ⟨b8, 0, none⟩ (.int .i64 0)).heap[w6.heap.size]? = some (.deferred (some [])) := (Below.heap_setCell _ _ _ _ (by show _ ≠ b8; omega)).trans ((Below.heap_setCell _ _ _ _ (by show _ ≠ b7; omega)).trans ((Below.heap_setCell _ _ _ _ (by show _ ≠ b6; omega)).trans hK))
        refine ⟨by simp, .inl ⟨_, _, rfl, run_takeDeferred hD, ?_⟩⟩
        have v6 := blk_cell (blk_putObj (o' := .deferred none) u6 (D := w6.heap.size) (by omega)) 0
        have v7 := blk_cell (blk_putObj (o' := .deferred none) u7 (D := w6.heap.size) (by omega)) 0
        have v8 := blk_cell (blk_putObj (o' := .deferred none) u8 (D := w6.heap.size) (by omega)) 0
        refine ⟨.tuple #[.slice none 0 0, .bool false, .int .i64 0], ?_, _, rfl, Kd.R_nil _ _ _ _ _, below_putObj (yS (yS (yS hb M6) M7) M8) hE6⟩
        simp [results, Try.f22, go_sem, v6, v7, v8]
      case stop =>
       rintro c m W ⟨rfl, hmm, v, hv, g6, g7, g8, hb⟩ hK
       dsimp only
       go_wp2
       refine ⟨by simp, .inl ⟨_, _, rfl, run_takeDeferred hK, ?_⟩⟩
       have v6 := blk_cell (blk_putObj (o' := .deferred none) g6 (D := w6.heap.size) (by omega)) 0
       have v7 := blk_cell (blk_putObj (o' := .deferred none) g7 (D := w6.heap.size) (by omega)) 0
       have v8 := blk_cell (blk_putObj (o' := .deferred none) g8 (D := w6.heap.size) (by omega)) 0
       refine ⟨.tuple #[v, .bool r2, .int .i64 r3], ?_, v, rfl, ?_, below_putObj hb hE6⟩
       ·simp [results, Try.f22, go_sem, v6, v7, v8]
       ·exact Kd.R_mono (Kd.R_lower (Kd.R_step (w1 := W.putObj w6.heap.size (.deferred none)) (Kd.R_mono (ok' := fun k => m ≤ k) (Kd.R_bound hv) (fun _ hk => hk.2.1)) (fun k hk _ => World.putObj_heap_other (by omega))) (by omega)) (fun _ _ => trivial)
     ·rw [if_neg hl2] at h; cases h
    ·rw [if_neg hl1] at h; cases h
   ·rw [if_neg hn] at h; cases h
  ·rw [if_neg he2] at h; cases h
 ·rw [if_neg he] at h
  simp only [Option.some.injEq, Prod.mk.injEq] at h
  obtain ⟨rfl, rfl, rfl⟩ := h
  have he1 : (e != 0) = true := bne_iff_ne.mpr he
  have he2 : (e == 0) = false := beq_eq_false_iff_ne.mpr he
  go_enter Try.func22, Try.ntmps22
  go_wp2_with (first
   | ((with_reducible refine gate_dst (N := 3) rfl ?_); refine box_event ?hg (N := 3) ?hd (cs := #[.slice A0 l0.length c0]) (t := 22) ?hr ?_; (case hd => rfl); (case hg => rfl); (case hr => first | (go_simp; done) | (go_simp; rfl)); intro b3 hg_ w1 hbox_ hb_; have BB3 := zK hbox_; have HB1 := zK hb_; have G3 := zK hg_; clear hg_ hbox_ hb_)
   | ((with_reducible refine gate_dst (N := 6) rfl ?_); refine box_event ?hg (N := 6) ?hd (cs := #[.slice none 0 0]) (t := 33) ?hr ?_; (case hd => rfl); (case hg => rfl); (case hr => first | (go_simp; done) | (go_simp; rfl)); intro b6 hg_ w2 hbox_ hb_; have BB6 := zK hbox_; have HB2 := zK hb_; have G6 := zK hg_; clear hg_ hbox_ hb_)
   | ((with_reducible refine gate_dst (N := 7) rfl ?_); refine box_event ?hg (N := 7) ?hd (cs := #[.bool false]) (t := 4) ?hr ?_; (case hd => rfl); (case hg => rfl); (case hr => first | (go_simp; done) | (go_simp; rfl)); intro b7 hg_ w3 hbox_ hb_; have BB7 := zK hbox_; have HB3 := zK hb_; have G7 := zK hg_; clear hg_ hbox_ hb_)
   | ((with_reducible refine gate_dst (N := 8) rfl ?_); refine box_event ?hg (N := 8) ?hd (cs := #[.int .i64 0]) (t := 26) ?hr ?_; (case hd => rfl); (case hg => rfl); (case hr => first | (go_simp; done) | (go_simp; rfl)); intro b8 hg_ w4 hbox_ hb_; have BB8 := zK hbox_; have HB4 := zK hb_; have G8 := zK hg_; clear hg_ hbox_ hb_; have hcl := (blk_cell (blk_below (blk_below (blk_below BB3.out HB2.out) HB3.out) HB4.out) 0).trans rfl)
   | (go_at_call 47; refine (box_check.calls k A0 c0 l0 A1 c1 l1 A2 c2 l2 e w4 (Kd.C_below (Kd.C_below (Kd.C_below (Kd.C_below HR0.out HB1.out) HB2.out) HB3.out) HB4.out) HC0.out (Kd.C_below (Kd.C_below (Kd.C_below (Kd.C_below HR1.out HB1.out) HB2.out) HB3.out) HB4.out) HC1.out (Kd.C_below (Kd.C_below (Kd.C_below (Kd.C_below HR2.out HB1.out) HB2.out) HB3.out) HB4.out) HC2.out HE.out).mono ?_; rintro e w5 ⟨rfl, hb_⟩; have HB5 := zK hb_; clear hb_; have k6 := (blk_below (blk_below (blk_below BB6.out HB3.out) HB4.out) HB5.out); have k7 := (blk_below (blk_below BB7.out HB4.out) HB5.out); have k8 := blk_below BB8.out HB5.out; have HK6 := zK k6; have HK7 := zK k7; have HK8 := zK k8; have hz6 := (blk_cell k6 0).trans rfl; have hz7 := (blk_cell k7 0).trans rfl; have hz8 := (blk_cell k8 0).trans rfl; have fz6 := blk_frozen k6 0; have fz7 := blk_frozen k7 0; have fz8 := blk_frozen k8 0; clear k6 k7 k8; have n67 : b6 ≠ b7 := (by have h1 := G7.out; have h2 := blk_lt BB6.out; omega); have n68 : b6 ≠ b8 := (by have h1 := G8.out; have h2 := blk_lt (blk_below BB6.out HB3.out); omega); have n78 : b7 ≠ b8 := (by have h1 := G8.out; have h2 := blk_lt BB7.out; omega); have n76 := Ne.symm n67; have n86 := Ne.symm n68; have n87 := Ne.symm n78))
  have v6 := blk_cell (blk_far (blk_far (blk_put HK6.out 0 (.slice none 0 0) rfl) (p := ⟨b7, 0, none⟩) n67 (.bool false)) (p := ⟨b8, 0, none⟩) n68 (.int .i64 e)) 0
  have v7 := blk_cell (blk_far (blk_put (blk_far HK7.out (p := ⟨b6, 0, none⟩) n76 (.slice none 0 0)) 0 (.bool false) rfl) (p := ⟨b8, 0, none⟩) n78 (.int .i64 e)) 0
  have v8 := blk_cell (blk_put (blk_far (blk_far HK8.out (p := ⟨b6, 0, none⟩) n86 (.slice none 0 0)) (p := ⟨b7, 0, none⟩) n87 (.bool false)) 0 (.int .i64 e) rfl) 0
  refine bodyPost_ret (v := .tuple #[.slice none 0 0, .bool false, .int .i64 e]) (by simp [results, Try.f22, go_sem, v6, v7, v8]) rfl ?_
  have M6 : w.heap.size ≤ b6 := by have h1 := G6.out; have h2 := HB1.out.size; omega
  have M7 : w.heap.size ≤ b7 := by have h1 := G7.out; have h2 := HB1.out.size; have h3 := HB2.out.size; omega
  have M8 : w.heap.size ≤ b8 := by have h1 := G8.out; have h2 := HB1.out.size; have h3 := HB2.out.size; have h4 := HB3.out.size; omega
  exact ⟨_, rfl, Kd.R_nil _ _ _ _ _, yS (yS (yS (below_step (below_step (below_step (below_step HB1.out HB2.out) HB3.out) HB4.out) HB5.out) M6) M7) M8⟩
end rounds

end Go.Proofs.Ytkfbfgkdabljiaa.PBoxWithin
