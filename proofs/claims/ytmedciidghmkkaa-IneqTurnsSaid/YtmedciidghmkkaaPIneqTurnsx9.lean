/- What the call of each function that the law reaches comes to: it answers as the plain function of the same name does, wherever that one answers; and the law itself out of its plain form. Written by a program of this session (an extended copy of the printer); no condition but what stands in each theorem. -/
import Derived.Test.YtmedciidghmkkaaPIneqTurnsx0
namespace Go.Proofs.Ytmedciidghmkkaa.PIneqTurns
open Go.RowKit Go.Proofs.YtmedciidghmkkaaW.PrintWords Go.Proofs.YtmedciidghmkkaaW.PrintLast Go.Proofs.YtmedciidghmkkaaW.PrintMore
open Go.Proofs.YtmedciidghmkkaaW.PrintWords renaming blk_drewN → zN, blk_drew → zD, blk_alloc → zA, below_alloc → yA, pw_below_drewN → yN, below_drew1 → yD, below_set → yS, gate_callee → zC
open Go.Proofs.YtmedciidghmkkaaW.PrintWords.Aside0 renaming mk → zK
attribute [local go_sem] max2_int min2_int max_two min_two max_three min_three max_four min_four   -- for this text's walks alone
set_option linter.unusedVariables false
set_option linter.unusedSimpArgs false

/-! ### sequiturref28_Form: function 17 -/
def sequiturref28_Form.l0 : Nat → Int → Int → List (S47) → Option (Bool)
 | 0, _, _, _ => none
 | k + 1, x3, x294000, x294001 => if x3 < (x294001.length : Int) then (if 0 ≤ x3 then (if ((rd_T47 x294001 x3).f0) < 0 then (some false) else (if ((rd_T47 x294001 x3).f0) ≥ 64 then (some false) else (if ((rd_T47 x294001 x3).f1) = 0 then (some false) else (if x3 > 0 then (if 0 ≤ (wrap64 (x3 - 1)) then (if (wrap64 (x3 - 1)) < (x294001.length : Int) then (if ((rd_T47 x294001 x3).f0) ≤ ((rd_T47 x294001 (wrap64 (x3 - 1))).f0) then (some false) else (sequiturref28_Form.l0 k (wrap64 (x3 + 1)) x294000 x294001)) else (none)) else (none)) else (sequiturref28_Form.l0 k (wrap64 (x3 + 1)) x294000 x294001))))) else (none)) else (some true)
def sequiturref28_Form.f (k : Nat) (a0_0 : Int) (l0_1 : List (S47)) : Option (Bool) := sequiturref28_Form.l0 k 0 a0_0 l0_1
theorem sequiturref28_Form.mono_l : ∀ k, (∀ y0 y1 y2, LeO (sequiturref28_Form.l0 k y0 y1 y2) (sequiturref28_Form.l0 (k + 1) y0 y1 y2))
 | 0 => fun _ _ _ r h => by simp [sequiturref28_Form.l0] at h
 | k + 1 => by
  have ih0 := sequiturref28_Form.mono_l k
  ·intro y0 y1 y2
   unfold sequiturref28_Form.l0
   repeat' first
   | (with_reducible exact ih0 _ _ _)
   | (with_reducible exact LeO.refl _)
   | (with_reducible exact LeO.none _)
   | (with_reducible refine LeO.ite ?_ ?_)
   | (with_reducible refine LeO.bind ?_ (fun _ => ?_))
   | exact ih0 _ _ _
   | exact LeO.none _
   | refine LeO.ite ?_ ?_
   | refine LeO.bind ?_ (fun _ => ?_)
theorem sequiturref28_Form.mono : ∀ a0 a1 k, LeO (sequiturref28_Form.f k a0 a1) (sequiturref28_Form.f (k + 1) a0 a1) := by
 intro a0 a1 k
 have ih0 := sequiturref28_Form.mono_l k
 unfold sequiturref28_Form.f
 repeat' first
   | (with_reducible exact ih0 _ _ _)
   | (with_reducible exact LeO.refl _)
   | (with_reducible exact LeO.none _)
   | (with_reducible refine LeO.ite ?_ ?_)
   | (with_reducible refine LeO.bind ?_ (fun _ => ?_))
   | exact ih0 _ _ _
   | exact LeO.none _
   | refine LeO.ite ?_ ?_
   | refine LeO.bind ?_ (fun _ => ?_)
set_option maxHeartbeats 8000000 in
set_option maxRecDepth 100000 in
theorem sequiturref28_Form.calls (k : Nat) (a0_0 : Int) (A0_1 : Option Addr) (c0_1 : Nat) (l0_1 : List (S47)) (r : Bool) (w : World) (hr0_1 : Kd.C k47 w A0_1 l0_1.length l0_1) (hc0_1 : l0_1.length ≤ c0_1) (h : sequiturref28_Form.f k a0_0 l0_1 = some r) :
  Calls Try.prog 17 #[.agg #[.int .i64 a0_0, .slice A0_1 l0_1.length c0_1]] w fun e w' => e = .returned (.bool r) ∧ Below w.heap.size w w' := by
 have hu28 := Try.underlying28
 have HR0_1 := zK hr0_1
 have HC0_1 := zK hc0_1
 clear hr0_1 hc0_1
 have HB := zK (Below.refl w.heap.size w)
 have H : (sequiturref28_Form.l0 k 0 a0_0 l0_1) = some r := h
 clear h
 have H' := zK H
 clear H
 go_enter Try.func17, Try.ntmps17
 go_wp2_with (first | ((with_reducible refine gate_dst (N := 1) rfl ?_); refine box_event ?hg (N := 1) ?hd (cs := #[.int .i64 a0_0, .slice A0_1 l0_1.length c0_1]) (t := 28) ?hr ?_; (case hd => rfl); (case hg => rfl); (case hr => first | (go_simp; done) | (go_simp; rfl)); intro gb293 hg w2 hbox hb; have BK293 := zK (hbox); have GW293 := zK ((by rw [hg]; exact (below_size (zo HB)) : w.heap.size ≤ gb293)); have GE293 := zK ((by rw [hg]; exact (below_size (zo HB)) : w.heap.size ≤ gb293)); replace HB := zK (below_step (zo HB) hb); clear hb hbox hg))
 repeat (go_quiet (first | ((with_reducible refine gate_dst (N := 1) rfl ?_); refine box_event ?hg (N := 1) ?hd (cs := #[.int .i64 a0_0, .slice A0_1 l0_1.length c0_1]) (t := 28) ?hr ?_; (case hd => rfl); (case hg => rfl); (case hr => first | (go_simp; done) | (go_simp; rfl)); intro gb293 hg w2 hbox hb; have BK293 := zK (hbox); have GW293 := zK ((by rw [hg]; exact (below_size (zo HB)) : w.heap.size ≤ gb293)); have GE293 := zK ((by rw [hg]; exact (below_size (zo HB)) : w.heap.size ≤ gb293)); replace HB := zK (below_step (zo HB) hb); clear hb hbox hg)); try go_wp2_with (first | ((with_reducible refine gate_dst (N := 1) rfl ?_); refine box_event ?hg (N := 1) ?hd (cs := #[.int .i64 a0_0, .slice A0_1 l0_1.length c0_1]) (t := 28) ?hr ?_; (case hd => rfl); (case hg => rfl); (case hr => first | (go_simp; done) | (go_simp; rfl)); intro gb293 hg w2 hbox hb; have BK293 := zK (hbox); have GW293 := zK ((by rw [hg]; exact (below_size (zo HB)) : w.heap.size ≤ gb293)); have GE293 := zK ((by rw [hg]; exact (below_size (zo HB)) : w.heap.size ≤ gb293)); replace HB := zK (below_step (zo HB) hb); clear hb hbox hg)))
 go_loopg [3] k (fun kq v3 w' => ∃ (x3_1 : Int), v3 = .int .i64 x3_1 ∧ Aside0 (sequiturref28_Form.l0 kq x3_1 a0_0 l0_1 = some r) ∧ Aside0 (kq ≤ k) ∧ Aside0 (w'.heap[gb293]? = some (.cells #[.int .i64 a0_0, (.slice A0_1 l0_1.length c0_1)] 28 (0, 0))) ∧ Aside0 (Below w.heap.size w w'))
 case atStart => exact ⟨(0), (by first | rfl | (simp; done) | (simp [*]; done)), H', ⟨Nat.le_refl _⟩, ⟨zb BK293⟩, ⟨zo HB⟩⟩
 case round =>
  clear H'
  try clear c1
  try clear p2
  obtain ⟨x3_1, rfl, HA, HK1, BK293, HB⟩ := hrel
  cases gk with
  | zero => exact absurd HA.out (by simp [sequiturref28_Form.l0])
  | succ k1 =>
   have H := HA.out
   clear HA
   simp only [sequiturref28_Form.l0] at H
   by_cases c3 : x3_1 < (l0_1.length : Int)
   ·rw [if_pos c3] at H
    have c3b0 : decide (x3_1 < (l0_1.length : Int)) = true := decide_eq_true c3
    clear c3
    by_cases c4 : 0 ≤ x3_1
    ·rw [if_pos c4] at H
     have c4b0 : decide (0 ≤ x3_1) = true := decide_eq_true c4
     clear c4
     by_cases c5 : ((rd_T47 l0_1 x3_1).f0) < 0
     ·rw [if_pos c5] at H
      have c5b0 : decide (((rd_T47 l0_1 x3_1).f0) < 0) = true := decide_eq_true c5
      clear c5
      obtain rfl := Option.some.inj H
      have hcz6_0 : wr.cell? ⟨gb293, 0, none⟩ = some (.int .i64 a0_0) := (blk_cell BK293.out 0).trans rfl
      have hcz6_1 : wr.cell? ⟨gb293, 1, none⟩ = some (.slice A0_1 l0_1.length c0_1) := (blk_cell BK293.out 1).trans rfl
      have hfz6_0 := blk_frozen BK293.out 0
      have hfz6_1 := blk_frozen BK293.out 1
      have p294 : 0 ≤ (x3_1 : Int) := of_decide_eq_true (by first | (with_reducible assumption) | assumption)
      have q294 : x3_1 < (l0_1.length : Int) := of_decide_eq_true (by first | (with_reducible assumption) | assumption)
      obtain ⟨ad294, e294, hx294_0, hx294_1⟩ := at_T47 HR0_1.out x3_1 p294 q294
      cases e294
      replace hx294_0 := (HB.out.cell (World.block_lt_of_cell? w _ hx294_0)).trans hx294_0
      replace hx294_1 := (HB.out.cell (World.block_lt_of_cell? w _ hx294_1)).trans hx294_1
      replace p294 := eq_true p294
      replace q294 := eq_true q294
      go_wp2
      repeat (go_quiet (fail); try go_wp2)
      go_ret
      exact ⟨by first | rfl | (simp [errW_none, errW_some] <;> rfl) | (simp [*, errW_none, errW_some] <;> rfl), zo HB⟩
     ·rw [if_neg c5] at H
      have c5b0 : decide (((rd_T47 l0_1 x3_1).f0) < 0) = false := decide_eq_false c5
      clear c5
      by_cases c7 : ((rd_T47 l0_1 x3_1).f0) ≥ 64
      ·rw [if_pos c7] at H
       have c7b0 : decide (64 ≤ ((rd_T47 l0_1 x3_1).f0)) = true := decide_eq_true c7
       clear c7
       obtain rfl := Option.some.inj H
       have hcz8_0 : wr.cell? ⟨gb293, 0, none⟩ = some (.int .i64 a0_0) := (blk_cell BK293.out 0).trans rfl
       have hcz8_1 : wr.cell? ⟨gb293, 1, none⟩ = some (.slice A0_1 l0_1.length c0_1) := (blk_cell BK293.out 1).trans rfl
       have hfz8_0 := blk_frozen BK293.out 0
       have hfz8_1 := blk_frozen BK293.out 1
       have p294 : 0 ≤ (x3_1 : Int) := of_decide_eq_true (by first | (with_reducible assumption) | assumption)
       have q294 : x3_1 < (l0_1.length : Int) := of_decide_eq_true (by first | (with_reducible assumption) | assumption)
       obtain ⟨ad294, e294, hx294_0, hx294_1⟩ := at_T47 HR0_1.out x3_1 p294 q294
       cases e294
       replace hx294_0 := (HB.out.cell (World.block_lt_of_cell? w _ hx294_0)).trans hx294_0
       replace hx294_1 := (HB.out.cell (World.block_lt_of_cell? w _ hx294_1)).trans hx294_1
       replace p294 := eq_true p294
       replace q294 := eq_true q294
       have p295 : 0 ≤ (x3_1 : Int) := of_decide_eq_true (by first | (with_reducible assumption) | assumption)
       have q295 : x3_1 < (l0_1.length : Int) := of_decide_eq_true (by first | (with_reducible assumption) | assumption)
       obtain ⟨ad295, e295, hx295_0, hx295_1⟩ := at_T47 HR0_1.out x3_1 p295 q295
       obtain rfl : ad294 = ad295 := (by injection e295)
       replace hx295_0 := (HB.out.cell (World.block_lt_of_cell? w _ hx295_0)).trans hx295_0
       replace hx295_1 := (HB.out.cell (World.block_lt_of_cell? w _ hx295_1)).trans hx295_1
       replace p295 := eq_true p295
       replace q295 := eq_true q295
       go_wp2
       repeat (go_quiet (fail); try go_wp2)
       go_ret
       exact ⟨by first | rfl | (simp [errW_none, errW_some] <;> rfl) | (simp [*, errW_none, errW_some] <;> rfl), zo HB⟩
      ·rw [if_neg c7] at H
       have c7b0 : decide (64 ≤ ((rd_T47 l0_1 x3_1).f0)) = false := decide_eq_false c7
       clear c7
       by_cases c9 : ((rd_T47 l0_1 x3_1).f1) = 0
       ·rw [if_pos c9] at H
        have c9b0 : (((rd_T47 l0_1 x3_1).f1) == 0) = true := beq_iff_eq.mpr c9
        have c9b1 : (((rd_T47 l0_1 x3_1).f1) != 0) = false := bne_eq_false_iff_eq.mpr c9
        clear c9
        obtain rfl := Option.some.inj H
        have hcz10_0 : wr.cell? ⟨gb293, 0, none⟩ = some (.int .i64 a0_0) := (blk_cell BK293.out 0).trans rfl
        have hcz10_1 : wr.cell? ⟨gb293, 1, none⟩ = some (.slice A0_1 l0_1.length c0_1) := (blk_cell BK293.out 1).trans rfl
        have hfz10_0 := blk_frozen BK293.out 0
        have hfz10_1 := blk_frozen BK293.out 1
        have p294 : 0 ≤ (x3_1 : Int) := of_decide_eq_true (by first | (with_reducible assumption) | assumption)
        have q294 : x3_1 < (l0_1.length : Int) := of_decide_eq_true (by first | (with_reducible assumption) | assumption)
        obtain ⟨ad294, e294, hx294_0, hx294_1⟩ := at_T47 HR0_1.out x3_1 p294 q294
        cases e294
        replace hx294_0 := (HB.out.cell (World.block_lt_of_cell? w _ hx294_0)).trans hx294_0
        replace hx294_1 := (HB.out.cell (World.block_lt_of_cell? w _ hx294_1)).trans hx294_1
        replace p294 := eq_true p294
        replace q294 := eq_true q294
        have p295 : 0 ≤ (x3_1 : Int) := of_decide_eq_true (by first | (with_reducible assumption) | assumption)
        have q295 : x3_1 < (l0_1.length : Int) := of_decide_eq_true (by first | (with_reducible assumption) | assumption)
        obtain ⟨ad295, e295, hx295_0, hx295_1⟩ := at_T47 HR0_1.out x3_1 p295 q295
        obtain rfl : ad294 = ad295 := (by injection e295)
        replace hx295_0 := (HB.out.cell (World.block_lt_of_cell? w _ hx295_0)).trans hx295_0
        replace hx295_1 := (HB.out.cell (World.block_lt_of_cell? w _ hx295_1)).trans hx295_1
        replace p295 := eq_true p295
        replace q295 := eq_true q295
        have p296 : 0 ≤ (x3_1 : Int) := of_decide_eq_true (by first | (with_reducible assumption) | assumption)
        have q296 : x3_1 < (l0_1.length : Int) := of_decide_eq_true (by first | (with_reducible assumption) | assumption)
        obtain ⟨ad296, e296, hx296_0, hx296_1⟩ := at_T47 HR0_1.out x3_1 p296 q296
        obtain rfl : ad294 = ad296 := (by injection e296)
        replace hx296_0 := (HB.out.cell (World.block_lt_of_cell? w _ hx296_0)).trans hx296_0
        replace hx296_1 := (HB.out.cell (World.block_lt_of_cell? w _ hx296_1)).trans hx296_1
        replace p296 := eq_true p296
        replace q296 := eq_true q296
        go_wp2
        repeat (go_quiet (fail); try go_wp2)
        go_ret
        exact ⟨by first | rfl | (simp [errW_none, errW_some] <;> rfl) | (simp [*, errW_none, errW_some] <;> rfl), zo HB⟩
       ·rw [if_neg c9] at H
        have c9b0 : (((rd_T47 l0_1 x3_1).f1) == 0) = false := beq_eq_false_iff_ne.mpr c9
        have c9b1 : (((rd_T47 l0_1 x3_1).f1) != 0) = true := bne_iff_ne.mpr c9
        by_cases c11 : x3_1 > 0
        ·rw [if_pos c11] at H
         have c11b0 : decide (0 < x3_1) = true := decide_eq_true c11
         clear c11
         obtain ⟨ji12, hji12⟩ : ∃ j_ : Int, (wrap64 (x3_1 - 1)) = j_ := ⟨_, rfl⟩
         replace H : (if 0 ≤ (ji12) then (if (ji12) < (l0_1.length : Int) then (if ((rd_T47 l0_1 x3_1).f0) ≤ ((rd_T47 l0_1 (ji12)).f0) then (some false) else (sequiturref28_Form.l0 k1 (wrap64 (x3_1 + 1)) a0_0 l0_1)) else (none)) else (none)) = some r := by first | (rw [hji12] at H; exact H) | (simp only [hji12] at H ⊢; exact H)
         have hji12w : (IntKind.i64.wrap (x3_1 - 1)) = ji12 := (i64_w _).trans hji12
         by_cases c13 : 0 ≤ (ji12)
         ·rw [if_pos c13] at H
          have c13b0 : decide (0 ≤ (ji12)) = true := decide_eq_true c13
          clear c13
          by_cases c14 : (ji12) < (l0_1.length : Int)
          ·rw [if_pos c14] at H
           have c14b0 : decide ((ji12) < (l0_1.length : Int)) = true := decide_eq_true c14
           clear c14
           by_cases c15 : ((rd_T47 l0_1 x3_1).f0) ≤ ((rd_T47 l0_1 (ji12)).f0)
           ·rw [if_pos c15] at H
            have c15b0 : decide (((rd_T47 l0_1 x3_1).f0) ≤ ((rd_T47 l0_1 (ji12)).f0)) = true := decide_eq_true c15
            clear c15
            obtain rfl := Option.some.inj H
            have hcz16_0 : wr.cell? ⟨gb293, 0, none⟩ = some (.int .i64 a0_0) := (blk_cell BK293.out 0).trans rfl
            have hcz16_1 : wr.cell? ⟨gb293, 1, none⟩ = some (.slice A0_1 l0_1.length c0_1) := (blk_cell BK293.out 1).trans rfl
            have hfz16_0 := blk_frozen BK293.out 0
            have hfz16_1 := blk_frozen BK293.out 1
            have p294 : 0 ≤ (x3_1 : Int) := of_decide_eq_true (by first | (with_reducible assumption) | assumption)
            have q294 : x3_1 < (l0_1.length : Int) := of_decide_eq_true (by first | (with_reducible assumption) | assumption)
            obtain ⟨ad294, e294, hx294_0, hx294_1⟩ := at_T47 HR0_1.out x3_1 p294 q294
            cases e294
            replace hx294_0 := (HB.out.cell (World.block_lt_of_cell? w _ hx294_0)).trans hx294_0
            replace hx294_1 := (HB.out.cell (World.block_lt_of_cell? w _ hx294_1)).trans hx294_1
            replace p294 := eq_true p294
            replace q294 := eq_true q294
            have p295 : 0 ≤ (x3_1 : Int) := of_decide_eq_true (by first | (with_reducible assumption) | assumption)
            have q295 : x3_1 < (l0_1.length : Int) := of_decide_eq_true (by first | (with_reducible assumption) | assumption)
            obtain ⟨ad295, e295, hx295_0, hx295_1⟩ := at_T47 HR0_1.out x3_1 p295 q295
            obtain rfl : ad294 = ad295 := (by injection e295)
            replace hx295_0 := (HB.out.cell (World.block_lt_of_cell? w _ hx295_0)).trans hx295_0
            replace hx295_1 := (HB.out.cell (World.block_lt_of_cell? w _ hx295_1)).trans hx295_1
            replace p295 := eq_true p295
            replace q295 := eq_true q295
            have p296 : 0 ≤ (x3_1 : Int) := of_decide_eq_true (by first | (with_reducible assumption) | assumption)
            have q296 : x3_1 < (l0_1.length : Int) := of_decide_eq_true (by first | (with_reducible assumption) | assumption)
            obtain ⟨ad296, e296, hx296_0, hx296_1⟩ := at_T47 HR0_1.out x3_1 p296 q296
            obtain rfl : ad294 = ad296 := (by injection e296)
            replace hx296_0 := (HB.out.cell (World.block_lt_of_cell? w _ hx296_0)).trans hx296_0
            replace hx296_1 := (HB.out.cell (World.block_lt_of_cell? w _ hx296_1)).trans hx296_1
            replace p296 := eq_true p296
            replace q296 := eq_true q296
            have p297 : 0 ≤ (x3_1 : Int) := of_decide_eq_true (by first | (with_reducible assumption) | assumption)
            have q297 : x3_1 < (l0_1.length : Int) := of_decide_eq_true (by first | (with_reducible assumption) | assumption)
            obtain ⟨ad297, e297, hx297_0, hx297_1⟩ := at_T47 HR0_1.out x3_1 p297 q297
            obtain rfl : ad294 = ad297 := (by injection e297)
            replace hx297_0 := (HB.out.cell (World.block_lt_of_cell? w _ hx297_0)).trans hx297_0
            replace hx297_1 := (HB.out.cell (World.block_lt_of_cell? w _ hx297_1)).trans hx297_1
            replace p297 := eq_true p297
            replace q297 := eq_true q297
            have p298 : 0 ≤ ((ji12) : Int) := of_decide_eq_true (by first | (with_reducible assumption) | assumption)
            have q298 : (ji12) < (l0_1.length : Int) := of_decide_eq_true (by first | (with_reducible assumption) | assumption)
            obtain ⟨ad298, e298, hx298_0, hx298_1⟩ := at_T47 HR0_1.out (ji12) p298 q298
            obtain rfl : ad294 = ad298 := (by injection e298)
            replace hx298_0 := (HB.out.cell (World.block_lt_of_cell? w _ hx298_0)).trans hx298_0
            replace hx298_1 := (HB.out.cell (World.block_lt_of_cell? w _ hx298_1)).trans hx298_1
            replace p298 := eq_true p298
            replace q298 := eq_true q298
            go_wp2
            repeat (go_quiet (fail); try go_wp2)
            go_ret
            exact ⟨by first | rfl | (simp [errW_none, errW_some] <;> rfl) | (simp only [← hji12]; first | rfl | (simp [errW_none, errW_some] <;> rfl)) | (simp [*, errW_none, errW_some] <;> rfl), zo HB⟩
           ·rw [if_neg c15] at H
            have c15b0 : decide (((rd_T47 l0_1 x3_1).f0) ≤ ((rd_T47 l0_1 (ji12)).f0)) = false := decide_eq_false c15
            clear c15
            have H' := zK H
            clear H
            have hcz17_0 : wr.cell? ⟨gb293, 0, none⟩ = some (.int .i64 a0_0) := (blk_cell BK293.out 0).trans rfl
            have hcz17_1 : wr.cell? ⟨gb293, 1, none⟩ = some (.slice A0_1 l0_1.length c0_1) := (blk_cell BK293.out 1).trans rfl
            have hfz17_0 := blk_frozen BK293.out 0
            have hfz17_1 := blk_frozen BK293.out 1
            have p294 : 0 ≤ (x3_1 : Int) := of_decide_eq_true (by first | (with_reducible assumption) | assumption)
            have q294 : x3_1 < (l0_1.length : Int) := of_decide_eq_true (by first | (with_reducible assumption) | assumption)
            obtain ⟨ad294, e294, hx294_0, hx294_1⟩ := at_T47 HR0_1.out x3_1 p294 q294
            cases e294
            replace hx294_0 := (HB.out.cell (World.block_lt_of_cell? w _ hx294_0)).trans hx294_0
            replace hx294_1 := (HB.out.cell (World.block_lt_of_cell? w _ hx294_1)).trans hx294_1
            replace p294 := eq_true p294
            replace q294 := eq_true q294
            have p295 : 0 ≤ (x3_1 : Int) := of_decide_eq_true (by first | (with_reducible assumption) | assumption)
            have q295 : x3_1 < (l0_1.length : Int) := of_decide_eq_true (by first | (with_reducible assumption) | assumption)
            obtain ⟨ad295, e295, hx295_0, hx295_1⟩ := at_T47 HR0_1.out x3_1 p295 q295
            obtain rfl : ad294 = ad295 := (by injection e295)
            replace hx295_0 := (HB.out.cell (World.block_lt_of_cell? w _ hx295_0)).trans hx295_0
            replace hx295_1 := (HB.out.cell (World.block_lt_of_cell? w _ hx295_1)).trans hx295_1
            replace p295 := eq_true p295
            replace q295 := eq_true q295
            have p296 : 0 ≤ (x3_1 : Int) := of_decide_eq_true (by first | (with_reducible assumption) | assumption)
            have q296 : x3_1 < (l0_1.length : Int) := of_decide_eq_true (by first | (with_reducible assumption) | assumption)
            obtain ⟨ad296, e296, hx296_0, hx296_1⟩ := at_T47 HR0_1.out x3_1 p296 q296
            obtain rfl : ad294 = ad296 := (by injection e296)
            replace hx296_0 := (HB.out.cell (World.block_lt_of_cell? w _ hx296_0)).trans hx296_0
            replace hx296_1 := (HB.out.cell (World.block_lt_of_cell? w _ hx296_1)).trans hx296_1
            replace p296 := eq_true p296
            replace q296 := eq_true q296
            have p297 : 0 ≤ (x3_1 : Int) := of_decide_eq_true (by first | (with_reducible assumption) | assumption)
            have q297 : x3_1 < (l0_1.length : Int) := of_decide_eq_true (by first | (with_reducible assumption) | assumption)
            obtain ⟨ad297, e297, hx297_0, hx297_1⟩ := at_T47 HR0_1.out x3_1 p297 q297
            obtain rfl : ad294 = ad297 := (by injection e297)
            replace hx297_0 := (HB.out.cell (World.block_lt_of_cell? w _ hx297_0)).trans hx297_0
            replace hx297_1 := (HB.out.cell (World.block_lt_of_cell? w _ hx297_1)).trans hx297_1
            replace p297 := eq_true p297
            replace q297 := eq_true q297
            have p298 : 0 ≤ ((ji12) : Int) := of_decide_eq_true (by first | (with_reducible assumption) | assumption)
            have q298 : (ji12) < (l0_1.length : Int) := of_decide_eq_true (by first | (with_reducible assumption) | assumption)
            obtain ⟨ad298, e298, hx298_0, hx298_1⟩ := at_T47 HR0_1.out (ji12) p298 q298
            obtain rfl : ad294 = ad298 := (by injection e298)
            replace hx298_0 := (HB.out.cell (World.block_lt_of_cell? w _ hx298_0)).trans hx298_0
            replace hx298_1 := (HB.out.cell (World.block_lt_of_cell? w _ hx298_1)).trans hx298_1
            replace p298 := eq_true p298
            replace q298 := eq_true q298
            go_wp2
            repeat (go_quiet (fail); try go_wp2)
            go_roundg k1
            case measure => have := HK1.out; omega
            case rel => exact ⟨(wrap64 (x3_1 + 1)), (by first | rfl | (simp; done) | (simp [*]; done)), H', ⟨by have := HK1.out; omega⟩, ⟨zb BK293⟩, ⟨zo HB⟩⟩
          ·rw [if_neg c14] at H
           exact absurd H (by simp)
         ·rw [if_neg c13] at H
          exact absurd H (by simp)
        ·rw [if_neg c11] at H
         have c11b0 : decide (0 < x3_1) = false := decide_eq_false c11
         clear c11
         have H' := zK H
         clear H
         have hcz18_0 : wr.cell? ⟨gb293, 0, none⟩ = some (.int .i64 a0_0) := (blk_cell BK293.out 0).trans rfl
         have hcz18_1 : wr.cell? ⟨gb293, 1, none⟩ = some (.slice A0_1 l0_1.length c0_1) := (blk_cell BK293.out 1).trans rfl
         have hfz18_0 := blk_frozen BK293.out 0
         have hfz18_1 := blk_frozen BK293.out 1
         have p294 : 0 ≤ (x3_1 : Int) := of_decide_eq_true (by first | (with_reducible assumption) | assumption)
         have q294 : x3_1 < (l0_1.length : Int) := of_decide_eq_true (by first | (with_reducible assumption) | assumption)
         obtain ⟨ad294, e294, hx294_0, hx294_1⟩ := at_T47 HR0_1.out x3_1 p294 q294
         cases e294
         replace hx294_0 := (HB.out.cell (World.block_lt_of_cell? w _ hx294_0)).trans hx294_0
         replace hx294_1 := (HB.out.cell (World.block_lt_of_cell? w _ hx294_1)).trans hx294_1
         replace p294 := eq_true p294
         replace q294 := eq_true q294
         have p295 : 0 ≤ (x3_1 : Int) := of_decide_eq_true (by first | (with_reducible assumption) | assumption)
         have q295 : x3_1 < (l0_1.length : Int) := of_decide_eq_true (by first | (with_reducible assumption) | assumption)
         obtain ⟨ad295, e295, hx295_0, hx295_1⟩ := at_T47 HR0_1.out x3_1 p295 q295
         obtain rfl : ad294 = ad295 := (by injection e295)
         replace hx295_0 := (HB.out.cell (World.block_lt_of_cell? w _ hx295_0)).trans hx295_0
         replace hx295_1 := (HB.out.cell (World.block_lt_of_cell? w _ hx295_1)).trans hx295_1
         replace p295 := eq_true p295
         replace q295 := eq_true q295
         have p296 : 0 ≤ (x3_1 : Int) := of_decide_eq_true (by first | (with_reducible assumption) | assumption)
         have q296 : x3_1 < (l0_1.length : Int) := of_decide_eq_true (by first | (with_reducible assumption) | assumption)
         obtain ⟨ad296, e296, hx296_0, hx296_1⟩ := at_T47 HR0_1.out x3_1 p296 q296
         obtain rfl : ad294 = ad296 := (by injection e296)
         replace hx296_0 := (HB.out.cell (World.block_lt_of_cell? w _ hx296_0)).trans hx296_0
         replace hx296_1 := (HB.out.cell (World.block_lt_of_cell? w _ hx296_1)).trans hx296_1
         replace p296 := eq_true p296
         replace q296 := eq_true q296
         go_wp2
         repeat (go_quiet (fail); try go_wp2)
         go_roundg k1
         case measure => have := HK1.out; omega
         case rel => exact ⟨(wrap64 (x3_1 + 1)), (by first | rfl | (simp; done) | (simp [*]; done)), H', ⟨by have := HK1.out; omega⟩, ⟨zb BK293⟩, ⟨zo HB⟩⟩
    ·rw [if_neg c4] at H
     exact absurd H (by simp)
   ·rw [if_neg c3] at H
    have c3b0 : decide (x3_1 < (l0_1.length : Int)) = false := decide_eq_false c3
    clear c3
    obtain rfl := Option.some.inj H
    have hcz19_0 : wr.cell? ⟨gb293, 0, none⟩ = some (.int .i64 a0_0) := (blk_cell BK293.out 0).trans rfl
    have hcz19_1 : wr.cell? ⟨gb293, 1, none⟩ = some (.slice A0_1 l0_1.length c0_1) := (blk_cell BK293.out 1).trans rfl
    have hfz19_0 := blk_frozen BK293.out 0
    have hfz19_1 := blk_frozen BK293.out 1
    go_wp2
    repeat (go_quiet (fail); try go_wp2)
    go_ret
    exact ⟨by first | rfl | (simp [errW_none, errW_some] <;> rfl) | (simp [*, errW_none, errW_some] <;> rfl), zo HB⟩

/-! ### sequiturref01_Plus: function 65 -/
def sequiturref01_Plus.f (a0_0 : Int) (a0_1 : Int) (a1_0 : Int) (a1_1 : Int) : Option (Int × Int) := if (IntKind.u64.wrap (a0_1 + a1_1)) < a0_1 then (some (wrap64 ((wrap64 (a0_0 + a1_0)) + 1), IntKind.u64.wrap (a0_1 + a1_1))) else (some (wrap64 (a0_0 + a1_0), IntKind.u64.wrap (a0_1 + a1_1)))
set_option maxHeartbeats 8000000 in
set_option maxRecDepth 100000 in
theorem sequiturref01_Plus.calls (a0_0 : Int) (a0_1 : Int) (a1_0 : Int) (a1_1 : Int) (r1 : Int) (r2 : Int) (w : World) (h : sequiturref01_Plus.f a0_0 a0_1 a1_0 a1_1 = some (r1, r2)) :
  Calls Try.prog 65 #[.agg #[.int .i64 a0_0, .int .u64 a0_1], .agg #[.int .i64 a1_0, .int .u64 a1_1]] w fun e w' => e = .returned (.agg #[.int .i64 r1, .int .u64 r2]) ∧ Below w.heap.size w w' := by
 have hu74 := Try.underlying74
 have HB := zK (Below.refl w.heap.size w)
 have H : (if (IntKind.u64.wrap (a0_1 + a1_1)) < a0_1 then (some (wrap64 ((wrap64 (a0_0 + a1_0)) + 1), IntKind.u64.wrap (a0_1 + a1_1))) else (some (wrap64 (a0_0 + a1_0), IntKind.u64.wrap (a0_1 + a1_1)))) = some (r1, r2) := h
 clear h
 by_cases c3 : (IntKind.u64.wrap (a0_1 + a1_1)) < a0_1
 ·rw [if_pos c3] at H
  have c3b0 : decide ((IntKind.u64.wrap (a0_1 + a1_1)) < a0_1) = true := decide_eq_true c3
  clear c3
  simp only [Option.some.injEq, Prod.mk.injEq] at H
  obtain ⟨rfl, rfl⟩ := H
  go_enter Try.func65, Try.ntmps65
  go_wp2_with (first | ((with_reducible refine gate_dst (N := 2) rfl ?_); refine box_event ?hg (N := 2) ?hd (cs := #[.int .i64 a0_0, .int .u64 a0_1]) (t := 74) ?hr ?_; (case hd => rfl); (case hg => rfl); (case hr => first | (go_simp; done) | (go_simp; rfl)); intro gb299 hg w4 hbox hb; have BK299 := zK (hbox); have GW299 := zK ((by rw [hg]; exact (below_size (zo HB)) : w.heap.size ≤ gb299)); have GE299 := zK ((by rw [hg]; exact (below_size (zo HB)) : w.heap.size ≤ gb299)); replace HB := zK (below_step (zo HB) hb); clear hb hbox hg) | ((with_reducible refine gate_dst (N := 3) rfl ?_); refine box_event ?hg (N := 3) ?hd (cs := #[.int .i64 a1_0, .int .u64 a1_1]) (t := 74) ?hr ?_; (case hd => rfl); (case hg => rfl); (case hr => first | (go_simp; done) | (go_simp; rfl)); intro gb300 hg w5 hbox hb; have BK300 := zK (hbox); have GW300 := zK ((by rw [hg]; exact (below_size (zo HB)) : w.heap.size ≤ gb300)); have GE300 := zK ((by rw [hg]; exact (below_size (zo HB)) : w.heap.size ≤ gb300)); replace HB := zK (below_step (zo HB) hb); have NB299_300 := zK ((by rw [hg]; exact Nat.ne_of_lt (blk_lt (g := gb299) (o := .cells #[.int .i64 a0_0, .int .u64 a0_1] 74 (0, 0)) (zb BK299)) : gb299 ≠ gb300)); have NB300_299 := zK ((by rw [hg]; exact Nat.ne_of_gt (blk_lt (g := gb299) (o := .cells #[.int .i64 a0_0, .int .u64 a0_1] 74 (0, 0)) (zb BK299)) : gb300 ≠ gb299)); replace BK299 := zK (blk_below (g := gb299) (o := .cells #[.int .i64 a0_0, .int .u64 a0_1] 74 (0, 0)) (zb BK299) hb); clear hb hbox hg) | ((with_reducible refine gate_dst (N := 4) rfl ?_); refine box_event ?hg (N := 4) ?hd (cs := #[.int .i64 0, .int .u64 0]) (t := 74) ?hr ?_; (case hd => rfl); (case hg => rfl); (case hr => first | (go_simp; done) | (go_simp; rfl)); intro gb301 hg w6 hbox hb; have BK301 := zK (hbox); have GW301 := zK ((by rw [hg]; exact (below_size (zo HB)) : w.heap.size ≤ gb301)); have GE301 := zK ((by rw [hg]; exact (below_size (zo HB)) : w.heap.size ≤ gb301)); replace HB := zK (below_step (zo HB) hb); have NB299_301 := zK ((by rw [hg]; exact Nat.ne_of_lt (blk_lt (g := gb299) (o := .cells #[.int .i64 a0_0, .int .u64 a0_1] 74 (0, 0)) (zb BK299)) : gb299 ≠ gb301)); have NB301_299 := zK ((by rw [hg]; exact Nat.ne_of_gt (blk_lt (g := gb299) (o := .cells #[.int .i64 a0_0, .int .u64 a0_1] 74 (0, 0)) (zb BK299)) : gb301 ≠ gb299)); replace BK299 := zK (blk_below (g := gb299) (o := .cells #[.int .i64 a0_0, .int .u64 a0_1] 74 (0, 0)) (zb BK299) hb); have NB300_301 := zK ((by rw [hg]; exact Nat.ne_of_lt (blk_lt (g := gb300) (o := .cells #[.int .i64 a1_0, .int .u64 a1_1] 74 (0, 0)) (zb BK300)) : gb300 ≠ gb301)); have NB301_300 := zK ((by rw [hg]; exact Nat.ne_of_gt (blk_lt (g := gb300) (o := .cells #[.int .i64 a1_0, .int .u64 a1_1] 74 (0, 0)) (zb BK300)) : gb301 ≠ gb300)); replace BK300 := zK (blk_below (g := gb300) (o := .cells #[.int .i64 a1_0, .int .u64 a1_1] 74 (0, 0)) (zb BK300) hb); clear hb hbox hg; have hnb7 := NB299_300.out; have hnc7 := NB300_299.out; have hnb8 := NB299_301.out; have hnc8 := NB301_299.out; have hcz9_0 : w6.cell? ⟨gb299, 0, none⟩ = some (.int .i64 a0_0) := (blk_cell BK299.out 0).trans rfl; have hcz9_1 : w6.cell? ⟨gb299, 1, none⟩ = some (.int .u64 a0_1) := (blk_cell BK299.out 1).trans rfl; have hfz9_0 := blk_frozen BK299.out 0; have hfz9_1 := blk_frozen BK299.out 1; have hnb10 := NB300_301.out; have hnc10 := NB301_300.out; have hcz11_0 : w6.cell? ⟨gb300, 0, none⟩ = some (.int .i64 a1_0) := (blk_cell BK300.out 0).trans rfl; have hcz11_1 : w6.cell? ⟨gb300, 1, none⟩ = some (.int .u64 a1_1) := (blk_cell BK300.out 1).trans rfl; have hfz11_0 := blk_frozen BK300.out 0; have hfz11_1 := blk_frozen BK300.out 1; have hcz12_0 : w6.cell? ⟨gb301, 0, none⟩ = some (.int .i64 0) := (blk_cell BK301.out 0).trans rfl; have hcz12_1 : w6.cell? ⟨gb301, 1, none⟩ = some (.int .u64 0) := (blk_cell BK301.out 1).trans rfl; have hfz12_0 := blk_frozen BK301.out 0; have hfz12_1 := blk_frozen BK301.out 1))
  refine bodyPost_ret (results_cell_row rfl _ _ gb301 74 #[.int .i64 (wrap64 ((wrap64 (a0_0 + a1_0)) + 1)), .int .u64 (IntKind.u64.wrap (a0_1 + a1_1))] (0, 0) _ rfl (by refine zM ?_; refine blk_put (cs := #[.int .i64 (wrap64 ((wrap64 (a0_0 + a1_0)) + 1)), .int .u64 0]) ?_ 1 _ rfl; refine zM ?_; refine blk_put (cs := #[.int .i64 0, .int .u64 0]) ?_ 0 _ rfl; refine zM ?_; exact BK301.out) Try.underlying74 rfl (by kernel_rfl)) rfl ?_
  exact ⟨by first | rfl | (simp [errW_none, errW_some] <;> rfl) | (simp [*, errW_none, errW_some] <;> rfl), zo HB⟩
 ·rw [if_neg c3] at H
  have c3b0 : decide ((IntKind.u64.wrap (a0_1 + a1_1)) < a0_1) = false := decide_eq_false c3
  clear c3
  simp only [Option.some.injEq, Prod.mk.injEq] at H
  obtain ⟨rfl, rfl⟩ := H
  go_enter Try.func65, Try.ntmps65
  go_wp2_with (first | ((with_reducible refine gate_dst (N := 2) rfl ?_); refine box_event ?hg (N := 2) ?hd (cs := #[.int .i64 a0_0, .int .u64 a0_1]) (t := 74) ?hr ?_; (case hd => rfl); (case hg => rfl); (case hr => first | (go_simp; done) | (go_simp; rfl)); intro gb299 hg w13 hbox hb; have BK299 := zK (hbox); have GW299 := zK ((by rw [hg]; exact (below_size (zo HB)) : w.heap.size ≤ gb299)); have GE299 := zK ((by rw [hg]; exact (below_size (zo HB)) : w.heap.size ≤ gb299)); replace HB := zK (below_step (zo HB) hb); clear hb hbox hg) | ((with_reducible refine gate_dst (N := 3) rfl ?_); refine box_event ?hg (N := 3) ?hd (cs := #[.int .i64 a1_0, .int .u64 a1_1]) (t := 74) ?hr ?_; (case hd => rfl); (case hg => rfl); (case hr => first | (go_simp; done) | (go_simp; rfl)); intro gb300 hg w14 hbox hb; have BK300 := zK (hbox); have GW300 := zK ((by rw [hg]; exact (below_size (zo HB)) : w.heap.size ≤ gb300)); have GE300 := zK ((by rw [hg]; exact (below_size (zo HB)) : w.heap.size ≤ gb300)); replace HB := zK (below_step (zo HB) hb); have NB299_300 := zK ((by rw [hg]; exact Nat.ne_of_lt (blk_lt (g := gb299) (o := .cells #[.int .i64 a0_0, .int .u64 a0_1] 74 (0, 0)) (zb BK299)) : gb299 ≠ gb300)); have NB300_299 := zK ((by rw [hg]; exact Nat.ne_of_gt (blk_lt (g := gb299) (o := .cells #[.int .i64 a0_0, .int .u64 a0_1] 74 (0, 0)) (zb BK299)) : gb300 ≠ gb299)); replace BK299 := zK (blk_below (g := gb299) (o := .cells #[.int .i64 a0_0, .int .u64 a0_1] 74 (0, 0)) (zb BK299) hb); clear hb hbox hg) | ((with_reducible refine gate_dst (N := 4) rfl ?_); refine box_event ?hg (N := 4) ?hd (cs := #[.int .i64 0, .int .u64 0]) (t := 74) ?hr ?_; (case hd => rfl); (case hg => rfl); (case hr => first | (go_simp; done) | (go_simp; rfl)); intro gb301 hg w15 hbox hb; have BK301 := zK (hbox); have GW301 := zK ((by rw [hg]; exact (below_size (zo HB)) : w.heap.size ≤ gb301)); have GE301 := zK ((by rw [hg]; exact (below_size (zo HB)) : w.heap.size ≤ gb301)); replace HB := zK (below_step (zo HB) hb); have NB299_301 := zK ((by rw [hg]; exact Nat.ne_of_lt (blk_lt (g := gb299) (o := .cells #[.int .i64 a0_0, .int .u64 a0_1] 74 (0, 0)) (zb BK299)) : gb299 ≠ gb301)); have NB301_299 := zK ((by rw [hg]; exact Nat.ne_of_gt (blk_lt (g := gb299) (o := .cells #[.int .i64 a0_0, .int .u64 a0_1] 74 (0, 0)) (zb BK299)) : gb301 ≠ gb299)); replace BK299 := zK (blk_below (g := gb299) (o := .cells #[.int .i64 a0_0, .int .u64 a0_1] 74 (0, 0)) (zb BK299) hb); have NB300_301 := zK ((by rw [hg]; exact Nat.ne_of_lt (blk_lt (g := gb300) (o := .cells #[.int .i64 a1_0, .int .u64 a1_1] 74 (0, 0)) (zb BK300)) : gb300 ≠ gb301)); have NB301_300 := zK ((by rw [hg]; exact Nat.ne_of_gt (blk_lt (g := gb300) (o := .cells #[.int .i64 a1_0, .int .u64 a1_1] 74 (0, 0)) (zb BK300)) : gb301 ≠ gb300)); replace BK300 := zK (blk_below (g := gb300) (o := .cells #[.int .i64 a1_0, .int .u64 a1_1] 74 (0, 0)) (zb BK300) hb); clear hb hbox hg; have hnb16 := NB299_300.out; have hnc16 := NB300_299.out; have hnb17 := NB299_301.out; have hnc17 := NB301_299.out; have hcz18_0 : w15.cell? ⟨gb299, 0, none⟩ = some (.int .i64 a0_0) := (blk_cell BK299.out 0).trans rfl; have hcz18_1 : w15.cell? ⟨gb299, 1, none⟩ = some (.int .u64 a0_1) := (blk_cell BK299.out 1).trans rfl; have hfz18_0 := blk_frozen BK299.out 0; have hfz18_1 := blk_frozen BK299.out 1; have hnb19 := NB300_301.out; have hnc19 := NB301_300.out; have hcz20_0 : w15.cell? ⟨gb300, 0, none⟩ = some (.int .i64 a1_0) := (blk_cell BK300.out 0).trans rfl; have hcz20_1 : w15.cell? ⟨gb300, 1, none⟩ = some (.int .u64 a1_1) := (blk_cell BK300.out 1).trans rfl; have hfz20_0 := blk_frozen BK300.out 0; have hfz20_1 := blk_frozen BK300.out 1; have hcz21_0 : w15.cell? ⟨gb301, 0, none⟩ = some (.int .i64 0) := (blk_cell BK301.out 0).trans rfl; have hcz21_1 : w15.cell? ⟨gb301, 1, none⟩ = some (.int .u64 0) := (blk_cell BK301.out 1).trans rfl; have hfz21_0 := blk_frozen BK301.out 0; have hfz21_1 := blk_frozen BK301.out 1))
  refine bodyPost_ret (results_cell_row rfl _ _ gb301 74 #[.int .i64 (wrap64 (a0_0 + a1_0)), .int .u64 (IntKind.u64.wrap (a0_1 + a1_1))] (0, 0) _ rfl (by refine zM ?_; refine blk_put (cs := #[.int .i64 (wrap64 (a0_0 + a1_0)), .int .u64 0]) ?_ 1 _ rfl; refine zM ?_; refine blk_put (cs := #[.int .i64 0, .int .u64 0]) ?_ 0 _ rfl; refine zM ?_; exact BK301.out) Try.underlying74 rfl (by kernel_rfl)) rfl ?_
  exact ⟨by first | rfl | (simp [errW_none, errW_some] <;> rfl) | (simp [*, errW_none, errW_some] <;> rfl), zo HB⟩

/-! ### sequiturref01_Of: function 66 -/
def sequiturref01_Of.f (a0 : Int) : Option (Int × Int) := if a0 < 0 then (some ((-1), IntKind.u64.wrap (a0))) else (some (0, IntKind.u64.wrap (a0)))
set_option maxHeartbeats 8000000 in
set_option maxRecDepth 100000 in
theorem sequiturref01_Of.calls (a0 : Int) (r1 : Int) (r2 : Int) (w : World) (h : sequiturref01_Of.f a0 = some (r1, r2)) :
  Calls Try.prog 66 #[.int .i64 a0] w fun e w' => e = .returned (.agg #[.int .i64 r1, .int .u64 r2]) ∧ Below w.heap.size w w' := by
 have hu74 := Try.underlying74
 have HB := zK (Below.refl w.heap.size w)
 have H : (if a0 < 0 then (some ((-1), IntKind.u64.wrap (a0))) else (some (0, IntKind.u64.wrap (a0)))) = some (r1, r2) := h
 clear h
 by_cases c2 : a0 < 0
 ·rw [if_pos c2] at H
  have c2b0 : decide (a0 < 0) = true := decide_eq_true c2
  clear c2
  simp only [Option.some.injEq, Prod.mk.injEq] at H
  obtain ⟨rfl, rfl⟩ := H
  go_enter Try.func66, Try.ntmps66
  go_wp2_with (first | ((with_reducible refine gate_dst (N := 2) rfl ?_); refine box_event ?hg (N := 2) ?hd (cs := #[.int .i64 0, .int .u64 0]) (t := 74) ?hr ?_; (case hd => rfl); (case hg => rfl); (case hr => first | (go_simp; done) | (go_simp; rfl)); intro gb302 hg w3 hbox hb; have BK302 := zK (hbox); have GW302 := zK ((by rw [hg]; exact (below_size (zo HB)) : w.heap.size ≤ gb302)); have GE302 := zK ((by rw [hg]; exact (below_size (zo HB)) : w.heap.size ≤ gb302)); replace HB := zK (below_step (zo HB) hb); clear hb hbox hg; have hcz4_0 : w3.cell? ⟨gb302, 0, none⟩ = some (.int .i64 0) := (blk_cell BK302.out 0).trans rfl; have hcz4_1 : w3.cell? ⟨gb302, 1, none⟩ = some (.int .u64 0) := (blk_cell BK302.out 1).trans rfl; have hfz4_0 := blk_frozen BK302.out 0; have hfz4_1 := blk_frozen BK302.out 1))
  refine bodyPost_ret (results_cell_row rfl _ _ gb302 74 #[.int .i64 (-1), .int .u64 (IntKind.u64.wrap (a0))] (0, 0) _ rfl (by refine zM ?_; refine blk_put (cs := #[.int .i64 (-1), .int .u64 0]) ?_ 1 _ rfl; refine zM ?_; refine blk_put (cs := #[.int .i64 0, .int .u64 0]) ?_ 0 _ rfl; refine zM ?_; exact BK302.out) Try.underlying74 rfl (by kernel_rfl)) rfl ?_
  exact ⟨by first | rfl | (simp [errW_none, errW_some] <;> rfl) | (simp [*, errW_none, errW_some] <;> rfl), zo HB⟩
 ·rw [if_neg c2] at H
  have c2b0 : decide (a0 < 0) = false := decide_eq_false c2
  clear c2
  simp only [Option.some.injEq, Prod.mk.injEq] at H
  obtain ⟨rfl, rfl⟩ := H
  go_enter Try.func66, Try.ntmps66
  go_wp2_with (first | ((with_reducible refine gate_dst (N := 2) rfl ?_); refine box_event ?hg (N := 2) ?hd (cs := #[.int .i64 0, .int .u64 0]) (t := 74) ?hr ?_; (case hd => rfl); (case hg => rfl); (case hr => first | (go_simp; done) | (go_simp; rfl)); intro gb302 hg w5 hbox hb; have BK302 := zK (hbox); have GW302 := zK ((by rw [hg]; exact (below_size (zo HB)) : w.heap.size ≤ gb302)); have GE302 := zK ((by rw [hg]; exact (below_size (zo HB)) : w.heap.size ≤ gb302)); replace HB := zK (below_step (zo HB) hb); clear hb hbox hg; have hcz6_0 : w5.cell? ⟨gb302, 0, none⟩ = some (.int .i64 0) := (blk_cell BK302.out 0).trans rfl; have hcz6_1 : w5.cell? ⟨gb302, 1, none⟩ = some (.int .u64 0) := (blk_cell BK302.out 1).trans rfl; have hfz6_0 := blk_frozen BK302.out 0; have hfz6_1 := blk_frozen BK302.out 1))
  refine bodyPost_ret (results_cell_row rfl _ _ gb302 74 #[.int .i64 0, .int .u64 (IntKind.u64.wrap (a0))] (0, 0) _ rfl (by refine zM ?_; refine blk_put (cs := #[.int .i64 0, .int .u64 0]) ?_ 1 _ rfl; refine zM ?_; refine blk_put (cs := #[.int .i64 0, .int .u64 0]) ?_ 0 _ rfl; refine zM ?_; exact BK302.out) Try.underlying74 rfl (by kernel_rfl)) rfl ?_
  exact ⟨by first | rfl | (simp [errW_none, errW_some] <;> rfl) | (simp [*, errW_none, errW_some] <;> rfl), zo HB⟩

/-! ### sequiturref01_Far: function 77 -/
def sequiturref01_Far.f (a0 : Int) : Option (Int) := if a0 < 0 then (some (IntKind.u64.wrap (-(IntKind.u64.wrap (a0))))) else (some (IntKind.u64.wrap (a0)))
set_option maxHeartbeats 8000000 in
set_option maxRecDepth 100000 in
theorem sequiturref01_Far.calls (a0 : Int) (r : Int) (w : World) (h : sequiturref01_Far.f a0 = some r) :
  Calls Try.prog 77 #[.int .i64 a0] w fun e w' => e = .returned (.int .u64 r) ∧ Drawn0 w w' := by
 have H : (if a0 < 0 then (some (IntKind.u64.wrap (-(IntKind.u64.wrap (a0))))) else (some (IntKind.u64.wrap (a0)))) = some r := h
 clear h
 by_cases c2 : a0 < 0
 ·rw [if_pos c2] at H
  have c2b0 : decide (a0 < 0) = true := decide_eq_true c2
  clear c2
  obtain rfl := Option.some.inj H
  go_enter Try.func77, Try.ntmps77
  go_wp2
  go_ret
  exact ⟨by first | rfl | (simp; done) | (simp [*]; done), by repeat (first | exact Drawn0.refl _ | apply Drawn0.step)⟩
 ·rw [if_neg c2] at H
  have c2b0 : decide (a0 < 0) = false := decide_eq_false c2
  clear c2
  obtain rfl := Option.some.inj H
  go_enter Try.func77, Try.ntmps77
  go_wp2
  go_ret
  exact ⟨by first | rfl | (simp; done) | (simp [*]; done), by repeat (first | exact Drawn0.refl _ | apply Drawn0.step)⟩

/-! ### sequiturref01_Minus: function 79 -/
def sequiturref01_Minus.f (a0_0 : Int) (a0_1 : Int) : Option (Int × Int) := (sequiturref01_Plus.f (wrap64 ((-1) - a0_0)) (Go.bits .xor .u64 18446744073709551615 a0_1) 0 1).bind fun bt305 => (some (bt305.1, bt305.2))
set_option maxHeartbeats 8000000 in
set_option maxRecDepth 100000 in
theorem sequiturref01_Minus.calls (a0_0 : Int) (a0_1 : Int) (r1 : Int) (r2 : Int) (w : World) (h : sequiturref01_Minus.f a0_0 a0_1 = some (r1, r2)) :
  Calls Try.prog 79 #[.agg #[.int .i64 a0_0, .int .u64 a0_1]] w fun e w' => e = .returned (.agg #[.int .i64 r1, .int .u64 r2]) ∧ Below w.heap.size w w' := by
 have hu74 := Try.underlying74
 have HB := zK (Below.refl w.heap.size w)
 have H : ((sequiturref01_Plus.f (wrap64 ((-1) - a0_0)) (Go.bits .xor .u64 18446744073709551615 a0_1) 0 1).bind fun bt305 => (some (bt305.1, bt305.2))) = some (r1, r2) := h
 clear h
 replace H := Option.bind_eq_some_iff.mp H
 obtain ⟨⟨t305, t306⟩, A20, H⟩ := H
 replace H : (some (t305, t306)) = some (r1, r2) := H
 have A2 := zK A20
 clear A20
 simp only [Option.some.injEq, Prod.mk.injEq] at H
 obtain ⟨rfl, rfl⟩ := H
 go_enter Try.func79, Try.ntmps79
 go_wp2_with (first | ((with_reducible refine gate_dst (N := 1) rfl ?_); refine box_event ?hg (N := 1) ?hd (cs := #[.int .i64 a0_0, .int .u64 a0_1]) (t := 74) ?hr ?_; (case hd => rfl); (case hg => rfl); (case hr => first | (go_simp; done) | (go_simp; rfl)); intro gb303 hg w3 hbox hb; have BK303 := zK (hbox); have GW303 := zK ((by rw [hg]; exact (below_size (zo HB)) : w.heap.size ≤ gb303)); have GE303 := zK ((by rw [hg]; exact (below_size (zo HB)) : w.heap.size ≤ gb303)); replace HB := zK (below_step (zo HB) hb); clear hb hbox hg) | ((with_reducible refine gate_dst (N := 2) rfl ?_); refine box_event ?hg (N := 2) ?hd (cs := #[.int .i64 0, .int .u64 0]) (t := 74) ?hr ?_; (case hd => rfl); (case hg => rfl); (case hr => first | (go_simp; done) | (go_simp; rfl)); intro gb304 hg w4 hbox hb; have BK304 := zK (hbox); have GW304 := zK ((by rw [hg]; exact (below_size (zo HB)) : w.heap.size ≤ gb304)); have GE304 := zK ((by rw [hg]; exact (below_size (zo HB)) : w.heap.size ≤ gb304)); replace HB := zK (below_step (zo HB) hb); have NB303_304 := zK ((by rw [hg]; exact Nat.ne_of_lt (blk_lt (g := gb303) (o := .cells #[.int .i64 a0_0, .int .u64 a0_1] 74 (0, 0)) (zb BK303)) : gb303 ≠ gb304)); have NB304_303 := zK ((by rw [hg]; exact Nat.ne_of_gt (blk_lt (g := gb303) (o := .cells #[.int .i64 a0_0, .int .u64 a0_1] 74 (0, 0)) (zb BK303)) : gb304 ≠ gb303)); replace BK303 := zK (blk_below (g := gb303) (o := .cells #[.int .i64 a0_0, .int .u64 a0_1] 74 (0, 0)) (zb BK303) hb); clear hb hbox hg; have hnb5 := NB303_304.out; have hnc5 := NB304_303.out; have hcz6_0 : w4.cell? ⟨gb303, 0, none⟩ = some (.int .i64 a0_0) := (blk_cell BK303.out 0).trans rfl; have hcz6_1 : w4.cell? ⟨gb303, 1, none⟩ = some (.int .u64 a0_1) := (blk_cell BK303.out 1).trans rfl; have hfz6_0 := blk_frozen BK303.out 0; have hfz6_1 := blk_frozen BK303.out 1) | ((with_reducible refine zC (f := 65) rfl ?_); refine goesL_ (some 11) rfl rfl Try.func65 (by kernel_rfl) rfl #[.agg #[.int .i64 (wrap64 ((-1) - a0_0)), .int .u64 (Go.bits .xor .u64 18446744073709551615 a0_1)], .agg #[.int .i64 0, .int .u64 1]] rfl (by (try simp only [List.map_toArray, List.map_cons, List.map_nil]); first | done | rfl | (simp only [List.length_drop, List.length_take]; rfl)) ?_; (with_reducible refine (sequiturref01_Plus.calls (wrap64 ((-1) - a0_0)) (Go.bits .xor .u64 18446744073709551615 a0_1) 0 1 t305 t306 _ A2.out).mono ?_); rintro e w7 ⟨rfl, hb⟩; refine ⟨_, rfl, ?_⟩; replace BK303 := zK (blk_below (g := gb303) (o := .cells #[.int .i64 a0_0, .int .u64 a0_1] 74 (0, 0)) (zb BK303) hb); replace BK304 := zK (blk_below (g := gb304) (o := .cells #[.int .i64 0, .int .u64 0] 74 (0, 0)) (zb BK304) hb); replace HB := zK (below_step (zo HB) hb); (try clear hb); (try clear hb2); (try clear hk); (try clear hi); have hcz8_0 : w7.cell? ⟨gb304, 0, none⟩ = some (.int .i64 0) := (blk_cell BK304.out 0).trans rfl; have hcz8_1 : w7.cell? ⟨gb304, 1, none⟩ = some (.int .u64 0) := (blk_cell BK304.out 1).trans rfl; have hfz8_0 := blk_frozen BK304.out 0; have hfz8_1 := blk_frozen BK304.out 1))
 refine bodyPost_ret (results_cell_row rfl _ _ gb304 74 #[.int .i64 t305, .int .u64 t306] (0, 0) _ rfl (by refine zM ?_; refine blk_put (cs := #[.int .i64 t305, .int .u64 0]) ?_ 1 _ rfl; refine zM ?_; refine blk_put (cs := #[.int .i64 0, .int .u64 0]) ?_ 0 _ rfl; refine zM ?_; exact BK304.out) Try.underlying74 rfl (by kernel_rfl)) rfl ?_
 exact ⟨by first | rfl | (simp [errW_none, errW_some] <;> rfl) | (simp [*, errW_none, errW_some] <;> rfl), zo HB⟩

/-! ### sequiturref01_Times: function 64 -/
mutual
def sequiturref01_Times.j0 : Nat → Int → Int → Int → Option (Int × Int)
 | 0, _, _, _ => none
 | k + 1, x1, x311000, x311001 => (sequiturref01_Far.f x1).bind fun t314 => (sequiturref01_Times.l0 k t314 x311000 x311001 0 0)
def sequiturref01_Times.l0 : Nat → Int → Int → Int → Int → Int → Option (Int × Int)
 | 0, _, _, _, _, _ => none
 | k + 1, x7, x311000, x311001, x314000, x314001 => if x7 > 0 then (if (Int.tmod x7 2) = 1 then ((sequiturref01_Plus.f x314000 x314001 x311000 x311001).bind fun bt315 => ((sequiturref01_Plus.f x311000 x311001 x311000 x311001).bind fun bt317 => (sequiturref01_Times.l0 k (IntKind.u64.wrap (Int.tdiv x7 2)) bt317.1 bt317.2 bt315.1 bt315.2))) else ((sequiturref01_Plus.f x311000 x311001 x311000 x311001).bind fun bt319 => (sequiturref01_Times.l0 k (IntKind.u64.wrap (Int.tdiv x7 2)) bt319.1 bt319.2 x314000 x314001))) else (some (x314000, x314001))
end
def sequiturref01_Times.f (k : Nat) (a0 : Int) (a1 : Int) : Option (Int × Int) := (sequiturref01_Of.f a0).bind fun bt308 => (if a1 < 0 then ((sequiturref01_Minus.f bt308.1 bt308.2).bind fun bt311 => (sequiturref01_Times.j0 k a1 bt311.1 bt311.2)) else (sequiturref01_Times.j0 k a1 bt308.1 bt308.2))
theorem sequiturref01_Times.mono_l : ∀ k, (∀ y0 y1 y2, LeO (sequiturref01_Times.j0 k y0 y1 y2) (sequiturref01_Times.j0 (k + 1) y0 y1 y2)) ∧ (∀ y0 y1 y2 y3 y4, LeO (sequiturref01_Times.l0 k y0 y1 y2 y3 y4) (sequiturref01_Times.l0 (k + 1) y0 y1 y2 y3 y4))
 | 0 => ⟨fun _ _ _ r h => by simp [sequiturref01_Times.j0] at h, fun _ _ _ _ _ r h => by simp [sequiturref01_Times.l0] at h⟩
 | k + 1 => by
  obtain ⟨ih0, ih1⟩ := sequiturref01_Times.mono_l k
  refine ⟨?_, ?_⟩
  ·intro y0 y1 y2
   unfold sequiturref01_Times.j0
   repeat' first
   | (with_reducible exact ih0 _ _ _)
   | (with_reducible exact ih1 _ _ _ _ _)
   | (with_reducible exact LeO.refl _)
   | (with_reducible exact LeO.none _)
   | (with_reducible refine LeO.ite ?_ ?_)
   | (with_reducible refine LeO.bind ?_ (fun _ => ?_))
   | exact ih0 _ _ _
   | exact ih1 _ _ _ _ _
   | exact LeO.none _
   | refine LeO.ite ?_ ?_
   | refine LeO.bind ?_ (fun _ => ?_)
  ·intro y0 y1 y2 y3 y4
   unfold sequiturref01_Times.l0
   repeat' first
   | (with_reducible exact ih0 _ _ _)
   | (with_reducible exact ih1 _ _ _ _ _)
   | (with_reducible exact LeO.refl _)
   | (with_reducible exact LeO.none _)
   | (with_reducible refine LeO.ite ?_ ?_)
   | (with_reducible refine LeO.bind ?_ (fun _ => ?_))
   | exact ih0 _ _ _
   | exact ih1 _ _ _ _ _
   | exact LeO.none _
   | refine LeO.ite ?_ ?_
   | refine LeO.bind ?_ (fun _ => ?_)
theorem sequiturref01_Times.mono : ∀ a0 a1 k, LeO (sequiturref01_Times.f k a0 a1) (sequiturref01_Times.f (k + 1) a0 a1) := by
 intro a0 a1 k
 obtain ⟨ih0, ih1⟩ := sequiturref01_Times.mono_l k
 unfold sequiturref01_Times.f
 repeat' first
   | (with_reducible exact ih0 _ _ _)
   | (with_reducible exact ih1 _ _ _ _ _)
   | (with_reducible exact LeO.refl _)
   | (with_reducible exact LeO.none _)
   | (with_reducible refine LeO.ite ?_ ?_)
   | (with_reducible refine LeO.bind ?_ (fun _ => ?_))
   | exact ih0 _ _ _
   | exact ih1 _ _ _ _ _
   | exact LeO.none _
   | refine LeO.ite ?_ ?_
   | refine LeO.bind ?_ (fun _ => ?_)
set_option maxHeartbeats 8000000 in
set_option maxRecDepth 100000 in
theorem sequiturref01_Times.calls (k : Nat) (a0 : Int) (a1 : Int) (r1 : Int) (r2 : Int) (w : World) (h : sequiturref01_Times.f k a0 a1 = some (r1, r2)) :
  Calls Try.prog 64 #[.int .i64 a0, .int .i64 a1] w fun e w' => e = .returned (.agg #[.int .i64 r1, .int .u64 r2]) ∧ Below w.heap.size w w' := by
 have hu74 := Try.underlying74
 have HB := zK (Below.refl w.heap.size w)
 have H : ((sequiturref01_Of.f a0).bind fun bt308 => (if a1 < 0 then ((sequiturref01_Minus.f bt308.1 bt308.2).bind fun bt311 => (sequiturref01_Times.j0 k a1 bt311.1 bt311.2)) else (sequiturref01_Times.j0 k a1 bt308.1 bt308.2))) = some (r1, r2) := h
 clear h
 replace H := Option.bind_eq_some_iff.mp H
 obtain ⟨⟨t308, t309⟩, A30, H⟩ := H
 replace H : (if a1 < 0 then ((sequiturref01_Minus.f t308 t309).bind fun bt311 => (sequiturref01_Times.j0 k a1 bt311.1 bt311.2)) else (sequiturref01_Times.j0 k a1 t308 t309)) = some (r1, r2) := H
 have A3 := zK A30
 clear A30
 have HC4 := zK H
 clear H
 go_enter Try.func64, Try.ntmps64
 go_upto_if 11 with (first | ((with_reducible refine gate_dst (N := 4) rfl ?_); refine box_event ?hg (N := 4) ?hd (cs := #[.int .i64 0, .int .u64 0]) (t := 74) ?hr ?_; (case hd => rfl); (case hg => rfl); (case hr => first | (go_simp; done) | (go_simp; rfl)); intro gb307 hg w5 hbox hb; have BK307 := zK (hbox); have GW307 := zK ((by rw [hg]; exact (below_size (zo HB)) : w.heap.size ≤ gb307)); have GE307 := zK ((by rw [hg]; exact (below_size (zo HB)) : w.heap.size ≤ gb307)); replace HB := zK (below_step (zo HB) hb); clear hb hbox hg) | ((with_reducible refine zC (f := 66) rfl ?_); refine goesL_ (some 9) rfl rfl Try.func66 (by kernel_rfl) rfl #[.int .i64 a0] rfl (by (try simp only [List.map_toArray, List.map_cons, List.map_nil]); first | done | rfl | (simp only [List.length_drop, List.length_take]; rfl)) ?_; (with_reducible refine (sequiturref01_Of.calls a0 t308 t309 _ A3.out).mono ?_); rintro e w6 ⟨rfl, hb⟩; refine ⟨_, rfl, ?_⟩; replace BK307 := zK (blk_below (g := gb307) (o := .cells #[.int .i64 0, .int .u64 0] 74 (0, 0)) (zb BK307) hb); replace HB := zK (below_step (zo HB) hb); (try clear hb); (try clear hb2); (try clear hk); (try clear hi)) | ((with_reducible refine gate_dst (N := 5) rfl ?_); refine box_event ?hg (N := 5) ?hd (cs := #[.int .i64 0, .int .u64 0]) (t := 74) ?hr ?_; (case hd => rfl); (case hg => rfl); (case hr => first | (go_simp; done) | (go_simp; rfl)); intro gb310 hg w7 hbox hb; have BK310 := zK (hbox); have GW310 := zK ((by rw [hg]; exact (below_size (zo HB)) : w.heap.size ≤ gb310)); have GE310 := zK ((by rw [hg]; exact (below_size (zo HB)) : w.heap.size ≤ gb310)); replace HB := zK (below_step (zo HB) hb); have NB307_310 := zK ((by rw [hg]; exact Nat.ne_of_lt (blk_lt (g := gb307) (o := .cells #[.int .i64 0, .int .u64 0] 74 (0, 0)) (zb BK307)) : gb307 ≠ gb310)); have NB310_307 := zK ((by rw [hg]; exact Nat.ne_of_gt (blk_lt (g := gb307) (o := .cells #[.int .i64 0, .int .u64 0] 74 (0, 0)) (zb BK307)) : gb310 ≠ gb307)); replace BK307 := zK (blk_below (g := gb307) (o := .cells #[.int .i64 0, .int .u64 0] 74 (0, 0)) (zb BK307) hb); clear hb hbox hg; have hnb8 := NB310_307.out; have hnc8 := NB307_310.out; have hcz9_0 : w7.cell? ⟨gb310, 0, none⟩ = some (.int .i64 0) := (blk_cell BK310.out 0).trans rfl; have hcz9_1 : w7.cell? ⟨gb310, 1, none⟩ = some (.int .u64 0) := (blk_cell BK310.out 1).trans rfl; have hfz9_0 := blk_frozen BK310.out 0; have hfz9_1 := blk_frozen BK310.out 1))
 (try simp only [Act.put, List.setIfInBounds_toArray, List.set_cons_zero, List.set_cons_succ])
 go_cut [] (fun wc => ∃ (kq : Nat) (x311000_3 : Int) (x311001_3 : Int), Aside0 (sequiturref01_Times.j0 kq a1 x311000_3 x311001_3 = some (r1, r2)) ∧ Aside0 (kq ≤ k) ∧ Aside0 (wc.heap[gb307]? = some (.cells #[.int .i64 0, .int .u64 0] 74 (0, 0))) ∧ Aside0 (wc.heap[gb310]? = some (.cells #[.int .i64 x311000_3, .int .u64 x311001_3] 74 (0, 0))) ∧ Aside0 (Below w.heap.size w wc))
 case first =>
  have H := HC4.out
  clear HC4
  by_cases c10 : a1 < 0
  ·rw [if_pos c10] at H
   have c10b0 : decide (a1 < 0) = true := decide_eq_true c10
   clear c10
   (first | rw [c10b0] | (simp only [i64_w, i32_w]; rw [c10b0]) | skip)
   replace H := Option.bind_eq_some_iff.mp H
   obtain ⟨⟨t311, t312⟩, A110, H⟩ := H
   replace H : (sequiturref01_Times.j0 k a1 t311 t312) = some (r1, r2) := H
   have A11 := zK A110
   clear A110
   have H' := zK H
   clear H
   have hnb12 := NB310_307.out
   have hnc12 := NB307_310.out
   have hcz13_0 : w7.cell? ⟨gb310, 0, none⟩ = some (.int .i64 0) := (blk_cell BK310.out 0).trans rfl
   have hcz13_1 : w7.cell? ⟨gb310, 1, none⟩ = some (.int .u64 0) := (blk_cell BK310.out 1).trans rfl
   have hfz13_0 := blk_frozen BK310.out 0
   have hfz13_1 := blk_frozen BK310.out 1
   go_wp2_with (first | ((with_reducible refine zC (f := 79) rfl ?_); refine goesL_ (some 13) rfl rfl Try.func79 (by kernel_rfl) rfl #[.agg #[.int .i64 t308, .int .u64 t309]] rfl (by (try simp only [List.map_toArray, List.map_cons, List.map_nil]); first | done | rfl | (simp only [List.length_drop, List.length_take]; rfl)) ?_; (with_reducible refine (sequiturref01_Minus.calls t308 t309 t311 t312 _ A11.out).mono ?_); rintro e w14 ⟨rfl, hb⟩; refine ⟨_, rfl, ?_⟩; replace BK307 := zK (blk_below (g := gb307) (o := .cells #[.int .i64 0, .int .u64 0] 74 (0, 0)) (zb BK307) hb); replace BK310 := zK (blk_below (g := gb310) (o := .cells #[.int .i64 t308, .int .u64 t309] 74 (0, 0)) (by refine zM ?_; refine blk_put (cs := #[.int .i64 t308, .int .u64 0]) ?_ 1 _ rfl; refine zM ?_; refine blk_put (cs := #[.int .i64 0, .int .u64 0]) ?_ 0 _ rfl; refine zM ?_; exact BK310.out) hb); replace HB := zK (below_step (zo HB) hb); (try clear hb); (try clear hb2); (try clear hk); (try clear hi); have hcz15_0 : w14.cell? ⟨gb310, 0, none⟩ = some (.int .i64 t308) := (blk_cell BK310.out 0).trans rfl; have hcz15_1 : w14.cell? ⟨gb310, 1, none⟩ = some (.int .u64 t309) := (blk_cell BK310.out 1).trans rfl; have hfz15_0 := blk_frozen BK310.out 0; have hfz15_1 := blk_frozen BK310.out 1))
   go_meet
   case rel => exact ⟨_, (t311), (t312), H', ⟨by first | omega | exact Nat.le_refl _⟩, ⟨zb BK307⟩, ⟨by refine zM ?_; refine blk_put (cs := #[.int .i64 t311, .int .u64 t309]) ?_ 1 _ rfl; refine zM ?_; refine blk_put (cs := #[.int .i64 t308, .int .u64 t309]) ?_ 0 _ rfl; refine zM ?_; exact BK310.out⟩, ⟨zo HB⟩⟩
  ·rw [if_neg c10] at H
   have c10b0 : decide (a1 < 0) = false := decide_eq_false c10
   clear c10
   (first | rw [c10b0] | (simp only [i64_w, i32_w]; rw [c10b0]) | skip)
   have H' := zK H
   clear H
   go_wp2
   go_meet
   case rel => exact ⟨_, (t308), (t309), H', ⟨by first | omega | exact Nat.le_refl _⟩, ⟨zb BK307⟩, ⟨by refine zM ?_; refine blk_put (cs := #[.int .i64 t308, .int .u64 0]) ?_ 1 _ rfl; refine zM ?_; refine blk_put (cs := #[.int .i64 0, .int .u64 0]) ?_ 0 _ rfl; refine zM ?_; exact BK310.out⟩, ⟨zo HB⟩⟩
 case rest =>
  clear HC4
  try clear c1
  try clear p2
  try clear c6
  try clear c7
  try clear c8
  try clear c10
  try clear c10b0
  try clear c12
  try clear hcz13_0
  try clear hcz13_1
  try clear hcz15_0
  try clear hcz15_1
  try clear hcz9_0
  try clear hcz9_1
  try clear hfz13_0
  try clear hfz13_1
  try clear hfz15_0
  try clear hfz15_1
  try clear hfz9_0
  try clear hfz9_1
  obtain ⟨kq, x311000_3, x311001_3, HA, HJ3, BK307, BK310, HB⟩ := hcut
  cases kq with
  | zero => exact absurd HA.out (by simp [sequiturref01_Times.j0])
  | succ kj3 =>
   have H := HA.out
   clear HA
   simp only [sequiturref01_Times.j0] at H
   replace H := Option.bind_eq_some_iff.mp H
   obtain ⟨t314, A160, H⟩ := H
   replace H : (sequiturref01_Times.l0 kj3 t314 x311000_3 x311001_3 0 0) = some (r1, r2) := H
   have A16 := zK A160
   clear A160
   have H' := zK H
   clear H
   go_wp2_with (first | ((with_reducible refine gate_dst (N := 6) rfl ?_); refine box_event ?hg (N := 6) ?hd (cs := #[.int .i64 0, .int .u64 0]) (t := 74) ?hr ?_; (case hd => rfl); (case hg => rfl); (case hr => first | (go_simp; done) | (go_simp; rfl)); intro gb313 hg w17 hbox hb; have BK313 := zK (hbox); have GW313 := zK ((by rw [hg]; exact (below_size (zo HB)) : w.heap.size ≤ gb313)); have GE313 := zK ((by rw [hg]; exact (below_size (zo HB)) : w.heap.size ≤ gb313)); replace HB := zK (below_step (zo HB) hb); have NB307_313 := zK ((by rw [hg]; exact Nat.ne_of_lt (blk_lt (g := gb307) (o := .cells #[.int .i64 0, .int .u64 0] 74 (0, 0)) (zb BK307)) : gb307 ≠ gb313)); have NB313_307 := zK ((by rw [hg]; exact Nat.ne_of_gt (blk_lt (g := gb307) (o := .cells #[.int .i64 0, .int .u64 0] 74 (0, 0)) (zb BK307)) : gb313 ≠ gb307)); replace BK307 := zK (blk_below (g := gb307) (o := .cells #[.int .i64 0, .int .u64 0] 74 (0, 0)) (zb BK307) hb); have NB310_313 := zK ((by rw [hg]; exact Nat.ne_of_lt (blk_lt (g := gb310) (o := .cells #[.int .i64 x311000_3, .int .u64 x311001_3] 74 (0, 0)) (zb BK310)) : gb310 ≠ gb313)); have NB313_310 := zK ((by rw [hg]; exact Nat.ne_of_gt (blk_lt (g := gb310) (o := .cells #[.int .i64 x311000_3, .int .u64 x311001_3] 74 (0, 0)) (zb BK310)) : gb313 ≠ gb310)); replace BK310 := zK (blk_below (g := gb310) (o := .cells #[.int .i64 x311000_3, .int .u64 x311001_3] 74 (0, 0)) (zb BK310) hb); clear hb hbox hg; have hnb18 := NB313_307.out; have hnc18 := NB307_313.out; have hnb19 := NB313_310.out; have hnc19 := NB310_313.out; have hcz20_0 : w17.cell? ⟨gb313, 0, none⟩ = some (.int .i64 0) := (blk_cell BK313.out 0).trans rfl; have hcz20_1 : w17.cell? ⟨gb313, 1, none⟩ = some (.int .u64 0) := (blk_cell BK313.out 1).trans rfl; have hfz20_0 := blk_frozen BK313.out 0; have hfz20_1 := blk_frozen BK313.out 1) | ((with_reducible refine zC (f := 77) rfl ?_); refine goesL_ (some 16) rfl rfl Try.func77 (by kernel_rfl) rfl #[.int .i64 a1] rfl (by (try simp only [List.map_toArray, List.map_cons, List.map_nil]); first | done | rfl | (simp only [List.length_drop, List.length_take]; rfl)) ?_; (with_reducible refine (sequiturref01_Far.calls a1 t314 _ A16.out).mono ?_); rintro e w' ⟨rfl, ⟨nd, rfl⟩⟩; refine ⟨_, rfl, ?_⟩))
   go_loopg [7] kj3 (fun kq v7 w' => ∃ (x7_2 : Int) (x311000_2 : Int) (x311001_2 : Int) (x314000_2 : Int) (x314001_2 : Int), v7 = .int .u64 x7_2 ∧ Aside0 (sequiturref01_Times.l0 kq x7_2 x311000_2 x311001_2 x314000_2 x314001_2 = some (r1, r2)) ∧ Aside0 (kq ≤ kj3) ∧ Aside0 (w'.heap[gb307]? = some (.cells #[.int .i64 0, .int .u64 0] 74 (0, 0))) ∧ Aside0 (w'.heap[gb310]? = some (.cells #[.int .i64 x311000_2, .int .u64 x311001_2] 74 (0, 0))) ∧ Aside0 (w'.heap[gb313]? = some (.cells #[.int .i64 x314000_2, .int .u64 x314001_2] 74 (0, 0))) ∧ Aside0 (Below w.heap.size w w'))
   case atStart => exact ⟨(t314), (x311000_3), (x311001_3), (0), (0), (by first | rfl | (simp; done) | (simp [*]; done)), H', ⟨Nat.le_refl _⟩, ⟨zb BK307⟩, ⟨zb BK310⟩, ⟨by refine zM ?_; refine blk_put (cs := #[.int .i64 0, .int .u64 0]) ?_ 1 _ rfl; refine zM ?_; refine blk_put (cs := #[.int .i64 0, .int .u64 0]) ?_ 0 _ rfl; refine zM ?_; exact BK313.out⟩, ⟨zo HB⟩⟩
   case round =>
    clear H'
    try clear c1
    try clear p2
    try clear c6
    try clear c7
    try clear c8
    try clear c10
    try clear c10b0
    try clear c12
    try clear c18
    try clear c19
    try clear hcz13_0
    try clear hcz13_1
    try clear hcz15_0
    try clear hcz15_1
    try clear hcz20_0
    try clear hcz20_1
    try clear hcz9_0
    try clear hcz9_1
    try clear hfz13_0
    try clear hfz13_1
    try clear hfz15_0
    try clear hfz15_1
    try clear hfz20_0
    try clear hfz20_1
    try clear hfz9_0
    try clear hfz9_1
    try clear p2
    obtain ⟨x7_2, x311000_2, x311001_2, x314000_2, x314001_2, rfl, HA, HK2, BK307, BK310, BK313, HB⟩ := hrel
    cases gk with
    | zero => exact absurd HA.out (by simp [sequiturref01_Times.l0])
    | succ k2 =>
     have H := HA.out
     clear HA
     simp only [sequiturref01_Times.l0] at H
     by_cases c21 : x7_2 > 0
     ·rw [if_pos c21] at H
      have c21b0 : decide (0 < x7_2) = true := decide_eq_true c21
      clear c21
      by_cases c22 : (Int.tmod x7_2 2) = 1
      ·rw [if_pos c22] at H
       have c22b0 : ((Int.tmod x7_2 2) == 1) = true := beq_iff_eq.mpr c22
       have c22b1 : ((Int.tmod x7_2 2) != 1) = false := bne_eq_false_iff_eq.mpr c22
       clear c22
       replace H := Option.bind_eq_some_iff.mp H
       obtain ⟨⟨t315, t316⟩, A230, H⟩ := H
       replace H : ((sequiturref01_Plus.f x311000_2 x311001_2 x311000_2 x311001_2).bind fun bt317 => (sequiturref01_Times.l0 k2 (IntKind.u64.wrap (Int.tdiv x7_2 2)) bt317.1 bt317.2 t315 t316)) = some (r1, r2) := H
       have A23 := zK A230
       clear A230
       replace H := Option.bind_eq_some_iff.mp H
       obtain ⟨⟨t317, t318⟩, A240, H⟩ := H
       replace H : (sequiturref01_Times.l0 k2 (IntKind.u64.wrap (Int.tdiv x7_2 2)) t317 t318 t315 t316) = some (r1, r2) := H
       have A24 := zK A240
       clear A240
       have H' := zK H
       clear H
       have hnb25 := NB313_307.out
       have hnc25 := NB307_313.out
       have hnb26 := NB313_310.out
       have hnc26 := NB310_313.out
       have hcz27_0 : wr.cell? ⟨gb313, 0, none⟩ = some (.int .i64 x314000_2) := (blk_cell BK313.out 0).trans rfl
       have hcz27_1 : wr.cell? ⟨gb313, 1, none⟩ = some (.int .u64 x314001_2) := (blk_cell BK313.out 1).trans rfl
       have hfz27_0 := blk_frozen BK313.out 0
       have hfz27_1 := blk_frozen BK313.out 1
       have hnb28 := NB310_307.out
       have hnc28 := NB307_310.out
       have hcz29_0 : wr.cell? ⟨gb310, 0, none⟩ = some (.int .i64 x311000_2) := (blk_cell BK310.out 0).trans rfl
       have hcz29_1 : wr.cell? ⟨gb310, 1, none⟩ = some (.int .u64 x311001_2) := (blk_cell BK310.out 1).trans rfl
       have hfz29_0 := blk_frozen BK310.out 0
       have hfz29_1 := blk_frozen BK310.out 1
       go_wp2_with (first | ((with_reducible refine zC (f := 65) rfl ?_); refine goesL_ (some 26) rfl rfl Try.func65 (by kernel_rfl) rfl #[.agg #[.int .i64 x314000_2, .int .u64 x314001_2], .agg #[.int .i64 x311000_2, .int .u64 x311001_2]] rfl (by (try simp only [List.map_toArray, List.map_cons, List.map_nil]); first | done | rfl | (simp only [List.length_drop, List.length_take]; rfl)) ?_; (with_reducible refine (sequiturref01_Plus.calls x314000_2 x314001_2 x311000_2 x311001_2 t315 t316 _ A23.out).mono ?_); rintro e w30 ⟨rfl, hb⟩; refine ⟨_, rfl, ?_⟩; replace BK307 := zK (blk_below (g := gb307) (o := .cells #[.int .i64 0, .int .u64 0] 74 (0, 0)) (zb BK307) hb); replace BK310 := zK (blk_below (g := gb310) (o := .cells #[.int .i64 x311000_2, .int .u64 x311001_2] 74 (0, 0)) (zb BK310) hb); replace BK313 := zK (blk_below (g := gb313) (o := .cells #[.int .i64 x314000_2, .int .u64 x314001_2] 74 (0, 0)) (zb BK313) hb); replace HB := zK (below_step (zo HB) hb); (try clear hb); (try clear hb2); (try clear hk); (try clear hi); have hcz31_0 : w30.cell? ⟨gb313, 0, none⟩ = some (.int .i64 x314000_2) := (blk_cell BK313.out 0).trans rfl; have hcz31_1 : w30.cell? ⟨gb313, 1, none⟩ = some (.int .u64 x314001_2) := (blk_cell BK313.out 1).trans rfl; have hfz31_0 := blk_frozen BK313.out 0; have hfz31_1 := blk_frozen BK313.out 1; have hcz32_0 : w30.cell? ⟨gb310, 0, none⟩ = some (.int .i64 x311000_2) := (blk_cell BK310.out 0).trans rfl; have hcz32_1 : w30.cell? ⟨gb310, 1, none⟩ = some (.int .u64 x311001_2) := (blk_cell BK310.out 1).trans rfl; have hfz32_0 := blk_frozen BK310.out 0; have hfz32_1 := blk_frozen BK310.out 1) | ((with_reducible refine zC (f := 65) rfl ?_); refine goesL_ (some 29) rfl rfl Try.func65 (by kernel_rfl) rfl #[.agg #[.int .i64 x311000_2, .int .u64 x311001_2], .agg #[.int .i64 x311000_2, .int .u64 x311001_2]] rfl (by (try simp only [List.map_toArray, List.map_cons, List.map_nil]); first | done | rfl | (simp only [List.length_drop, List.length_take]; rfl)) ?_; (with_reducible refine (sequiturref01_Plus.calls x311000_2 x311001_2 x311000_2 x311001_2 t317 t318 _ A24.out).mono ?_); rintro e w33 ⟨rfl, hb⟩; refine ⟨_, rfl, ?_⟩; replace BK307 := zK (blk_below (g := gb307) (o := .cells #[.int .i64 0, .int .u64 0] 74 (0, 0)) (zb BK307) hb); replace BK310 := zK (blk_below (g := gb310) (o := .cells #[.int .i64 x311000_2, .int .u64 x311001_2] 74 (0, 0)) (zb BK310) hb); replace BK313 := zK (blk_below (g := gb313) (o := .cells #[.int .i64 t315, .int .u64 t316] 74 (0, 0)) (by refine zM ?_; refine blk_put (cs := #[.int .i64 t315, .int .u64 x314001_2]) ?_ 1 _ rfl; refine zM ?_; refine blk_put (cs := #[.int .i64 x314000_2, .int .u64 x314001_2]) ?_ 0 _ rfl; refine zM ?_; exact BK313.out) hb); replace HB := zK (below_step (zo HB) hb); (try clear hb); (try clear hb2); (try clear hk); (try clear hi); have hcz34_0 : w33.cell? ⟨gb310, 0, none⟩ = some (.int .i64 x311000_2) := (blk_cell BK310.out 0).trans rfl; have hcz34_1 : w33.cell? ⟨gb310, 1, none⟩ = some (.int .u64 x311001_2) := (blk_cell BK310.out 1).trans rfl; have hfz34_0 := blk_frozen BK310.out 0; have hfz34_1 := blk_frozen BK310.out 1))
       go_roundg k2
       case measure => have := HJ3.out; have := HK2.out; omega
       case rel => exact ⟨(IntKind.u64.wrap (Int.tdiv x7_2 2)), (t317), (t318), (t315), (t316), (by first | rfl | (simp; done) | (simp [*]; done)), H', ⟨by have := HJ3.out; have := HK2.out; omega⟩, ⟨zb BK307⟩, ⟨by refine zM ?_; refine blk_put (cs := #[.int .i64 t317, .int .u64 x311001_2]) ?_ 1 _ rfl; refine zM ?_; refine blk_put (cs := #[.int .i64 x311000_2, .int .u64 x311001_2]) ?_ 0 _ rfl; refine zM ?_; exact BK310.out⟩, ⟨zb BK313⟩, ⟨zo HB⟩⟩
      ·rw [if_neg c22] at H
       have c22b0 : ((Int.tmod x7_2 2) == 1) = false := beq_eq_false_iff_ne.mpr c22
       have c22b1 : ((Int.tmod x7_2 2) != 1) = true := bne_iff_ne.mpr c22
       replace H := Option.bind_eq_some_iff.mp H
       obtain ⟨⟨t319, t320⟩, A350, H⟩ := H
       replace H : (sequiturref01_Times.l0 k2 (IntKind.u64.wrap (Int.tdiv x7_2 2)) t319 t320 x314000_2 x314001_2) = some (r1, r2) := H
       have A35 := zK A350
       clear A350
       have H' := zK H
       clear H
       have hnb36 := NB310_307.out
       have hnc36 := NB307_310.out
       have hnb37 := NB310_313.out
       have hnc37 := NB313_310.out
       have hcz38_0 : wr.cell? ⟨gb310, 0, none⟩ = some (.int .i64 x311000_2) := (blk_cell BK310.out 0).trans rfl
       have hcz38_1 : wr.cell? ⟨gb310, 1, none⟩ = some (.int .u64 x311001_2) := (blk_cell BK310.out 1).trans rfl
       have hfz38_0 := blk_frozen BK310.out 0
       have hfz38_1 := blk_frozen BK310.out 1
       go_wp2_with (first | ((with_reducible refine zC (f := 65) rfl ?_); refine goesL_ (some 29) rfl rfl Try.func65 (by kernel_rfl) rfl #[.agg #[.int .i64 x311000_2, .int .u64 x311001_2], .agg #[.int .i64 x311000_2, .int .u64 x311001_2]] rfl (by (try simp only [List.map_toArray, List.map_cons, List.map_nil]); first | done | rfl | (simp only [List.length_drop, List.length_take]; rfl)) ?_; (with_reducible refine (sequiturref01_Plus.calls x311000_2 x311001_2 x311000_2 x311001_2 t319 t320 _ A35.out).mono ?_); rintro e w39 ⟨rfl, hb⟩; refine ⟨_, rfl, ?_⟩; replace BK307 := zK (blk_below (g := gb307) (o := .cells #[.int .i64 0, .int .u64 0] 74 (0, 0)) (zb BK307) hb); replace BK310 := zK (blk_below (g := gb310) (o := .cells #[.int .i64 x311000_2, .int .u64 x311001_2] 74 (0, 0)) (zb BK310) hb); replace BK313 := zK (blk_below (g := gb313) (o := .cells #[.int .i64 x314000_2, .int .u64 x314001_2] 74 (0, 0)) (zb BK313) hb); replace HB := zK (below_step (zo HB) hb); (try clear hb); (try clear hb2); (try clear hk); (try clear hi); have hcz40_0 : w39.cell? ⟨gb310, 0, none⟩ = some (.int .i64 x311000_2) := (blk_cell BK310.out 0).trans rfl; have hcz40_1 : w39.cell? ⟨gb310, 1, none⟩ = some (.int .u64 x311001_2) := (blk_cell BK310.out 1).trans rfl; have hfz40_0 := blk_frozen BK310.out 0; have hfz40_1 := blk_frozen BK310.out 1))
       go_roundg k2
       case measure => have := HJ3.out; have := HK2.out; omega
       case rel => exact ⟨(IntKind.u64.wrap (Int.tdiv x7_2 2)), (t319), (t320), (x314000_2), (x314001_2), (by first | rfl | (simp; done) | (simp [*]; done)), H', ⟨by have := HJ3.out; have := HK2.out; omega⟩, ⟨zb BK307⟩, ⟨by refine zM ?_; refine blk_put (cs := #[.int .i64 t319, .int .u64 x311001_2]) ?_ 1 _ rfl; refine zM ?_; refine blk_put (cs := #[.int .i64 x311000_2, .int .u64 x311001_2]) ?_ 0 _ rfl; refine zM ?_; exact BK310.out⟩, ⟨zb BK313⟩, ⟨zo HB⟩⟩
     ·rw [if_neg c21] at H
      have c21b0 : decide (0 < x7_2) = false := decide_eq_false c21
      clear c21
      simp only [Option.some.injEq, Prod.mk.injEq] at H
      obtain ⟨rfl, rfl⟩ := H
      have hnb41 := NB313_307.out
      have hnc41 := NB307_313.out
      have hnb42 := NB313_310.out
      have hnc42 := NB310_313.out
      have hcz43_0 : wr.cell? ⟨gb313, 0, none⟩ = some (.int .i64 x314000_2) := (blk_cell BK313.out 0).trans rfl
      have hcz43_1 : wr.cell? ⟨gb313, 1, none⟩ = some (.int .u64 x314001_2) := (blk_cell BK313.out 1).trans rfl
      have hfz43_0 := blk_frozen BK313.out 0
      have hfz43_1 := blk_frozen BK313.out 1
      have hnb44 := NB307_310.out
      have hnc44 := NB310_307.out
      have hcz45_0 : wr.cell? ⟨gb307, 0, none⟩ = some (.int .i64 0) := (blk_cell BK307.out 0).trans rfl
      have hcz45_1 : wr.cell? ⟨gb307, 1, none⟩ = some (.int .u64 0) := (blk_cell BK307.out 1).trans rfl
      have hfz45_0 := blk_frozen BK307.out 0
      have hfz45_1 := blk_frozen BK307.out 1
      go_wp2
      refine bodyPost_ret (results_cell_row rfl _ _ gb307 74 #[.int .i64 x314000_2, .int .u64 x314001_2] (0, 0) _ rfl (by refine zM ?_; refine blk_put (cs := #[.int .i64 x314000_2, .int .u64 0]) ?_ 1 _ rfl; refine zM ?_; refine blk_put (cs := #[.int .i64 0, .int .u64 0]) ?_ 0 _ rfl; refine zM ?_; exact BK307.out) Try.underlying74 rfl (by kernel_rfl)) rfl ?_
      exact ⟨by first | rfl | (simp [errW_none, errW_some] <;> rfl) | (simp [*, errW_none, errW_some] <;> rfl), zo HB⟩

end Go.Proofs.Ytmedciidghmkkaa.PIneqTurns
