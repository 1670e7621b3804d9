/- What the call of each function that the law reaches comes to: it answers as the plain function of the same name does, wherever that one answers; and the law itself out of its plain form. Written by a program of this session (an extended copy of the printer); no condition but what stands in each theorem. -/
import Derived.Test.YtjinmlpekecmbaaPEuclidPointsx0
import Derived.Test.YtjinmlpekecmbaaPEuclidPointsx1
import Derived.Test.YtjinmlpekecmbaaPEuclidPointsx9
import Derived.Test.YtjinmlpekecmbaaPEuclidPointsx10
namespace Go.Proofs.Ytjinmlpekecmbaa.PEuclidPoints
open Go.RowKit Go.Proofs.YtjinmlpekecmbaaW.PrintWords Go.Proofs.YtjinmlpekecmbaaW.PrintLast Go.Proofs.YtjinmlpekecmbaaW.PrintMore
open Go.Proofs.YtjinmlpekecmbaaW.PrintWords renaming blk_drewN → zN, blk_drew → zD, blk_alloc → zA, below_alloc → yA, pw_below_drewN → yN, below_drew1 → yD, below_set → yS, gate_callee → zC, gate_guard → zG
open Go.Proofs.YtjinmlpekecmbaaW.PrintWords.Kd renaming C_alloc → cA, C_drewN → cN, C_drew → cD
open Go.Proofs.YtjinmlpekecmbaaW.PrintWords.Aside0 renaming mk → zK
attribute [local go_sem] max2_int min2_int max_two min_two max_three min_three max_four min_four   -- for this text's walks alone
set_option linter.unusedVariables false
set_option linter.unusedSimpArgs false

/-! ### sequiturlaw29_EuclidPoints: function 7 -/
mutual
def sequiturlaw29_EuclidPoints.j0 : Nat → List Int → Bool → List (S41) → Int → Option (Bool)
 | 0, _, _, _, _ => none
 | k + 1, x1, x23, x328000, x328001 => if x23 = true then ((sequiturlaw29_alive.f k).bind fun t329 => (some t329)) else ((euclid_Point.f k x328000 x328001 x1).bind fun bt330 => (if (x1.length : Int) = x328001 then (sequiturlaw29_EuclidPoints.j1 k x1 bt330.1 bt330.2 0 x328000 x328001) else (sequiturlaw29_EuclidPoints.j1 k x1 bt330.1 bt330.2 1 x328000 x328001)))
def sequiturlaw29_EuclidPoints.j1 : Nat → List Int → List Int → Int → Int → List (S41) → Int → Option (Bool)
 | 0, _, _, _, _, _, _ => none
 | k + 1, x1, x5, x6, x7, x328000, x328001 => sequiturlaw29_EuclidPoints.l0 k x1 x5 x6 x7 x328000 (x328000.length : Int) 0 x328000 x328001
def sequiturlaw29_EuclidPoints.l0 : Nat → List Int → List Int → Int → Int → List (S41) → Int → Int → List (S41) → Int → Option (Bool)
 | 0, _, _, _, _, _, _, _, _, _ => none
 | k + 1, x1, x5, x6, x7, x37, x38, x39, x328000, x328001 => if x39 < x38 then (if 0 ≤ x39 then (if x39 < (x37.length : Int) then (if x7 = 0 then ((lin_Right.f k ((rd_T41 x37 x39).f0) ((rd_T41 x37 x39).f1)).bind fun t336 => (if t336 = 0 then (sequiturlaw29_EuclidPoints.l0 k x1 x5 x6 x7 x37 x38 (wrap64 (x39 + 1)) x328000 x328001) else (sequiturlaw29_EuclidPoints.l0 k x1 x5 x6 1 x37 x38 (wrap64 (x39 + 1)) x328000 x328001))) else (sequiturlaw29_EuclidPoints.l0 k x1 x5 x6 x7 x37 x38 (wrap64 (x39 + 1)) x328000 x328001)) else (none)) else (none)) else (sequiturlaw29_EuclidPoints.l1 k x1 x5 x6 x7 ([] : List Int) x328000 (x328000.length : Int) 0)
def sequiturlaw29_EuclidPoints.j4 : Nat → List Int → Int → Int → List Int → Option (Bool)
 | 0, _, _, _, _ => none
 | k + 1, x5, x6, x7, x10 => if x7 = 0 then ((sequiturbase_Int64s.f k x5 x10).bind fun t344 => (if t344 = true then (if x6 = x7 then ((sequiturlaw29_alive.f k).bind fun t345 => (some t345)) else (none)) else (none))) else ((sequiturbase_Int64s.f k x5 ([] : List Int)).bind fun t346 => (if t346 = true then (if x6 = x7 then ((sequiturlaw29_alive.f k).bind fun t347 => (some t347)) else (none)) else (none)))
def sequiturlaw29_EuclidPoints.l1 : Nat → List Int → List Int → Int → Int → List Int → List (S41) → Int → Int → Option (Bool)
 | 0, _, _, _, _, _, _, _, _ => none
 | k + 1, x1, x5, x6, x7, x10, x52, x53, x54 => if x54 < x53 then (if 0 ≤ x54 then (if x54 < (x52.length : Int) then (if x7 = 0 then ((lin_Eval.f k ((rd_T41 x52 x54).f0) ((rd_T41 x52 x54).f1) x1).bind fun bt339 => (if x10.length < 17592186044416 then (sequiturlaw29_EuclidPoints.l1 k x1 x5 x6 bt339.2 (x10 ++ [bt339.1]) x52 x53 (wrap64 (x54 + 1))) else (none))) else (sequiturlaw29_EuclidPoints.j4 k x5 x6 x7 x10)) else (none)) else (none)) else (sequiturlaw29_EuclidPoints.j4 k x5 x6 x7 x10)
end
def sequiturlaw29_EuclidPoints.f (k : Nat) (l0_0 : List (S41)) (a0_1 : Int) (l1 : List Int) : Option (Bool) := (sequiturlaw29_few.f k l0_0).bind fun t328 => (if t328 = true then (sequiturlaw29_EuclidPoints.j0 k l1 (decide ((l1.length : Int) > 100)) l0_0 a0_1) else (sequiturlaw29_EuclidPoints.j0 k l1 true l0_0 a0_1))
theorem sequiturlaw29_EuclidPoints.mono_l : ∀ k, (∀ y0 y1 y2 y3, LeO (sequiturlaw29_EuclidPoints.j0 k y0 y1 y2 y3) (sequiturlaw29_EuclidPoints.j0 (k + 1) y0 y1 y2 y3)) ∧ (∀ y0 y1 y2 y3 y4 y5, LeO (sequiturlaw29_EuclidPoints.j1 k y0 y1 y2 y3 y4 y5) (sequiturlaw29_EuclidPoints.j1 (k + 1) y0 y1 y2 y3 y4 y5)) ∧ (∀ y0 y1 y2 y3 y4 y5 y6 y7 y8, LeO (sequiturlaw29_EuclidPoints.l0 k y0 y1 y2 y3 y4 y5 y6 y7 y8) (sequiturlaw29_EuclidPoints.l0 (k + 1) y0 y1 y2 y3 y4 y5 y6 y7 y8)) ∧ (∀ y0 y1 y2 y3, LeO (sequiturlaw29_EuclidPoints.j4 k y0 y1 y2 y3) (sequiturlaw29_EuclidPoints.j4 (k + 1) y0 y1 y2 y3)) ∧ (∀ y0 y1 y2 y3 y4 y5 y6 y7, LeO (sequiturlaw29_EuclidPoints.l1 k y0 y1 y2 y3 y4 y5 y6 y7) (sequiturlaw29_EuclidPoints.l1 (k + 1) y0 y1 y2 y3 y4 y5 y6 y7))
 | 0 => ⟨fun _ _ _ _ r h => by simp [sequiturlaw29_EuclidPoints.j0] at h, fun _ _ _ _ _ _ r h => by simp [sequiturlaw29_EuclidPoints.j1] at h, fun _ _ _ _ _ _ _ _ _ r h => by simp [sequiturlaw29_EuclidPoints.l0] at h, fun _ _ _ _ r h => by simp [sequiturlaw29_EuclidPoints.j4] at h, fun _ _ _ _ _ _ _ _ r h => by simp [sequiturlaw29_EuclidPoints.l1] at h⟩
 | k + 1 => by
  obtain ⟨ih0, ih1, ih2, ih3, ih4⟩ := sequiturlaw29_EuclidPoints.mono_l k
  refine ⟨?_, ?_, ?_, ?_, ?_⟩
  ·intro y0 y1 y2 y3
   unfold sequiturlaw29_EuclidPoints.j0
   repeat' first
   | (with_reducible exact ih0 _ _ _ _)
   | (with_reducible exact ih1 _ _ _ _ _ _)
   | (with_reducible exact ih2 _ _ _ _ _ _ _ _ _)
   | (with_reducible exact ih3 _ _ _ _)
   | (with_reducible exact ih4 _ _ _ _ _ _ _ _)
   | (with_reducible exact euclid_Point.mono _ _ _ _)
   | (with_reducible exact lin_Eval.mono _ _ _ _)
   | (with_reducible exact lin_Right.mono _ _ _)
   | (with_reducible exact sequiturbase_Int64s.mono _ _ _)
   | (with_reducible exact sequiturlaw29_alive.mono _)
   | (with_reducible exact sequiturlaw29_few.mono _ _)
   | (with_reducible exact LeO.refl _)
   | (with_reducible exact LeO.none _)
   | (with_reducible refine LeO.ite ?_ ?_)
   | (with_reducible refine LeO.bind ?_ (fun _ => ?_))
   | exact ih0 _ _ _ _
   | exact ih1 _ _ _ _ _ _
   | exact ih2 _ _ _ _ _ _ _ _ _
   | exact ih3 _ _ _ _
   | exact ih4 _ _ _ _ _ _ _ _
   | exact euclid_Point.mono _ _ _ _
   | exact lin_Eval.mono _ _ _ _
   | exact lin_Right.mono _ _ _
   | exact sequiturbase_Int64s.mono _ _ _
   | exact sequiturlaw29_alive.mono _
   | exact sequiturlaw29_few.mono _ _
   | exact LeO.none _
   | refine LeO.ite ?_ ?_
   | refine LeO.bind ?_ (fun _ => ?_)
  ·intro y0 y1 y2 y3 y4 y5
   unfold sequiturlaw29_EuclidPoints.j1
   repeat' first
   | (with_reducible exact ih0 _ _ _ _)
   | (with_reducible exact ih1 _ _ _ _ _ _)
   | (with_reducible exact ih2 _ _ _ _ _ _ _ _ _)
   | (with_reducible exact ih3 _ _ _ _)
   | (with_reducible exact ih4 _ _ _ _ _ _ _ _)
   | (with_reducible exact euclid_Point.mono _ _ _ _)
   | (with_reducible exact lin_Eval.mono _ _ _ _)
   | (with_reducible exact lin_Right.mono _ _ _)
   | (with_reducible exact sequiturbase_Int64s.mono _ _ _)
   | (with_reducible exact sequiturlaw29_alive.mono _)
   | (with_reducible exact sequiturlaw29_few.mono _ _)
   | (with_reducible exact LeO.refl _)
   | (with_reducible exact LeO.none _)
   | (with_reducible refine LeO.ite ?_ ?_)
   | (with_reducible refine LeO.bind ?_ (fun _ => ?_))
   | exact ih0 _ _ _ _
   | exact ih1 _ _ _ _ _ _
   | exact ih2 _ _ _ _ _ _ _ _ _
   | exact ih3 _ _ _ _
   | exact ih4 _ _ _ _ _ _ _ _
   | exact euclid_Point.mono _ _ _ _
   | exact lin_Eval.mono _ _ _ _
   | exact lin_Right.mono _ _ _
   | exact sequiturbase_Int64s.mono _ _ _
   | exact sequiturlaw29_alive.mono _
   | exact sequiturlaw29_few.mono _ _
   | exact LeO.none _
   | refine LeO.ite ?_ ?_
   | refine LeO.bind ?_ (fun _ => ?_)
  ·intro y0 y1 y2 y3 y4 y5 y6 y7 y8
   unfold sequiturlaw29_EuclidPoints.l0
   repeat' first
   | (with_reducible exact ih0 _ _ _ _)
   | (with_reducible exact ih1 _ _ _ _ _ _)
   | (with_reducible exact ih2 _ _ _ _ _ _ _ _ _)
   | (with_reducible exact ih3 _ _ _ _)
   | (with_reducible exact ih4 _ _ _ _ _ _ _ _)
   | (with_reducible exact euclid_Point.mono _ _ _ _)
   | (with_reducible exact lin_Eval.mono _ _ _ _)
   | (with_reducible exact lin_Right.mono _ _ _)
   | (with_reducible exact sequiturbase_Int64s.mono _ _ _)
   | (with_reducible exact sequiturlaw29_alive.mono _)
   | (with_reducible exact sequiturlaw29_few.mono _ _)
   | (with_reducible exact LeO.refl _)
   | (with_reducible exact LeO.none _)
   | (with_reducible refine LeO.ite ?_ ?_)
   | (with_reducible refine LeO.bind ?_ (fun _ => ?_))
   | exact ih0 _ _ _ _
   | exact ih1 _ _ _ _ _ _
   | exact ih2 _ _ _ _ _ _ _ _ _
   | exact ih3 _ _ _ _
   | exact ih4 _ _ _ _ _ _ _ _
   | exact euclid_Point.mono _ _ _ _
   | exact lin_Eval.mono _ _ _ _
   | exact lin_Right.mono _ _ _
   | exact sequiturbase_Int64s.mono _ _ _
   | exact sequiturlaw29_alive.mono _
   | exact sequiturlaw29_few.mono _ _
   | exact LeO.none _
   | refine LeO.ite ?_ ?_
   | refine LeO.bind ?_ (fun _ => ?_)
  ·intro y0 y1 y2 y3
   unfold sequiturlaw29_EuclidPoints.j4
   repeat' first
   | (with_reducible exact ih0 _ _ _ _)
   | (with_reducible exact ih1 _ _ _ _ _ _)
   | (with_reducible exact ih2 _ _ _ _ _ _ _ _ _)
   | (with_reducible exact ih3 _ _ _ _)
   | (with_reducible exact ih4 _ _ _ _ _ _ _ _)
   | (with_reducible exact euclid_Point.mono _ _ _ _)
   | (with_reducible exact lin_Eval.mono _ _ _ _)
   | (with_reducible exact lin_Right.mono _ _ _)
   | (with_reducible exact sequiturbase_Int64s.mono _ _ _)
   | (with_reducible exact sequiturlaw29_alive.mono _)
   | (with_reducible exact sequiturlaw29_few.mono _ _)
   | (with_reducible exact LeO.refl _)
   | (with_reducible exact LeO.none _)
   | (with_reducible refine LeO.ite ?_ ?_)
   | (with_reducible refine LeO.bind ?_ (fun _ => ?_))
   | exact ih0 _ _ _ _
   | exact ih1 _ _ _ _ _ _
   | exact ih2 _ _ _ _ _ _ _ _ _
   | exact ih3 _ _ _ _
   | exact ih4 _ _ _ _ _ _ _ _
   | exact euclid_Point.mono _ _ _ _
   | exact lin_Eval.mono _ _ _ _
   | exact lin_Right.mono _ _ _
   | exact sequiturbase_Int64s.mono _ _ _
   | exact sequiturlaw29_alive.mono _
   | exact sequiturlaw29_few.mono _ _
   | exact LeO.none _
   | refine LeO.ite ?_ ?_
   | refine LeO.bind ?_ (fun _ => ?_)
  ·intro y0 y1 y2 y3 y4 y5 y6 y7
   unfold sequiturlaw29_EuclidPoints.l1
   repeat' first
   | (with_reducible exact ih0 _ _ _ _)
   | (with_reducible exact ih1 _ _ _ _ _ _)
   | (with_reducible exact ih2 _ _ _ _ _ _ _ _ _)
   | (with_reducible exact ih3 _ _ _ _)
   | (with_reducible exact ih4 _ _ _ _ _ _ _ _)
   | (with_reducible exact euclid_Point.mono _ _ _ _)
   | (with_reducible exact lin_Eval.mono _ _ _ _)
   | (with_reducible exact lin_Right.mono _ _ _)
   | (with_reducible exact sequiturbase_Int64s.mono _ _ _)
   | (with_reducible exact sequiturlaw29_alive.mono _)
   | (with_reducible exact sequiturlaw29_few.mono _ _)
   | (with_reducible exact LeO.refl _)
   | (with_reducible exact LeO.none _)
   | (with_reducible refine LeO.ite ?_ ?_)
   | (with_reducible refine LeO.bind ?_ (fun _ => ?_))
   | exact ih0 _ _ _ _
   | exact ih1 _ _ _ _ _ _
   | exact ih2 _ _ _ _ _ _ _ _ _
   | exact ih3 _ _ _ _
   | exact ih4 _ _ _ _ _ _ _ _
   | exact euclid_Point.mono _ _ _ _
   | exact lin_Eval.mono _ _ _ _
   | exact lin_Right.mono _ _ _
   | exact sequiturbase_Int64s.mono _ _ _
   | exact sequiturlaw29_alive.mono _
   | exact sequiturlaw29_few.mono _ _
   | exact LeO.none _
   | refine LeO.ite ?_ ?_
   | refine LeO.bind ?_ (fun _ => ?_)
theorem sequiturlaw29_EuclidPoints.mono : ∀ a0 a1 a2 k, LeO (sequiturlaw29_EuclidPoints.f k a0 a1 a2) (sequiturlaw29_EuclidPoints.f (k + 1) a0 a1 a2) := by
 intro a0 a1 a2 k
 obtain ⟨ih0, ih1, ih2, ih3, ih4⟩ := sequiturlaw29_EuclidPoints.mono_l k
 unfold sequiturlaw29_EuclidPoints.f
 repeat' first
   | (with_reducible exact ih0 _ _ _ _)
   | (with_reducible exact ih1 _ _ _ _ _ _)
   | (with_reducible exact ih2 _ _ _ _ _ _ _ _ _)
   | (with_reducible exact ih3 _ _ _ _)
   | (with_reducible exact ih4 _ _ _ _ _ _ _ _)
   | (with_reducible exact euclid_Point.mono _ _ _ _)
   | (with_reducible exact lin_Eval.mono _ _ _ _)
   | (with_reducible exact lin_Right.mono _ _ _)
   | (with_reducible exact sequiturbase_Int64s.mono _ _ _)
   | (with_reducible exact sequiturlaw29_alive.mono _)
   | (with_reducible exact sequiturlaw29_few.mono _ _)
   | (with_reducible exact LeO.refl _)
   | (with_reducible exact LeO.none _)
   | (with_reducible refine LeO.ite ?_ ?_)
   | (with_reducible refine LeO.bind ?_ (fun _ => ?_))
   | exact ih0 _ _ _ _
   | exact ih1 _ _ _ _ _ _
   | exact ih2 _ _ _ _ _ _ _ _ _
   | exact ih3 _ _ _ _
   | exact ih4 _ _ _ _ _ _ _ _
   | exact euclid_Point.mono _ _ _ _
   | exact lin_Eval.mono _ _ _ _
   | exact lin_Right.mono _ _ _
   | exact sequiturbase_Int64s.mono _ _ _
   | exact sequiturlaw29_alive.mono _
   | exact sequiturlaw29_few.mono _ _
   | exact LeO.none _
   | refine LeO.ite ?_ ?_
   | refine LeO.bind ?_ (fun _ => ?_)
set_option maxHeartbeats 8000000 in
set_option maxRecDepth 100000 in
theorem sequiturlaw29_EuclidPoints.calls (k : Nat) (A0_0 : Option Addr) (c0_0 : Nat) (l0_0 : List (S41)) (a0_1 : Int) (A1 : Option Addr) (c1 : Nat) (l1 : List Int) (r : Bool) (w : World) (hr0_0 : Kd.C k41 w A0_0 l0_0.length l0_0) (hc0_0 : l0_0.length ≤ c0_0) (hr1 : Kd.C (Kd.int .i64) w A1 l1.length l1) (hc1 : l1.length ≤ c1) (h : sequiturlaw29_EuclidPoints.f k l0_0 a0_1 l1 = some r) :
  Calls Try.prog 7 #[.agg #[.slice A0_0 l0_0.length c0_0, .int .i64 a0_1], .slice A1 l1.length c1] w fun e w' => e = .returned (.bool r) ∧ Below w.heap.size w w' := by
 have hu32 := Try.underlying32
 have hu41 := Try.underlying41
 have HR0_0 := zK hr0_0
 have HC0_0 := zK hc0_0; clear hr0_0 hc0_0
 have HR1 := zK hr1
 have HC1 := zK hc1; clear hr1 hc1
 have HB := zK (Below.refl w.heap.size w)
 have H : ((sequiturlaw29_few.f k l0_0).bind fun t328 => (if t328 = true then (sequiturlaw29_EuclidPoints.j0 k l1 (decide ((l1.length : Int) > 100)) l0_0 a0_1) else (sequiturlaw29_EuclidPoints.j0 k l1 true l0_0 a0_1))) = some r := h
 clear h
 have HC3 := zK H; clear H
 go_enter Try.func7, Try.ntmps7
 go_upto_region 1 with (first | ((with_reducible refine gate_dst (N := 2) rfl ?_); (try (refine zG (by rfl) ?_; dsimp only)); refine box_event ?hg (N := 2) ?hd (cs := #[.slice A0_0 l0_0.length c0_0, .int .i64 a0_1]) (t := 32) ?hr ?_; (case hd => rfl); (case hg => rfl); (case hr => first | (go_simp; done) | (go_simp; rfl)); intro gb327 hg w4 hbox hb; have BK327 := zK (hbox); have GW327 := zK ((by rw [hg]; exact (below_size (zo HB)) : w.heap.size ≤ gb327)); have GE327 := zK ((by rw [hg]; exact (below_size (zo HB)) : w.heap.size ≤ gb327)); replace HB := zK (below_step (zo HB) hb); clear hb hbox hg))
 (try simp only [Act.put, List.setIfInBounds_toArray, List.set_cons_zero, List.set_cons_succ])
 go_cut [23] (fun v23 wc => ∃ (kq : Nat) (x23_2 : Bool), v23 = .bool x23_2 ∧ Aside0 (sequiturlaw29_EuclidPoints.j0 kq l1 x23_2 l0_0 a0_1 = some r) ∧ Aside0 (kq ≤ k) ∧ Aside0 (wc.heap[gb327]? = some (.cells #[(.slice A0_0 l0_0.length c0_0), .int .i64 a0_1] 32 (0, 0))) ∧ Aside0 (Below w.heap.size w wc))
 case first =>
  have H := HC3.out; clear HC3; replace H := Option.bind_eq_some_iff.mp H
  obtain ⟨t328, A50, H⟩ := H
  replace H : (if t328 = true then (sequiturlaw29_EuclidPoints.j0 k l1 (decide ((l1.length : Int) > 100)) l0_0 a0_1) else (sequiturlaw29_EuclidPoints.j0 k l1 true l0_0 a0_1)) = some r := H
  have A5 := zK A50; clear A50
  by_cases c6 : t328 = true
  ·subst c6
   have H1 : (sequiturlaw29_EuclidPoints.j0 k l1 (decide ((l1.length : Int) > 100)) l0_0 a0_1) = some r := by rw [if_pos rfl] at H; exact H
   clear H; have H := H1; clear H1
   have H' := zK H; clear H
   have hcz7_0 : w4.cell? ⟨gb327, 0, none⟩ = some (.slice A0_0 l0_0.length c0_0) := (blk_cell BK327.out 0).trans rfl
   have hcz7_1 : w4.cell? ⟨gb327, 1, none⟩ = some (.int .i64 a0_1) := (blk_cell BK327.out 1).trans rfl
   have hfz7_0 := blk_frozen BK327.out 0
   have hfz7_1 := blk_frozen BK327.out 1
   go_wp2_with (first | ((with_reducible refine zC (f := 9) rfl ?_); refine goesL_ (some 17) rfl rfl Try.func9 (by kernel_rfl) rfl #[.slice A0_0 l0_0.length c0_0] rfl (by (try simp only [List.map_toArray, List.map_cons, List.map_nil]); first | done | rfl | (simp only [List.length_drop, List.length_take]; rfl)) ?_; (with_reducible refine (sequiturlaw29_few.calls k _ _ l0_0 true _ ?side1 ?side2 A5.out).mono ?_); (case side1 => repeat (first | exact (Kd.C_below HR0_0.out HB.out) | (with_reducible refine cA ?_ _) | (with_reducible refine cN ?_ _) | (with_reducible refine cD ?_))); (case side2 => exact HC0_0.out); rintro e w8 ⟨rfl, hb⟩; refine ⟨_, rfl, ?_⟩; replace BK327 := zK (blk_below (g := gb327) (o := .cells #[.slice A0_0 l0_0.length c0_0, .int .i64 a0_1] 32 (0, 0)) (zb BK327) hb); replace HB := zK (below_step (zo HB) hb); (try clear hb); (try clear hb2); (try clear hk); (try clear hi)))
   go_meet
   case rel => exact ⟨_, (decide ((l1.length : Int) > 100)), (by first | rfl | (simp; done) | (simp [*]; done)), H', ⟨by first | omega | exact Nat.le_refl _⟩, ⟨zb BK327⟩, ⟨zo HB⟩⟩
  ·replace c6 := Bool.eq_false_iff.mpr c6
   subst c6
   have H1 : (sequiturlaw29_EuclidPoints.j0 k l1 true l0_0 a0_1) = some r := by rw [if_neg (show ¬ (false = true) by decide)] at H; exact H
   clear H; have H := H1; clear H1
   have H' := zK H; clear H
   have hcz9_0 : w4.cell? ⟨gb327, 0, none⟩ = some (.slice A0_0 l0_0.length c0_0) := (blk_cell BK327.out 0).trans rfl
   have hcz9_1 : w4.cell? ⟨gb327, 1, none⟩ = some (.int .i64 a0_1) := (blk_cell BK327.out 1).trans rfl
   have hfz9_0 := blk_frozen BK327.out 0
   have hfz9_1 := blk_frozen BK327.out 1
   go_wp2_with (first | ((with_reducible refine zC (f := 9) rfl ?_); refine goesL_ (some 17) rfl rfl Try.func9 (by kernel_rfl) rfl #[.slice A0_0 l0_0.length c0_0] rfl (by (try simp only [List.map_toArray, List.map_cons, List.map_nil]); first | done | rfl | (simp only [List.length_drop, List.length_take]; rfl)) ?_; (with_reducible refine (sequiturlaw29_few.calls k _ _ l0_0 false _ ?side1 ?side2 A5.out).mono ?_); (case side1 => repeat (first | exact (Kd.C_below HR0_0.out HB.out) | (with_reducible refine cA ?_ _) | (with_reducible refine cN ?_ _) | (with_reducible refine cD ?_))); (case side2 => exact HC0_0.out); rintro e w10 ⟨rfl, hb⟩; refine ⟨_, rfl, ?_⟩; replace BK327 := zK (blk_below (g := gb327) (o := .cells #[.slice A0_0 l0_0.length c0_0, .int .i64 a0_1] 32 (0, 0)) (zb BK327) hb); replace HB := zK (below_step (zo HB) hb); (try clear hb); (try clear hb2); (try clear hk); (try clear hi)))
   go_meet
   case rel => exact ⟨_, (true), (by first | rfl | (simp; done) | (simp [*]; done)), H', ⟨by first | omega | exact Nat.le_refl _⟩, ⟨zb BK327⟩, ⟨zo HB⟩⟩
 case rest =>
  clear HC3; try clear c1; try clear p2; try clear c6
  try clear c7; try clear c9; try clear hcz7_0; try clear hcz7_1
  try clear hcz9_0; try clear hcz9_1; try clear hfz7_0; try clear hfz7_1; try clear hfz9_0; try clear hfz9_1
  obtain ⟨kq, x23_2, rfl, HA, HJ2, BK327, HB⟩ := hcut
  cases kq with
  | zero => exact absurd HA.out (by simp [sequiturlaw29_EuclidPoints.j0])
  | succ kj2 =>
   have H := HA.out; clear HA
   simp only [sequiturlaw29_EuclidPoints.j0] at H
   by_cases c11 : x23_2 = true
   ·subst c11
    have H1 : ((sequiturlaw29_alive.f kj2).bind fun t329 => (some t329)) = some r := by rw [if_pos rfl] at H; exact H
    clear H; have H := H1
    clear H1; replace H := Option.bind_eq_some_iff.mp H
    obtain ⟨t329, A120, H⟩ := H; replace H : (some t329) = some r := H
    have A12 := zK A120; clear A120
    obtain rfl := Option.some.inj H
    go_wp2_with (first | ((with_reducible refine zC (f := 10) rfl ?_); refine goesL_ (some 24) rfl rfl Try.func10 (by kernel_rfl) rfl #[] rfl (by (try simp only [List.map_toArray, List.map_cons, List.map_nil]); first | done | rfl | (simp only [List.length_drop, List.length_take]; rfl)) ?_; (with_reducible refine (sequiturlaw29_alive.calls kj2  t329 _ A12.out).mono ?_); rintro e w13 ⟨rfl, hb⟩; refine ⟨_, rfl, ?_⟩; replace BK327 := zK (blk_below (g := gb327) (o := .cells #[.slice A0_0 l0_0.length c0_0, .int .i64 a0_1] 32 (0, 0)) (zb BK327) hb); replace HB := zK (below_step (zo HB) hb); (try clear hb); (try clear hb2); (try clear hk); (try clear hi)))
    go_ret
    exact ⟨by first | rfl | (simp [errW_none, errW_some] <;> rfl) | (simp [*, errW_none, errW_some] <;> rfl), zo HB⟩
   ·replace c11 := Bool.eq_false_iff.mpr c11
    subst c11
    have H1 : ((euclid_Point.f kj2 l0_0 a0_1 l1).bind fun bt330 => (if (l1.length : Int) = a0_1 then (sequiturlaw29_EuclidPoints.j1 kj2 l1 bt330.1 bt330.2 0 l0_0 a0_1) else (sequiturlaw29_EuclidPoints.j1 kj2 l1 bt330.1 bt330.2 1 l0_0 a0_1))) = some r := by rw [if_neg (show ¬ (false = true) by decide)] at H; exact H
    clear H; have H := H1
    clear H1; replace H := Option.bind_eq_some_iff.mp H
    obtain ⟨⟨t330, t333⟩, A140, H⟩ := H
    replace H : (if (l1.length : Int) = a0_1 then (sequiturlaw29_EuclidPoints.j1 kj2 l1 t330 t333 0 l0_0 a0_1) else (sequiturlaw29_EuclidPoints.j1 kj2 l1 t330 t333 1 l0_0 a0_1)) = some r := H
    have A14 := zK A140; clear A140
    have HC15 := zK H; clear H
    have hcz16_0 : wc.cell? ⟨gb327, 0, none⟩ = some (.slice A0_0 l0_0.length c0_0) := (blk_cell BK327.out 0).trans rfl
    have hcz16_1 : wc.cell? ⟨gb327, 1, none⟩ = some (.int .i64 a0_1) := (blk_cell BK327.out 1).trans rfl
    have hfz16_0 := blk_frozen BK327.out 0
    have hfz16_1 := blk_frozen BK327.out 1
    go_upto_if 35 with (first | ((with_reducible refine zC (f := 21) rfl ?_); refine goesL_ (some 28) rfl rfl Try.func21 (by kernel_rfl) rfl #[.agg #[.slice A0_0 l0_0.length c0_0, .int .i64 a0_1], .slice A1 l1.length c1] rfl (by (try simp only [List.map_toArray, List.map_cons, List.map_nil]); first | done | rfl | (simp only [List.length_drop, List.length_take]; rfl)) ?_; (with_reducible refine (euclid_Point.calls kj2 _ _ l0_0 a0_1 _ _ l1 t330 t333 _ ?side1 ?side2 ?side3 ?side4 A14.out).mono ?_); (case side1 => repeat (first | exact (Kd.C_below HR0_0.out HB.out) | (with_reducible refine cA ?_ _) | (with_reducible refine cN ?_ _) | (with_reducible refine cD ?_))); (case side2 => exact HC0_0.out); (case side3 => repeat (first | exact (Kd.C_below HR1.out HB.out) | (with_reducible refine cA ?_ _) | (with_reducible refine cN ?_ _) | (with_reducible refine cD ?_))); (case side4 => exact HC1.out); rintro e w17 ⟨v331, rfl, ho0, hb⟩; refine ⟨_, rfl, ?_⟩; have HO332 := zK (Kd.R_lower ho0 (below_size (zo HB))); replace BK327 := zK (blk_below (g := gb327) (o := .cells #[.slice A0_0 l0_0.length c0_0, .int .i64 a0_1] 32 (0, 0)) (zb BK327) hb); replace HB := zK (below_step (zo HB) hb); (try clear hb); (try clear hb2); (try clear hk); (try clear hi); (try clear ho0); have hcz18_0 : w17.cell? ⟨gb327, 0, none⟩ = some (.slice A0_0 l0_0.length c0_0) := (blk_cell BK327.out 0).trans rfl; have hcz18_1 : w17.cell? ⟨gb327, 1, none⟩ = some (.int .i64 a0_1) := (blk_cell BK327.out 1).trans rfl; have hfz18_0 := blk_frozen BK327.out 0; have hfz18_1 := blk_frozen BK327.out 1))
    (try simp only [Act.put, List.setIfInBounds_toArray, List.set_cons_zero, List.set_cons_succ])
    go_cut [7] (fun v7 wc => ∃ (kq : Nat) (x7_14 : Int), v7 = .int .i64 x7_14 ∧ Aside0 (sequiturlaw29_EuclidPoints.j1 kq l1 t330 t333 x7_14 l0_0 a0_1 = some r) ∧ Aside0 (kq ≤ kj2) ∧ Aside0 (Kd.R (Kd.int .i64) 2 wc w.heap.size (fun _ => True) v331 t330) ∧ Aside0 (wc.heap[gb327]? = some (.cells #[(.slice A0_0 l0_0.length c0_0), .int .i64 a0_1] 32 (0, 0))) ∧ Aside0 (Below w.heap.size w wc))
    case first =>
     have H := HC15.out; clear HC15
     by_cases c19 : (l1.length : Int) = a0_1
     ·rw [if_pos c19] at H
      have c19b0 : ((l1.length : Int) == a0_1) = true := beq_iff_eq.mpr c19
      have c19b1 : ((l1.length : Int) != a0_1) = false := bne_eq_false_iff_eq.mpr c19
      clear c19
      (first | rw [c19b0] | (simp only [i64_w, i32_w]; rw [c19b0]) | skip)
      have H' := zK H; clear H
      go_wp2
      go_meet
      case rel => exact ⟨_, (0), (by first | rfl | (simp; done) | (simp [*]; done)), H', ⟨by have := HJ2.out; first | omega | exact Nat.le_refl _⟩, ⟨zr HO332⟩, ⟨zb BK327⟩, ⟨zo HB⟩⟩
     ·rw [if_neg c19] at H
      have c19b0 : ((l1.length : Int) == a0_1) = false := beq_eq_false_iff_ne.mpr c19
      have c19b1 : ((l1.length : Int) != a0_1) = true := bne_iff_ne.mpr c19
      (first | rw [c19b0] | (simp only [i64_w, i32_w]; rw [c19b0]) | skip)
      have H' := zK H; clear H
      go_wp2
      go_meet
      case rel => exact ⟨_, (1), (by first | rfl | (simp; done) | (simp [*]; done)), H', ⟨by have := HJ2.out; first | omega | exact Nat.le_refl _⟩, ⟨zr HO332⟩, ⟨zb BK327⟩, ⟨zo HB⟩⟩
    case rest =>
     clear HC15; try clear c1; try clear c2; try clear p2
     try clear c6; try clear c7; try clear c9; try clear c10
     try clear c11; try clear c19; try clear c19b0; try clear c19b1
     try clear hcz16_0; try clear hcz16_1; try clear hcz18_0; try clear hcz18_1
     try clear hcz7_0; try clear hcz7_1; try clear hcz9_0; try clear hcz9_1
     try clear hfz16_0; try clear hfz16_1; try clear hfz18_0; try clear hfz18_1
     try clear hfz7_0; try clear hfz7_1; try clear hfz9_0; try clear hfz9_1; try clear p2
     obtain ⟨kq, x7_14, rfl, HA, HJ14, HO_5, BK327, HB⟩ := hcut
     cases kq with
     | zero => exact absurd HA.out (by simp [sequiturlaw29_EuclidPoints.j1])
     | succ kj14 =>
      have H := HA.out; clear HA
      simp only [sequiturlaw29_EuclidPoints.j1] at H
      have H' := zK H; clear H
      have hcz20_0 : wc.cell? ⟨gb327, 0, none⟩ = some (.slice A0_0 l0_0.length c0_0) := (blk_cell BK327.out 0).trans rfl
      have hcz20_1 : wc.cell? ⟨gb327, 1, none⟩ = some (.int .i64 a0_1) := (blk_cell BK327.out 1).trans rfl
      have hfz20_0 := blk_frozen BK327.out 0
      have hfz20_1 := blk_frozen BK327.out 1
      go_wp2
      go_loopg [7, 39] kj14 (fun kq v7 v39 w' => ∃ (x7_3 : Int) (x39_3 : Int), v7 = .int .i64 x7_3 ∧ v39 = .int .i64 x39_3 ∧ Aside0 (sequiturlaw29_EuclidPoints.l0 kq l1 t330 t333 x7_3 l0_0 (l0_0.length : Int) x39_3 l0_0 a0_1 = some r) ∧ Aside0 (kq ≤ kj14) ∧ Aside0 (Kd.R (Kd.int .i64) 2 w' w.heap.size (fun _ => True) v331 t330) ∧ Aside0 (w'.heap[gb327]? = some (.cells #[(.slice A0_0 l0_0.length c0_0), .int .i64 a0_1] 32 (0, 0))) ∧ Aside0 (Below w.heap.size w w'))
      case atStart => exact ⟨(x7_14), (0), (by first | rfl | (simp; done) | (simp [*]; done)), (by first | rfl | (simp; done) | (simp [*]; done)), H', ⟨Nat.le_refl _⟩, ⟨zr HO_5⟩, ⟨zb BK327⟩, ⟨zo HB⟩⟩
      case round =>
       clear H'; try clear c1; try clear c2; try clear p2
       try clear c6; try clear c7; try clear c9; try clear c10
       try clear c11; try clear c19; try clear c19b0; try clear c19b1
       try clear hcz16_0; try clear hcz16_1; try clear hcz18_0; try clear hcz18_1
       try clear hcz20_0; try clear hcz20_1; try clear hcz7_0; try clear hcz7_1
       try clear hcz9_0; try clear hcz9_1; try clear hfz16_0; try clear hfz16_1
       try clear hfz18_0; try clear hfz18_1; try clear hfz20_0; try clear hfz20_1
       try clear hfz7_0; try clear hfz7_1; try clear hfz9_0; try clear hfz9_1; try clear p2
       obtain ⟨x7_3, x39_3, rfl, rfl, HA, HK3, HO_5, BK327, HB⟩ := hrel
       cases gk with
       | zero => exact absurd HA.out (by simp [sequiturlaw29_EuclidPoints.l0])
       | succ k3 =>
        have H := HA.out; clear HA
        simp only [sequiturlaw29_EuclidPoints.l0] at H
        by_cases c21 : x39_3 < (l0_0.length : Int)
        ·rw [if_pos c21] at H
         have c21b0 : decide (x39_3 < (l0_0.length : Int)) = true := decide_eq_true c21
         clear c21
         by_cases c22 : 0 ≤ x39_3
         ·rw [if_pos c22] at H
          have c22b0 : decide (0 ≤ x39_3) = true := decide_eq_true c22; clear c22
          by_cases c23 : x39_3 < (l0_0.length : Int)
          ·rw [if_pos c23] at H
           have c23b0 : decide (x39_3 < (l0_0.length : Int)) = true := decide_eq_true c23
           clear c23
           by_cases c24 : x7_3 = 0
           ·rw [if_pos c24] at H
            have c24b0 : (x7_3 == 0) = true := beq_iff_eq.mpr c24
            have c24b1 : (x7_3 != 0) = false := bne_eq_false_iff_eq.mpr c24; clear c24
            replace H := Option.bind_eq_some_iff.mp H
            obtain ⟨t336, A250, H⟩ := H
            replace H : (if t336 = 0 then (sequiturlaw29_EuclidPoints.l0 k3 l1 t330 t333 x7_3 l0_0 (l0_0.length : Int) (wrap64 (x39_3 + 1)) l0_0 a0_1) else (sequiturlaw29_EuclidPoints.l0 k3 l1 t330 t333 1 l0_0 (l0_0.length : Int) (wrap64 (x39_3 + 1)) l0_0 a0_1)) = some r := H
            have A25 := zK A250; clear A250
            by_cases c26 : t336 = 0
            ·rw [if_pos c26] at H
             have c26b0 : (t336 == 0) = true := beq_iff_eq.mpr c26
             have c26b1 : (t336 != 0) = false := bne_eq_false_iff_eq.mpr c26; clear c26
             have H' := zK H; clear H
             have p334 : 0 ≤ (x39_3 : Int) := of_decide_eq_true (by first | (with_reducible assumption) | assumption)
             have q334 : x39_3 < (l0_0.length : Int) := of_decide_eq_true (by first | (with_reducible assumption) | assumption)
             obtain ⟨ad334, A334_1, c334_1, e334, hx334_0, hx334_1, hl334_1, hi334_1⟩ := at_T41 HR0_0.out x39_3 p334 q334
             cases e334
             replace hx334_0 := (HB.out.cell (World.block_lt_of_cell? w _ hx334_0)).trans hx334_0
             replace hx334_1 := (HB.out.cell (World.block_lt_of_cell? w _ hx334_1)).trans hx334_1
             have HR334_1 := zK hi334_1
             have HC334_1 := zK hl334_1; clear hi334_1 hl334_1
             replace p334 := eq_true p334
             replace q334 := eq_true q334
             go_wp2_with (first | ((with_reducible refine gate_dst (N := 9) rfl ?_); (try (refine zG (by rfl) ?_; dsimp only)); refine box_event ?hg (N := 9) ?hd (cs := #[.int .i64 0, .slice none 0 0]) (t := 41) ?hr ?_; (case hd => rfl); (case hg => rfl); (case hr => first | (go_simp; done) | (go_simp; rfl)); intro gb335 hg w27 hbox hb; replace HO_5 := zK (Kd.R_below (zr HO_5) hb); have BK335 := zK (hbox); have GW335 := zK ((by rw [hg]; exact (below_size (zo HB)) : w.heap.size ≤ gb335)); have GE335 := zK ((by rw [hg]; exact (below_size (zo HB)) : w.heap.size ≤ gb335)); replace HB := zK (below_step (zo HB) hb); have NB327_335 := zK ((by rw [hg]; exact Nat.ne_of_lt (blk_lt (g := gb327) (o := .cells #[.slice (some ad334) l0_0.length c0_0, .int .i64 a0_1] 32 (0, 0)) (zb BK327)) : gb327 ≠ gb335)); have NB335_327 := zK ((by rw [hg]; exact Nat.ne_of_gt (blk_lt (g := gb327) (o := .cells #[.slice (some ad334) l0_0.length c0_0, .int .i64 a0_1] 32 (0, 0)) (zb BK327)) : gb335 ≠ gb327)); replace BK327 := zK (blk_below (g := gb327) (o := .cells #[.slice (some ad334) l0_0.length c0_0, .int .i64 a0_1] 32 (0, 0)) (zb BK327) hb); clear hb hbox hg; have hnb28 := NB335_327.out; have hnc28 := NB327_335.out; have hcz29_0 : w27.cell? ⟨gb335, 0, none⟩ = some (.int .i64 0) := (blk_cell BK335.out 0).trans rfl; have hcz29_1 : w27.cell? ⟨gb335, 1, none⟩ = some (.slice none 0 0) := (blk_cell BK335.out 1).trans rfl; have hfz29_0 := blk_frozen BK335.out 0; have hfz29_1 := blk_frozen BK335.out 1) | (go_at_call 18; (with_reducible refine (lin_Right.calls k3 ((rd_T41 l0_0 x39_3).f0) _ _ ((rd_T41 l0_0 x39_3).f1) t336 _ ?side1 ?side2 A25.out).mono ?_); (case side1 => exact Kd.C_below HR334_1.out (zo HB)); (case side2 => exact HC334_1.out); rintro e w30 ⟨rfl, hb⟩; replace HO_5 := zK (Kd.R_below (by (with_reducible repeat (first | apply Kd.R_alloc | apply Kd.R_drewN | apply Kd.R_drew)); exact (Kd.R_mono (Kd.R_far (p := ⟨gb335, 1, none⟩) (Kd.R_far (p := ⟨gb335, 0, none⟩) (Kd.R_types HO_5.out BK335.out (by decide)) (fun _ hk => hk.2) (.int .i64 ((rd_T41 l0_0 x39_3).f0))) (fun _ hk => hk.2) (.slice A334_1 ((rd_T41 l0_0 x39_3).f1).length c334_1)) (fun _ h_ => h_.1))) hb); replace BK327 := zK (blk_below (g := gb327) (o := .cells #[.slice (some ad334) l0_0.length c0_0, .int .i64 a0_1] 32 (0, 0)) (zb BK327) hb); replace BK335 := zK (blk_below (g := gb335) (o := .cells #[.int .i64 ((rd_T41 l0_0 x39_3).f0), .slice A334_1 ((rd_T41 l0_0 x39_3).f1).length c334_1] 41 (0, 0)) (by refine zM ?_; refine blk_put (cs := #[.int .i64 ((rd_T41 l0_0 x39_3).f0), .slice none 0 0]) ?_ 1 _ rfl; refine zM ?_; refine blk_put (cs := #[.int .i64 0, .slice none 0 0]) ?_ 0 _ rfl; refine zM ?_; exact BK335.out) hb); replace HB := zK (below_step (zo HB) hb); (try clear hb); (try clear hb2); (try clear hk); (try clear hi)))
             go_roundg k3
             case measure => have := HJ2.out; have := HJ14.out; have := HK3.out; omega
             case rel => exact ⟨(x7_3), (wrap64 (x39_3 + 1)), (by first | rfl | (simp; done) | (simp [*]; done)), (by first | rfl | (simp; done) | (simp [*]; done)), H', ⟨by have := HJ2.out; have := HJ14.out; have := HK3.out; omega⟩, ⟨zr HO_5⟩, ⟨zb BK327⟩, ⟨zo HB⟩⟩
            ·rw [if_neg c26] at H
             have c26b0 : (t336 == 0) = false := beq_eq_false_iff_ne.mpr c26
             have c26b1 : (t336 != 0) = true := bne_iff_ne.mpr c26
             have H' := zK H; clear H
             have p334 : 0 ≤ (x39_3 : Int) := of_decide_eq_true (by first | (with_reducible assumption) | assumption)
             have q334 : x39_3 < (l0_0.length : Int) := of_decide_eq_true (by first | (with_reducible assumption) | assumption)
             obtain ⟨ad334, A334_1, c334_1, e334, hx334_0, hx334_1, hl334_1, hi334_1⟩ := at_T41 HR0_0.out x39_3 p334 q334
             cases e334
             replace hx334_0 := (HB.out.cell (World.block_lt_of_cell? w _ hx334_0)).trans hx334_0
             replace hx334_1 := (HB.out.cell (World.block_lt_of_cell? w _ hx334_1)).trans hx334_1
             have HR334_1 := zK hi334_1
             have HC334_1 := zK hl334_1; clear hi334_1 hl334_1
             replace p334 := eq_true p334
             replace q334 := eq_true q334
             go_wp2_with (first | ((with_reducible refine gate_dst (N := 9) rfl ?_); (try (refine zG (by rfl) ?_; dsimp only)); refine box_event ?hg (N := 9) ?hd (cs := #[.int .i64 0, .slice none 0 0]) (t := 41) ?hr ?_; (case hd => rfl); (case hg => rfl); (case hr => first | (go_simp; done) | (go_simp; rfl)); intro gb335 hg w31 hbox hb; replace HO_5 := zK (Kd.R_below (zr HO_5) hb); have BK335 := zK (hbox); have GW335 := zK ((by rw [hg]; exact (below_size (zo HB)) : w.heap.size ≤ gb335)); have GE335 := zK ((by rw [hg]; exact (below_size (zo HB)) : w.heap.size ≤ gb335)); replace HB := zK (below_step (zo HB) hb); have NB327_335 := zK ((by rw [hg]; exact Nat.ne_of_lt (blk_lt (g := gb327) (o := .cells #[.slice (some ad334) l0_0.length c0_0, .int .i64 a0_1] 32 (0, 0)) (zb BK327)) : gb327 ≠ gb335)); have NB335_327 := zK ((by rw [hg]; exact Nat.ne_of_gt (blk_lt (g := gb327) (o := .cells #[.slice (some ad334) l0_0.length c0_0, .int .i64 a0_1] 32 (0, 0)) (zb BK327)) : gb335 ≠ gb327)); replace BK327 := zK (blk_below (g := gb327) (o := .cells #[.slice (some ad334) l0_0.length c0_0, .int .i64 a0_1] 32 (0, 0)) (zb BK327) hb); clear hb hbox hg; have hnb32 := NB335_327.out; have hnc32 := NB327_335.out; have hcz33_0 : w31.cell? ⟨gb335, 0, none⟩ = some (.int .i64 0) := (blk_cell BK335.out 0).trans rfl; have hcz33_1 : w31.cell? ⟨gb335, 1, none⟩ = some (.slice none 0 0) := (blk_cell BK335.out 1).trans rfl; have hfz33_0 := blk_frozen BK335.out 0; have hfz33_1 := blk_frozen BK335.out 1) | (go_at_call 18; (with_reducible refine (lin_Right.calls k3 ((rd_T41 l0_0 x39_3).f0) _ _ ((rd_T41 l0_0 x39_3).f1) t336 _ ?side1 ?side2 A25.out).mono ?_); (case side1 => exact Kd.C_below HR334_1.out (zo HB)); (case side2 => exact HC334_1.out); rintro e w34 ⟨rfl, hb⟩; replace HO_5 := zK (Kd.R_below (by (with_reducible repeat (first | apply Kd.R_alloc | apply Kd.R_drewN | apply Kd.R_drew)); exact (Kd.R_mono (Kd.R_far (p := ⟨gb335, 1, none⟩) (Kd.R_far (p := ⟨gb335, 0, none⟩) (Kd.R_types HO_5.out BK335.out (by decide)) (fun _ hk => hk.2) (.int .i64 ((rd_T41 l0_0 x39_3).f0))) (fun _ hk => hk.2) (.slice A334_1 ((rd_T41 l0_0 x39_3).f1).length c334_1)) (fun _ h_ => h_.1))) hb); replace BK327 := zK (blk_below (g := gb327) (o := .cells #[.slice (some ad334) l0_0.length c0_0, .int .i64 a0_1] 32 (0, 0)) (zb BK327) hb); replace BK335 := zK (blk_below (g := gb335) (o := .cells #[.int .i64 ((rd_T41 l0_0 x39_3).f0), .slice A334_1 ((rd_T41 l0_0 x39_3).f1).length c334_1] 41 (0, 0)) (by refine zM ?_; refine blk_put (cs := #[.int .i64 ((rd_T41 l0_0 x39_3).f0), .slice none 0 0]) ?_ 1 _ rfl; refine zM ?_; refine blk_put (cs := #[.int .i64 0, .slice none 0 0]) ?_ 0 _ rfl; refine zM ?_; exact BK335.out) hb); replace HB := zK (below_step (zo HB) hb); (try clear hb); (try clear hb2); (try clear hk); (try clear hi)))
             go_roundg k3
             case measure => have := HJ2.out; have := HJ14.out; have := HK3.out; omega
             case rel => exact ⟨(1), (wrap64 (x39_3 + 1)), (by first | rfl | (simp; done) | (simp [*]; done)), (by first | rfl | (simp; done) | (simp [*]; done)), H', ⟨by have := HJ2.out; have := HJ14.out; have := HK3.out; omega⟩, ⟨zr HO_5⟩, ⟨zb BK327⟩, ⟨zo HB⟩⟩
           ·rw [if_neg c24] at H
            have c24b0 : (x7_3 == 0) = false := beq_eq_false_iff_ne.mpr c24
            have c24b1 : (x7_3 != 0) = true := bne_iff_ne.mpr c24
            have H' := zK H; clear H
            have p334 : 0 ≤ (x39_3 : Int) := of_decide_eq_true (by first | (with_reducible assumption) | assumption)
            have q334 : x39_3 < (l0_0.length : Int) := of_decide_eq_true (by first | (with_reducible assumption) | assumption)
            obtain ⟨ad334, A334_1, c334_1, e334, hx334_0, hx334_1, hl334_1, hi334_1⟩ := at_T41 HR0_0.out x39_3 p334 q334
            cases e334
            replace hx334_0 := (HB.out.cell (World.block_lt_of_cell? w _ hx334_0)).trans hx334_0
            replace hx334_1 := (HB.out.cell (World.block_lt_of_cell? w _ hx334_1)).trans hx334_1
            have HR334_1 := zK hi334_1
            have HC334_1 := zK hl334_1; clear hi334_1 hl334_1
            replace p334 := eq_true p334
            replace q334 := eq_true q334
            go_wp2_with (first | ((with_reducible refine gate_dst (N := 9) rfl ?_); (try (refine zG (by rfl) ?_; dsimp only)); refine box_event ?hg (N := 9) ?hd (cs := #[.int .i64 0, .slice none 0 0]) (t := 41) ?hr ?_; (case hd => rfl); (case hg => rfl); (case hr => first | (go_simp; done) | (go_simp; rfl)); intro gb335 hg w35 hbox hb; replace HO_5 := zK (Kd.R_below (zr HO_5) hb); have BK335 := zK (hbox); have GW335 := zK ((by rw [hg]; exact (below_size (zo HB)) : w.heap.size ≤ gb335)); have GE335 := zK ((by rw [hg]; exact (below_size (zo HB)) : w.heap.size ≤ gb335)); replace HB := zK (below_step (zo HB) hb); have NB327_335 := zK ((by rw [hg]; exact Nat.ne_of_lt (blk_lt (g := gb327) (o := .cells #[.slice (some ad334) l0_0.length c0_0, .int .i64 a0_1] 32 (0, 0)) (zb BK327)) : gb327 ≠ gb335)); have NB335_327 := zK ((by rw [hg]; exact Nat.ne_of_gt (blk_lt (g := gb327) (o := .cells #[.slice (some ad334) l0_0.length c0_0, .int .i64 a0_1] 32 (0, 0)) (zb BK327)) : gb335 ≠ gb327)); replace BK327 := zK (blk_below (g := gb327) (o := .cells #[.slice (some ad334) l0_0.length c0_0, .int .i64 a0_1] 32 (0, 0)) (zb BK327) hb); clear hb hbox hg; have hnb36 := NB335_327.out; have hnc36 := NB327_335.out; have hcz37_0 : w35.cell? ⟨gb335, 0, none⟩ = some (.int .i64 0) := (blk_cell BK335.out 0).trans rfl; have hcz37_1 : w35.cell? ⟨gb335, 1, none⟩ = some (.slice none 0 0) := (blk_cell BK335.out 1).trans rfl; have hfz37_0 := blk_frozen BK335.out 0; have hfz37_1 := blk_frozen BK335.out 1))
            go_roundg k3
            case measure => have := HJ2.out; have := HJ14.out; have := HK3.out; omega
            case rel => exact ⟨(x7_3), (wrap64 (x39_3 + 1)), (by first | rfl | (simp; done) | (simp [*]; done)), (by first | rfl | (simp; done) | (simp [*]; done)), H', ⟨by have := HJ2.out; have := HJ14.out; have := HK3.out; omega⟩, ⟨by (with_reducible repeat (first | apply Kd.R_alloc | apply Kd.R_drewN | apply Kd.R_drew)); exact Kd.R_mono (Kd.R_far (p := ⟨gb335, 1, none⟩) (Kd.R_far (p := ⟨gb335, 0, none⟩) (Kd.R_types HO_5.out BK335.out (by decide)) (fun _ hk => hk.2) (.int .i64 ((rd_T41 l0_0 x39_3).f0))) (fun _ hk => hk.2) (.slice A334_1 ((rd_T41 l0_0 x39_3).f1).length c334_1)) (fun _ hk => trivial)⟩, ⟨zb BK327⟩, ⟨zo HB⟩⟩
          ·rw [if_neg c23] at H
           exact absurd H (by simp)
         ·rw [if_neg c22] at H
          exact absurd H (by simp)
        ·rw [if_neg c21] at H
         have c21b0 : decide (x39_3 < (l0_0.length : Int)) = false := decide_eq_false c21
         clear c21
         have HC38 := zK H; clear H
         have hcz39_0 : wr.cell? ⟨gb327, 0, none⟩ = some (.slice A0_0 l0_0.length c0_0) := (blk_cell BK327.out 0).trans rfl
         have hcz39_1 : wr.cell? ⟨gb327, 1, none⟩ = some (.int .i64 a0_1) := (blk_cell BK327.out 1).trans rfl
         have hfz39_0 := blk_frozen BK327.out 0
         have hfz39_1 := blk_frozen BK327.out 1
         go_upto_block 2 with (fail)
         go_cut [7, 10] (fun v7 v10 wc => ∃ (kq : Nat) (x7_37 : Int) (x10_37 : List Int), v7 = .int .i64 x7_37 ∧ Aside0 (sequiturlaw29_EuclidPoints.j4 kq t330 t333 x7_37 x10_37 = some r) ∧ Aside0 (kq ≤ k3) ∧ Aside0 (Kd.R (Kd.int .i64) 2 wc w.heap.size (fun k_ => some k_ ≠ (v10 : Value).ownBlock) v331 t330) ∧ Aside0 (Kd.R (Kd.int .i64) 2 wc w.heap.size (fun k_ => some k_ ≠ (v331 : Value).ownBlock) v10 x10_37) ∧ Aside0 (wc.heap[gb327]? = some (.cells #[(.slice A0_0 l0_0.length c0_0), .int .i64 a0_1] 32 (0, 0))) ∧ Aside0 (Below w.heap.size w wc))
         case first =>
          have H := HC38.out; clear HC38
          have H' := zK H; clear H
          go_wp2
          go_loopg [7, 10, 54] k3 (fun kq v7 v10 v54 w' => ∃ (x7_4 : Int) (x10_4 : List Int) (x54_4 : Int), v7 = .int .i64 x7_4 ∧ v54 = .int .i64 x54_4 ∧ Aside0 (sequiturlaw29_EuclidPoints.l1 kq l1 t330 t333 x7_4 x10_4 l0_0 (l0_0.length : Int) x54_4 = some r) ∧ Aside0 (kq ≤ k3) ∧ Aside0 (Kd.R (Kd.int .i64) 2 w' w.heap.size (fun k_ => some k_ ≠ (v10 : Value).ownBlock) v331 t330) ∧ Aside0 (Kd.R (Kd.int .i64) 2 w' w.heap.size (fun k_ => some k_ ≠ (v331 : Value).ownBlock) v10 x10_4) ∧ Aside0 (w'.heap[gb327]? = some (.cells #[(.slice A0_0 l0_0.length c0_0), .int .i64 a0_1] 32 (0, 0))) ∧ Aside0 (Below w.heap.size w w'))
          case atStart => exact ⟨(x7_3), (([] : List Int)), (0), (by first | rfl | (simp; done) | (simp [*]; done)), (by first | rfl | (simp; done) | (simp [*]; done)), H', ⟨Nat.le_refl _⟩, ⟨by (with_reducible repeat (first | apply Kd.R_alloc | apply Kd.R_drewN | apply Kd.R_drew)); exact Kd.R_mono HO_5.out (fun _ hk => (by simp [Value.ownBlock]))⟩, ⟨by first | exact Kd.R_nil _ _ _ _ _ | exact Kd.N_nil _ _ _ _ _ | exact Kd.V_nil _ _ _ _ _ | exact Kd.Q_nil _ _ _ _ _ | exact Kd.S_nil _ _ _ _ _⟩, ⟨zb BK327⟩, ⟨zo HB⟩⟩
          case round =>
           clear H'; try clear c1; try clear c2; try clear p2
           try clear c3; try clear p3; try clear q3; try clear hx3
           try clear c6; try clear p6; try clear c7; try clear c9
           try clear c10; try clear c11; try clear c19; try clear c19b0
           try clear c19b1; try clear c21; try clear c21b0; try clear c22
           try clear c22b0; try clear c23; try clear c23b0; try clear c24
           try clear c24b0; try clear c24b1; try clear c26; try clear c26b0
           try clear c26b1; try clear c28; try clear c32; try clear c33
           try clear p33; try clear q33; try clear hx33; try clear c36
           try clear hcz16_0; try clear hcz16_1; try clear hcz18_0; try clear hcz18_1
           try clear hcz20_0; try clear hcz20_1; try clear hcz29_0; try clear hcz29_1
           try clear hcz33_0; try clear hcz33_1; try clear hcz37_0; try clear hcz37_1
           try clear hcz39_0; try clear hcz39_1; try clear hcz7_0; try clear hcz7_1
           try clear hcz9_0; try clear hcz9_1; try clear hfz16_0; try clear hfz16_1
           try clear hfz18_0; try clear hfz18_1; try clear hfz20_0; try clear hfz20_1
           try clear hfz29_0; try clear hfz29_1; try clear hfz33_0; try clear hfz33_1
           try clear hfz37_0; try clear hfz37_1; try clear hfz39_0; try clear hfz39_1
           try clear hfz7_0; try clear hfz7_1; try clear hfz9_0; try clear hfz9_1
           try clear hx334_0; try clear hx334_1; try clear p2; try clear p334; try clear q334
           obtain ⟨x7_4, x10_4, x54_4, rfl, rfl, HA, HK4, HO_5, HO_10, BK327, HB⟩ := hrel
           cases gk with
           | zero => exact absurd HA.out (by simp [sequiturlaw29_EuclidPoints.l1])
           | succ k4 =>
            have H := HA.out; clear HA
            simp only [sequiturlaw29_EuclidPoints.l1] at H
            by_cases c40 : x54_4 < (l0_0.length : Int)
            ·rw [if_pos c40] at H
             have c40b0 : decide (x54_4 < (l0_0.length : Int)) = true := decide_eq_true c40
             clear c40
             (first | rw [c40b0] | (simp only [i64_w, i32_w]; rw [c40b0]) | skip)
             by_cases c41 : 0 ≤ x54_4
             ·rw [if_pos c41] at H
              have c41b0 : decide (0 ≤ x54_4) = true := decide_eq_true c41; clear c41
              by_cases c42 : x54_4 < (l0_0.length : Int)
              ·rw [if_pos c42] at H
               have c42b0 : decide (x54_4 < (l0_0.length : Int)) = true := decide_eq_true c42
               clear c42
               by_cases c43 : x7_4 = 0
               ·rw [if_pos c43] at H
                have c43b0 : (x7_4 == 0) = true := beq_iff_eq.mpr c43
                have c43b1 : (x7_4 != 0) = false := bne_eq_false_iff_eq.mpr c43; clear c43
                replace H := Option.bind_eq_some_iff.mp H
                obtain ⟨⟨t339, t340⟩, A440, H⟩ := H
                replace H : (if x10_4.length < 17592186044416 then (sequiturlaw29_EuclidPoints.l1 k4 l1 t330 t333 t340 (x10_4 ++ [t339]) l0_0 (l0_0.length : Int) (wrap64 (x54_4 + 1))) else (none)) = some r := H
                have A44 := zK A440; clear A440
                by_cases c45 : x10_4.length < 17592186044416
                ·rw [if_pos c45] at H
                 have LMc45 := zK c45; clear c45
                 obtain ⟨y341, hy341⟩ : ∃ y_ : List Int, y_ = (x10_4 ++ [t339]) := ⟨_, rfl⟩
                 replace H : (sequiturlaw29_EuclidPoints.l1 k4 l1 t330 t333 t340 y341 l0_0 (l0_0.length : Int) (wrap64 (x54_4 + 1))) = some r := by first | (rw [hy341]; with_reducible exact H) | (have H2_ := (Option.bind_some _ _).symm.trans H; rw [hy341]; with_reducible exact H2_) | (have H2_ := (Option.bind_some _ _).symm.trans H; with_reducible exact H2_) | with_reducible exact H | (rw [hy341]; exact H) | exact H
                 have Ny341 := zK hy341; clear hy341
                 have H' := zK H; clear H
                 have p337 : 0 ≤ (x54_4 : Int) := of_decide_eq_true (by first | (with_reducible assumption) | assumption)
                 have q337 : x54_4 < (l0_0.length : Int) := of_decide_eq_true (by first | (with_reducible assumption) | assumption)
                 obtain ⟨ad337, A337_1, c337_1, e337, hx337_0, hx337_1, hl337_1, hi337_1⟩ := at_T41 HR0_0.out x54_4 p337 q337
                 cases e337
                 replace hx337_0 := (HB.out.cell (World.block_lt_of_cell? w _ hx337_0)).trans hx337_0
                 replace hx337_1 := (HB.out.cell (World.block_lt_of_cell? w _ hx337_1)).trans hx337_1
                 have HR337_1 := zK hi337_1
                 have HC337_1 := zK hl337_1; clear hi337_1 hl337_1
                 replace p337 := eq_true p337
                 replace q337 := eq_true q337
                 go_wp2_with (first | ((with_reducible refine gate_dst (N := 12) rfl ?_); (try (refine zG (by rfl) ?_; dsimp only)); refine box_event ?hg (N := 12) ?hd (cs := #[.int .i64 0, .slice none 0 0]) (t := 41) ?hr ?_; (case hd => rfl); (case hg => rfl); (case hr => first | (go_simp; done) | (go_simp; rfl)); intro gb338 hg w46 hbox hb; replace HO_5 := zK (Kd.R_below (zr HO_5) hb); replace HO_10 := zK (Kd.R_below (zr HO_10) hb); have BK338 := zK (hbox); have GW338 := zK ((by rw [hg]; exact (below_size (zo HB)) : w.heap.size ≤ gb338)); have GE338 := zK ((by rw [hg]; exact (below_size (zo HB)) : w.heap.size ≤ gb338)); replace HB := zK (below_step (zo HB) hb); have NB327_338 := zK ((by rw [hg]; exact Nat.ne_of_lt (blk_lt (g := gb327) (o := .cells #[.slice (some ad337) l0_0.length c0_0, .int .i64 a0_1] 32 (0, 0)) (zb BK327)) : gb327 ≠ gb338)); have NB338_327 := zK ((by rw [hg]; exact Nat.ne_of_gt (blk_lt (g := gb327) (o := .cells #[.slice (some ad337) l0_0.length c0_0, .int .i64 a0_1] 32 (0, 0)) (zb BK327)) : gb338 ≠ gb327)); replace BK327 := zK (blk_below (g := gb327) (o := .cells #[.slice (some ad337) l0_0.length c0_0, .int .i64 a0_1] 32 (0, 0)) (zb BK327) hb); clear hb hbox hg; have hnb47 := NB338_327.out; have hnc47 := NB327_338.out; have hcz48_0 : w46.cell? ⟨gb338, 0, none⟩ = some (.int .i64 0) := (blk_cell BK338.out 0).trans rfl; have hcz48_1 : w46.cell? ⟨gb338, 1, none⟩ = some (.slice none 0 0) := (blk_cell BK338.out 1).trans rfl; have hfz48_0 := blk_frozen BK338.out 0; have hfz48_1 := blk_frozen BK338.out 1) | ((with_reducible refine zC (f := 22) rfl ?_); refine goesL_ (some 63) rfl rfl Try.func22 (by kernel_rfl) rfl #[.agg #[.int .i64 ((rd_T41 l0_0 x54_4).f0), .slice A337_1 ((rd_T41 l0_0 x54_4).f1).length c337_1], .slice A1 l1.length c1] rfl (by (try simp only [List.map_toArray, List.map_cons, List.map_nil]); first | done | rfl | (simp only [List.length_drop, List.length_take]; rfl)) ?_; (with_reducible refine (lin_Eval.calls k4 ((rd_T41 l0_0 x54_4).f0) _ _ ((rd_T41 l0_0 x54_4).f1) _ _ l1 t339 t340 _ ?side1 ?side2 ?side3 ?side4 A44.out).mono ?_); (case side1 => exact Kd.C_below HR337_1.out (zo HB)); (case side2 => exact HC337_1.out); (case side3 => exact Kd.C_below HR1.out (zo HB)); (case side4 => exact HC1.out); rintro e w49 ⟨rfl, hb⟩; refine ⟨_, rfl, ?_⟩; replace HO_5 := zK (Kd.R_below (by (with_reducible repeat (first | apply Kd.R_alloc | apply Kd.R_drewN | apply Kd.R_drew)); exact (Kd.R_mono (Kd.R_far (p := ⟨gb338, 1, none⟩) (Kd.R_far (p := ⟨gb338, 0, none⟩) (Kd.R_types HO_5.out BK338.out (by decide)) (fun _ hk => hk.2) (.int .i64 ((rd_T41 l0_0 x54_4).f0))) (fun _ hk => hk.2) (.slice A337_1 ((rd_T41 l0_0 x54_4).f1).length c337_1)) (fun _ h_ => h_.1))) hb); replace HO_10 := zK (Kd.R_below (by (with_reducible repeat (first | apply Kd.R_alloc | apply Kd.R_drewN | apply Kd.R_drew)); exact (Kd.R_mono (Kd.R_far (p := ⟨gb338, 1, none⟩) (Kd.R_far (p := ⟨gb338, 0, none⟩) (Kd.R_types HO_10.out BK338.out (by decide)) (fun _ hk => hk.2) (.int .i64 ((rd_T41 l0_0 x54_4).f0))) (fun _ hk => hk.2) (.slice A337_1 ((rd_T41 l0_0 x54_4).f1).length c337_1)) (fun _ h_ => h_.1))) hb); replace BK327 := zK (blk_below (g := gb327) (o := .cells #[.slice (some ad337) l0_0.length c0_0, .int .i64 a0_1] 32 (0, 0)) (zb BK327) hb); replace BK338 := zK (blk_below (g := gb338) (o := .cells #[.int .i64 ((rd_T41 l0_0 x54_4).f0), .slice A337_1 ((rd_T41 l0_0 x54_4).f1).length c337_1] 41 (0, 0)) (by refine zM ?_; refine blk_put (cs := #[.int .i64 ((rd_T41 l0_0 x54_4).f0), .slice none 0 0]) ?_ 1 _ rfl; refine zM ?_; refine blk_put (cs := #[.int .i64 0, .slice none 0 0]) ?_ 0 _ rfl; refine zM ?_; exact BK338.out) hb); replace HB := zK (below_step (zo HB) hb); (try clear hb); (try clear hb2); (try clear hk); (try clear hi)) | ((with_reducible refine gate_builtin (b := .append) (xs := #[.tmp 66, .tmp 68]) rfl ?_); (try (refine zG (by rfl) ?_; dsimp only)); at_builtin; refine Kd.R_append (Kd.int .i64) (w0 := w) w.heap.size rfl (.tmp 66) (.tmp 68) 23 2 (.int .i64 0) 8 rfl Try.underlying23 info2 rfl (by decide) (by omega) u10 x10_4 t339 [.int .i64 t339] (fun k_ => some k_ ≠ (v331 : Value).ownBlock) (fun _ => False) rfl rfl ?aP (fun _ hk => hk.elim) ?aF ?aO ?aB ?aS ?aL ?_; (case aP => exact rfl); (case aB => exact (zo HB)); (case aF => exact (fun k_ hk => Kd.fresh' (Kd.R_lt (zr HO_5)) k_ hk)); (case aO => exact (zr HO_10)); (case aS => exact (below_size (zo HB))); (case aL => have := LMc45.out; omega); intro v342 w50 ho hb hg hat; rw [← Ny341.out] at ho; replace HO_5 := zK (Kd.R_after (ok := (fun _ => True)) (by (with_reducible repeat (first | apply Kd.R_alloc | apply Kd.R_drewN | apply Kd.R_drew)); exact Kd.R_mono HO_5.out (fun _ hk => ⟨trivial, hk⟩)) hg hat); replace BK327 := zK (blk_grown (g := gb327) (o := .cells #[.slice (some ad337) l0_0.length c0_0, .int .i64 a0_1] 32 (0, 0)) (zb BK327) hg (Kd.R_ne HO_10.out BK327.out (by decide))); replace BK338 := zK (blk_grown (g := gb338) (o := .cells #[.int .i64 ((rd_T41 l0_0 x54_4).f0), .slice A337_1 ((rd_T41 l0_0 x54_4).f1).length c337_1] 41 (0, 0)) (zb BK338) hg (Kd.R_ne HO_10.out BK338.out (by decide))); replace HB := zK (hb); have HO343 := zK (ho); clear HO_10 ho hb hg hat))
                 go_roundg k4
                 case measure => have := HJ2.out; have := HJ14.out; have := HK3.out; have := HK4.out; omega
                 case rel => exact ⟨(t340), (y341), (wrap64 (x54_4 + 1)), (by first | rfl | (simp; done) | (simp [*]; done)), (by first | rfl | (simp; done) | (simp [*]; done)), H', ⟨by have := HJ2.out; have := HJ14.out; have := HK3.out; have := HK4.out; omega⟩, ⟨by (with_reducible repeat (first | apply Kd.R_alloc | apply Kd.R_drewN | apply Kd.R_drew)); exact Kd.R_mono HO_5.out (fun _ hk => hk.2)⟩, ⟨zr HO343⟩, ⟨zb BK327⟩, ⟨zo HB⟩⟩
                ·rw [if_neg c45] at H
                 exact absurd H (by simp)
               ·rw [if_neg c43] at H
                have c43b0 : (x7_4 == 0) = false := beq_eq_false_iff_ne.mpr c43
                have c43b1 : (x7_4 != 0) = true := bne_iff_ne.mpr c43
                have H' := zK H; clear H
                have p337 : 0 ≤ (x54_4 : Int) := of_decide_eq_true (by first | (with_reducible assumption) | assumption)
                have q337 : x54_4 < (l0_0.length : Int) := of_decide_eq_true (by first | (with_reducible assumption) | assumption)
                obtain ⟨ad337, A337_1, c337_1, e337, hx337_0, hx337_1, hl337_1, hi337_1⟩ := at_T41 HR0_0.out x54_4 p337 q337
                cases e337
                replace hx337_0 := (HB.out.cell (World.block_lt_of_cell? w _ hx337_0)).trans hx337_0
                replace hx337_1 := (HB.out.cell (World.block_lt_of_cell? w _ hx337_1)).trans hx337_1
                have HR337_1 := zK hi337_1
                have HC337_1 := zK hl337_1; clear hi337_1 hl337_1
                replace p337 := eq_true p337
                replace q337 := eq_true q337
                go_wp2_with (first | ((with_reducible refine gate_dst (N := 12) rfl ?_); (try (refine zG (by rfl) ?_; dsimp only)); refine box_event ?hg (N := 12) ?hd (cs := #[.int .i64 0, .slice none 0 0]) (t := 41) ?hr ?_; (case hd => rfl); (case hg => rfl); (case hr => first | (go_simp; done) | (go_simp; rfl)); intro gb338 hg w51 hbox hb; replace HO_5 := zK (Kd.R_below (zr HO_5) hb); replace HO_10 := zK (Kd.R_below (zr HO_10) hb); have BK338 := zK (hbox); have GW338 := zK ((by rw [hg]; exact (below_size (zo HB)) : w.heap.size ≤ gb338)); have GE338 := zK ((by rw [hg]; exact (below_size (zo HB)) : w.heap.size ≤ gb338)); replace HB := zK (below_step (zo HB) hb); have NB327_338 := zK ((by rw [hg]; exact Nat.ne_of_lt (blk_lt (g := gb327) (o := .cells #[.slice (some ad337) l0_0.length c0_0, .int .i64 a0_1] 32 (0, 0)) (zb BK327)) : gb327 ≠ gb338)); have NB338_327 := zK ((by rw [hg]; exact Nat.ne_of_gt (blk_lt (g := gb327) (o := .cells #[.slice (some ad337) l0_0.length c0_0, .int .i64 a0_1] 32 (0, 0)) (zb BK327)) : gb338 ≠ gb327)); replace BK327 := zK (blk_below (g := gb327) (o := .cells #[.slice (some ad337) l0_0.length c0_0, .int .i64 a0_1] 32 (0, 0)) (zb BK327) hb); clear hb hbox hg; have hnb52 := NB338_327.out; have hnc52 := NB327_338.out; have hcz53_0 : w51.cell? ⟨gb338, 0, none⟩ = some (.int .i64 0) := (blk_cell BK338.out 0).trans rfl; have hcz53_1 : w51.cell? ⟨gb338, 1, none⟩ = some (.slice none 0 0) := (blk_cell BK338.out 1).trans rfl; have hfz53_0 := blk_frozen BK338.out 0; have hfz53_1 := blk_frozen BK338.out 1))
                go_meet
                case rel => exact ⟨_, (x7_4), (x10_4), (by first | rfl | (simp; done) | (simp [*]; done)), H', ⟨by have := HJ2.out; have := HJ14.out; have := HK3.out; have := HK4.out; first | omega | exact Nat.le_refl _⟩, ⟨by (with_reducible repeat (first | apply Kd.R_alloc | apply Kd.R_drewN | apply Kd.R_drew)); exact Kd.R_mono (Kd.R_far (p := ⟨gb338, 1, none⟩) (Kd.R_far (p := ⟨gb338, 0, none⟩) (Kd.R_types HO_5.out BK338.out (by decide)) (fun _ hk => hk.2) (.int .i64 ((rd_T41 l0_0 x54_4).f0))) (fun _ hk => hk.2) (.slice A337_1 ((rd_T41 l0_0 x54_4).f1).length c337_1)) (fun _ hk => hk.1)⟩, ⟨by (with_reducible repeat (first | apply Kd.R_alloc | apply Kd.R_drewN | apply Kd.R_drew)); exact Kd.R_mono (Kd.R_far (p := ⟨gb338, 1, none⟩) (Kd.R_far (p := ⟨gb338, 0, none⟩) (Kd.R_types HO_10.out BK338.out (by decide)) (fun _ hk => hk.2) (.int .i64 ((rd_T41 l0_0 x54_4).f0))) (fun _ hk => hk.2) (.slice A337_1 ((rd_T41 l0_0 x54_4).f1).length c337_1)) (fun _ hk => hk.1)⟩, ⟨zb BK327⟩, ⟨zo HB⟩⟩
              ·rw [if_neg c42] at H
               exact absurd H (by simp)
             ·rw [if_neg c41] at H
              exact absurd H (by simp)
            ·rw [if_neg c40] at H
             have c40b0 : decide (x54_4 < (l0_0.length : Int)) = false := decide_eq_false c40
             clear c40
             (first | rw [c40b0] | (simp only [i64_w, i32_w]; rw [c40b0]) | skip)
             have H' := zK H; clear H
             go_wp2
             go_meet
             case rel => exact ⟨_, (x7_4), (x10_4), (by first | rfl | (simp; done) | (simp [*]; done)), H', ⟨by have := HJ2.out; have := HJ14.out; have := HK3.out; have := HK4.out; first | omega | exact Nat.le_refl _⟩, ⟨zr HO_5⟩, ⟨zr HO_10⟩, ⟨zb BK327⟩, ⟨zo HB⟩⟩
         case rest =>
          clear HC38; try clear c1; try clear c2; try clear p2
          try clear c3; try clear p3; try clear q3; try clear hx3
          try clear c4; try clear c5; try clear c6; try clear p6
          try clear c7; try clear c9; try clear c10; try clear c11
          try clear c19; try clear c19b0; try clear c19b1; try clear c21
          try clear c21b0; try clear c22; try clear c22b0; try clear c23
          try clear c23b0; try clear c24; try clear c24b0; try clear c24b1
          try clear c26; try clear c26b0; try clear c26b1; try clear c28
          try clear c32; try clear c33; try clear p33; try clear q33
          try clear hx33; try clear c36; try clear c40; try clear c40b0
          try clear c41; try clear c41b0; try clear c42; try clear c42b0
          try clear c43; try clear c43b0; try clear c43b1; try clear c45
          try clear c47; try clear c52; try clear hcz16_0; try clear hcz16_1
          try clear hcz18_0; try clear hcz18_1; try clear hcz20_0; try clear hcz20_1
          try clear hcz29_0; try clear hcz29_1; try clear hcz33_0; try clear hcz33_1
          try clear hcz37_0; try clear hcz37_1; try clear hcz39_0; try clear hcz39_1
          try clear hcz48_0; try clear hcz48_1; try clear hcz53_0; try clear hcz53_1
          try clear hcz7_0; try clear hcz7_1; try clear hcz9_0; try clear hcz9_1
          try clear hfz16_0; try clear hfz16_1; try clear hfz18_0; try clear hfz18_1
          try clear hfz20_0; try clear hfz20_1; try clear hfz29_0; try clear hfz29_1
          try clear hfz33_0; try clear hfz33_1; try clear hfz37_0; try clear hfz37_1
          try clear hfz39_0; try clear hfz39_1; try clear hfz48_0; try clear hfz48_1
          try clear hfz53_0; try clear hfz53_1; try clear hfz7_0; try clear hfz7_1
          try clear hfz9_0; try clear hfz9_1; try clear hx334_0; try clear hx334_1
          try clear hx337_0; try clear hx337_1; try clear p2; try clear p3
          try clear p33; try clear p334; try clear p337; try clear p6
          try clear q3; try clear q33; try clear q334; try clear q337
          obtain ⟨kq, x7_37, x10_37, rfl, HA, HJ37, HO_5, HO_10, BK327, HB⟩ := hcut
          cases kq with
          | zero => exact absurd HA.out (by simp [sequiturlaw29_EuclidPoints.j4])
          | succ kj37 =>
           have H := HA.out; clear HA
           simp only [sequiturlaw29_EuclidPoints.j4] at H
           by_cases c54 : x7_37 = 0
           ·rw [if_pos c54] at H
            have c54b0 : (x7_37 == 0) = true := beq_iff_eq.mpr c54
            have c54b1 : (x7_37 != 0) = false := bne_eq_false_iff_eq.mpr c54; clear c54
            replace H := Option.bind_eq_some_iff.mp H
            obtain ⟨t344, A550, H⟩ := H
            replace H : (if t344 = true then (if t333 = x7_37 then ((sequiturlaw29_alive.f kj37).bind fun t345 => (some t345)) else (none)) else (none)) = some r := H
            have A55 := zK A550; clear A550
            by_cases c56 : t344 = true
            ·subst c56
             have H1 : (if t333 = x7_37 then ((sequiturlaw29_alive.f kj37).bind fun t345 => (some t345)) else (none)) = some r := by rw [if_pos rfl] at H; exact H
             clear H; have H := H1; clear H1
             by_cases c57 : t333 = x7_37
             ·rw [if_pos c57] at H
              have c57b0 : (t333 == x7_37) = true := beq_iff_eq.mpr c57
              have c57b1 : (t333 != x7_37) = false := bne_eq_false_iff_eq.mpr c57
              clear c57; replace H := Option.bind_eq_some_iff.mp H
              obtain ⟨t345, A580, H⟩ := H; replace H : (some t345) = some r := H
              have A58 := zK A580; clear A580
              obtain rfl := Option.some.inj H
              obtain ⟨Ao59, co59, eo59⟩ := Kd.R_slice HO_5.out
              subst eo59
              obtain ⟨Ao60, co60, eo60⟩ := Kd.R_slice HO_10.out
              subst eo60
              go_wp2_with (first | ((with_reducible refine zC (f := 23) rfl ?_); refine goesL_ (some 76) rfl rfl Try.func23 (by kernel_rfl) rfl #[.slice Ao59 t330.length co59, .slice Ao60 x10_37.length co60] rfl (by (try simp only [List.map_toArray, List.map_cons, List.map_nil]); first | done | rfl | (simp only [List.length_drop, List.length_take]; rfl)) ?_; (with_reducible refine (sequiturbase_Int64s.calls kj37 _ _ t330 _ _ x10_37 true _ ?side1 ?side2 ?side3 ?side4 A55.out).mono ?_); (case side1 => repeat (first | exact (Kd.R_reads' HO_5.out).2.2 | (with_reducible refine cA ?_ _) | (with_reducible refine cN ?_ _) | (with_reducible refine cD ?_))); (case side2 => exact (Kd.R_reads' HO_5.out).2.1); (case side3 => repeat (first | exact (Kd.R_reads' HO_10.out).2.2 | (with_reducible refine cA ?_ _) | (with_reducible refine cN ?_ _) | (with_reducible refine cD ?_))); (case side4 => exact (Kd.R_reads' HO_10.out).2.1); rintro e w' ⟨rfl, ⟨nd, rfl⟩⟩; refine ⟨_, rfl, ?_⟩) | (go_at_call 10; (with_reducible refine (sequiturlaw29_alive.calls kj37  t345 _ A58.out).mono ?_); rintro e w61 ⟨rfl, hb⟩; replace HO_5 := zK (Kd.R_below (zr HO_5) hb); replace HO_10 := zK (Kd.R_below (zr HO_10) hb); replace BK327 := zK (blk_below (g := gb327) (o := .cells #[.slice A0_0 l0_0.length c0_0, .int .i64 a0_1] 32 (0, 0)) (zb BK327) hb); replace HB := zK (below_step (zo HB) hb); (try clear hb); (try clear hb2); (try clear hk); (try clear hi)))
              go_ret
              exact ⟨by first | rfl | (simp [errW_none, errW_some] <;> rfl) | (simp [*, errW_none, errW_some] <;> rfl), zo HB⟩
             ·rw [if_neg c57] at H
              exact absurd H (by simp)
            ·replace c56 := Bool.eq_false_iff.mpr c56
             subst c56
             have H1 : (none) = some r := by rw [if_neg (show ¬ (false = true) by decide)] at H; exact H
             clear H; have H := H1; clear H1
             exact absurd H (by simp)
           ·rw [if_neg c54] at H
            have c54b0 : (x7_37 == 0) = false := beq_eq_false_iff_ne.mpr c54
            have c54b1 : (x7_37 != 0) = true := bne_iff_ne.mpr c54; replace H := Option.bind_eq_some_iff.mp H
            obtain ⟨t346, A620, H⟩ := H
            replace H : (if t346 = true then (if t333 = x7_37 then ((sequiturlaw29_alive.f kj37).bind fun t347 => (some t347)) else (none)) else (none)) = some r := H
            have A62 := zK A620; clear A620
            by_cases c63 : t346 = true
            ·subst c63
             have H1 : (if t333 = x7_37 then ((sequiturlaw29_alive.f kj37).bind fun t347 => (some t347)) else (none)) = some r := by rw [if_pos rfl] at H; exact H
             clear H; have H := H1; clear H1
             by_cases c64 : t333 = x7_37
             ·rw [if_pos c64] at H
              have c64b0 : (t333 == x7_37) = true := beq_iff_eq.mpr c64
              have c64b1 : (t333 != x7_37) = false := bne_eq_false_iff_eq.mpr c64
              clear c64; replace H := Option.bind_eq_some_iff.mp H
              obtain ⟨t347, A650, H⟩ := H; replace H : (some t347) = some r := H
              have A65 := zK A650; clear A650
              obtain rfl := Option.some.inj H
              obtain ⟨Ao66, co66, eo66⟩ := Kd.R_slice HO_5.out
              subst eo66
              go_wp2_with (first | ((with_reducible refine zC (f := 23) rfl ?_); refine goesL_ (some 76) rfl rfl Try.func23 (by kernel_rfl) rfl #[.slice Ao66 t330.length co66, .slice none 0 0] rfl (by (try simp only [List.map_toArray, List.map_cons, List.map_nil]); first | done | rfl | (simp only [List.length_drop, List.length_take]; rfl)) ?_; (refine (sequiturbase_Int64s.calls kj37 _ _ t330 _ _ ([] : List Int) true _ ?side1 ?side2 ?side3 ?side4 A62.out).mono ?_); (case side1 => repeat (first | exact (Kd.R_reads' HO_5.out).2.2 | (with_reducible refine cA ?_ _) | (with_reducible refine cN ?_ _) | (with_reducible refine cD ?_))); (case side2 => exact (Kd.R_reads' HO_5.out).2.1); (case side3 => exact Kd.C_nil _ _); (case side4 => exact Nat.le_refl _); rintro e w' ⟨rfl, ⟨nd, rfl⟩⟩; refine ⟨_, rfl, ?_⟩) | (go_at_call 10; (with_reducible refine (sequiturlaw29_alive.calls kj37  t347 _ A65.out).mono ?_); rintro e w67 ⟨rfl, hb⟩; replace HO_5 := zK (Kd.R_below (zr HO_5) hb); replace HO_10 := zK (Kd.R_below (zr HO_10) hb); replace BK327 := zK (blk_below (g := gb327) (o := .cells #[.slice A0_0 l0_0.length c0_0, .int .i64 a0_1] 32 (0, 0)) (zb BK327) hb); replace HB := zK (below_step (zo HB) hb); (try clear hb); (try clear hb2); (try clear hk); (try clear hi)))
              go_ret
              exact ⟨by first | rfl | (simp [errW_none, errW_some] <;> rfl) | (simp [*, errW_none, errW_some] <;> rfl), zo HB⟩
             ·rw [if_neg c64] at H
              exact absurd H (by simp)
            ·replace c63 := Bool.eq_false_iff.mpr c63
             subst c63
             have H1 : (none) = some r := by rw [if_neg (show ¬ (false = true) by decide)] at H; exact H
             clear H; have H := H1; clear H1
             exact absurd H (by simp)

end Go.Proofs.Ytjinmlpekecmbaa.PEuclidPoints
