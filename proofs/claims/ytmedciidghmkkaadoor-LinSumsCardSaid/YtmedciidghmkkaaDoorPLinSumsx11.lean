/- What the call of each function that the law reaches comes to: it answers as the plain function of the same name does, wherever that one answers; and the law itself out of its plain form. Written by a program of this session (an extended copy of the printer); no condition but what stands in each theorem. -/
import Derived.Test.YtmedciidghmkkaaDoorPLinSumsx0
import Derived.Test.YtmedciidghmkkaaDoorPLinSumsx3
import Derived.Test.YtmedciidghmkkaaDoorPLinSumsx4
import Derived.Test.YtmedciidghmkkaaDoorPLinSumsx6
import Derived.Test.YtmedciidghmkkaaDoorPLinSumsx7
import Derived.Test.YtmedciidghmkkaaDoorPLinSumsx10
namespace Go.Proofs.YtmedciidghmkkaaDoor.PLinSums
open Go.RowKit Go.Proofs.YtmedciidghmkkaaDoorW.PrintWords Go.Proofs.YtmedciidghmkkaaDoorW.PrintLast Go.Proofs.YtmedciidghmkkaaDoorW.PrintMore
open Go.Proofs.YtmedciidghmkkaaDoorW.PrintWords renaming blk_drewN → zN, blk_drew → zD, blk_alloc → zA, below_alloc → yA, pw_below_drewN → yN, below_drew1 → yD, below_set → yS, gate_callee → zC, gate_guard → zG
open Go.Proofs.YtmedciidghmkkaaDoorW.PrintWords.Kd renaming C_alloc → cA, C_drewN → cN, C_drew → cD
open Go.Proofs.YtmedciidghmkkaaDoorW.PrintWords.Aside0 renaming mk → zK
attribute [local go_sem] max2_int min2_int max_two min_two max_three min_three max_four min_four   -- for this text's walks alone
set_option linter.unusedVariables false
set_option linter.unusedSimpArgs false

/-! ### sequiturlaw27_like: function 12 -/
def sequiturlaw27_like.f (k : Nat) (a0_0 : Int) (l0_1 : List (S51)) (a1 : Int) (a2_0 : Int) (l2_1 : List (S51)) (a3 : Int) : Option (Bool) := (sequiturbase_Lin.f k a0_0 l0_1 a2_0 l2_1).bind fun t313 => (if t313 = true then (some (a1 == a3)) else (some false))
theorem sequiturlaw27_like.mono : ∀ a0 a1 a2 a3 a4 a5 k, LeO (sequiturlaw27_like.f k a0 a1 a2 a3 a4 a5) (sequiturlaw27_like.f (k + 1) a0 a1 a2 a3 a4 a5) := by
 intro a0 a1 a2 a3 a4 a5 k
 unfold sequiturlaw27_like.f
 repeat' first
   | (with_reducible exact sequiturbase_Lin.mono _ _ _ _ _)
   | (with_reducible exact LeO.refl _)
   | (with_reducible exact LeO.none _)
   | (with_reducible refine LeO.ite ?_ ?_)
   | (with_reducible refine LeO.bind ?_ (fun _ => ?_))
   | exact sequiturbase_Lin.mono _ _ _ _ _
   | exact LeO.none _
   | refine LeO.ite ?_ ?_
   | refine LeO.bind ?_ (fun _ => ?_)
set_option maxHeartbeats 8000000 in
set_option maxRecDepth 100000 in
theorem sequiturlaw27_like.calls (k : Nat) (a0_0 : Int) (A0_1 : Option Addr) (c0_1 : Nat) (l0_1 : List (S51)) (a1 : Int) (a2_0 : Int) (A2_1 : Option Addr) (c2_1 : Nat) (l2_1 : List (S51)) (a3 : Int) (r : Bool) (w : World) (hr0_1 : Kd.C k51 w A0_1 l0_1.length l0_1) (hc0_1 : l0_1.length ≤ c0_1) (hr2_1 : Kd.C k51 w A2_1 l2_1.length l2_1) (hc2_1 : l2_1.length ≤ c2_1) (h : sequiturlaw27_like.f k a0_0 l0_1 a1 a2_0 l2_1 a3 = some r) :
  Calls Tryd.prog 12 #[.agg #[.int .i64 a0_0, .slice A0_1 l0_1.length c0_1], .int .i64 a1, .agg #[.int .i64 a2_0, .slice A2_1 l2_1.length c2_1], .int .i64 a3] w fun e w' => e = .returned (.bool r) ∧ Below w.heap.size w w' := by
 have hu28 := Tryd.underlying28
 have HR0_1 := zK hr0_1
 have HC0_1 := zK hc0_1
 clear hr0_1 hc0_1
 have HR2_1 := zK hr2_1
 have HC2_1 := zK hc2_1
 clear hr2_1 hc2_1
 have HB := zK (Below.refl w.heap.size w)
 have H : ((sequiturbase_Lin.f k a0_0 l0_1 a2_0 l2_1).bind fun t313 => (if t313 = true then (some (a1 == a3)) else (some false))) = some r := h
 clear h
 replace H := Option.bind_eq_some_iff.mp H
 obtain ⟨t313, A50, H⟩ := H
 replace H : (if t313 = true then (some (a1 == a3)) else (some false)) = some r := H
 have A5 := zK A50
 clear A50
 by_cases c6 : t313 = true
 ·subst c6
  have H1 : (some (a1 == a3)) = some r := by rw [if_pos rfl] at H; exact H
  clear H
  have H := H1
  clear H1
  obtain rfl := Option.some.inj H
  go_enter Tryd.func12, Tryd.ntmps12
  go_wp2_with (first | ((with_reducible refine gate_dst (N := 4) rfl ?_); refine box_event ?hg (N := 4) ?hd (cs := #[.int .i64 a0_0, .slice A0_1 l0_1.length c0_1]) (t := 28) ?hr ?_; (case hd => rfl); (case hg => rfl); (case hr => first | (go_simp; done) | (go_simp; rfl)); intro gb311 hg w7 hbox hb; have BK311 := zK (hbox); have GW311 := zK ((by rw [hg]; exact (below_size (zo HB)) : w.heap.size ≤ gb311)); have GE311 := zK ((by rw [hg]; exact (below_size (zo HB)) : w.heap.size ≤ gb311)); replace HB := zK (below_step (zo HB) hb); clear hb hbox hg) | ((with_reducible refine gate_dst (N := 6) rfl ?_); refine box_event ?hg (N := 6) ?hd (cs := #[.int .i64 a2_0, .slice A2_1 l2_1.length c2_1]) (t := 28) ?hr ?_; (case hd => rfl); (case hg => rfl); (case hr => first | (go_simp; done) | (go_simp; rfl)); intro gb312 hg w8 hbox hb; have BK312 := zK (hbox); have GW312 := zK ((by rw [hg]; exact (below_size (zo HB)) : w.heap.size ≤ gb312)); have GE312 := zK ((by rw [hg]; exact (below_size (zo HB)) : w.heap.size ≤ gb312)); replace HB := zK (below_step (zo HB) hb); have NB311_312 := zK ((by rw [hg]; exact Nat.ne_of_lt (blk_lt (g := gb311) (o := .cells #[.int .i64 a0_0, .slice A0_1 l0_1.length c0_1] 28 (0, 0)) (zb BK311)) : gb311 ≠ gb312)); have NB312_311 := zK ((by rw [hg]; exact Nat.ne_of_gt (blk_lt (g := gb311) (o := .cells #[.int .i64 a0_0, .slice A0_1 l0_1.length c0_1] 28 (0, 0)) (zb BK311)) : gb312 ≠ gb311)); replace BK311 := zK (blk_below (g := gb311) (o := .cells #[.int .i64 a0_0, .slice A0_1 l0_1.length c0_1] 28 (0, 0)) (zb BK311) hb); clear hb hbox hg; have hnb9 := NB311_312.out; have hnc9 := NB312_311.out; have hcz10_0 : w8.cell? ⟨gb311, 0, none⟩ = some (.int .i64 a0_0) := (blk_cell BK311.out 0).trans rfl; have hcz10_1 : w8.cell? ⟨gb311, 1, none⟩ = some (.slice A0_1 l0_1.length c0_1) := (blk_cell BK311.out 1).trans rfl; have hfz10_0 := blk_frozen BK311.out 0; have hfz10_1 := blk_frozen BK311.out 1; have hcz11_0 : w8.cell? ⟨gb312, 0, none⟩ = some (.int .i64 a2_0) := (blk_cell BK312.out 0).trans rfl; have hcz11_1 : w8.cell? ⟨gb312, 1, none⟩ = some (.slice A2_1 l2_1.length c2_1) := (blk_cell BK312.out 1).trans rfl; have hfz11_0 := blk_frozen BK312.out 0; have hfz11_1 := blk_frozen BK312.out 1) | ((with_reducible refine zC (f := 24) rfl ?_); refine goesL_ (some 11) rfl rfl Tryd.func24 (by kernel_rfl) rfl #[.agg #[.int .i64 a0_0, .slice A0_1 l0_1.length c0_1], .agg #[.int .i64 a2_0, .slice A2_1 l2_1.length c2_1]] rfl (by (try simp only [List.map_toArray, List.map_cons, List.map_nil]); first | done | rfl | (simp only [List.length_drop, List.length_take]; rfl)) ?_; (with_reducible refine (sequiturbase_Lin.calls k a0_0 _ _ l0_1 a2_0 _ _ l2_1 true _ ?side1 ?side2 ?side3 ?side4 A5.out).mono ?_); (case side1 => repeat (first | exact (Kd.C_below HR0_1.out HB.out) | (with_reducible refine cA ?_ _) | (with_reducible refine cN ?_ _) | (with_reducible refine cD ?_))); (case side2 => exact HC0_1.out); (case side3 => repeat (first | exact (Kd.C_below HR2_1.out HB.out) | (with_reducible refine cA ?_ _) | (with_reducible refine cN ?_ _) | (with_reducible refine cD ?_))); (case side4 => exact HC2_1.out); rintro e w12 ⟨rfl, hb⟩; refine ⟨_, rfl, ?_⟩; replace BK311 := zK (blk_below (g := gb311) (o := .cells #[.int .i64 a0_0, .slice A0_1 l0_1.length c0_1] 28 (0, 0)) (zb BK311) hb); replace BK312 := zK (blk_below (g := gb312) (o := .cells #[.int .i64 a2_0, .slice A2_1 l2_1.length c2_1] 28 (0, 0)) (zb BK312) hb); replace HB := zK (below_step (zo HB) hb); (try clear hb); (try clear hb2); (try clear hk); (try clear hi)))
  go_ret
  exact ⟨by first | rfl | (simp [errW_none, errW_some] <;> rfl) | (simp [*, errW_none, errW_some] <;> rfl), zo HB⟩
 ·replace c6 := Bool.eq_false_iff.mpr c6
  subst c6
  have H1 : (some false) = some r := by rw [if_neg (show ¬ (false = true) by decide)] at H; exact H
  clear H
  have H := H1
  clear H1
  obtain rfl := Option.some.inj H
  go_enter Tryd.func12, Tryd.ntmps12
  go_wp2_with (first | ((with_reducible refine gate_dst (N := 4) rfl ?_); refine box_event ?hg (N := 4) ?hd (cs := #[.int .i64 a0_0, .slice A0_1 l0_1.length c0_1]) (t := 28) ?hr ?_; (case hd => rfl); (case hg => rfl); (case hr => first | (go_simp; done) | (go_simp; rfl)); intro gb311 hg w13 hbox hb; have BK311 := zK (hbox); have GW311 := zK ((by rw [hg]; exact (below_size (zo HB)) : w.heap.size ≤ gb311)); have GE311 := zK ((by rw [hg]; exact (below_size (zo HB)) : w.heap.size ≤ gb311)); replace HB := zK (below_step (zo HB) hb); clear hb hbox hg) | ((with_reducible refine gate_dst (N := 6) rfl ?_); refine box_event ?hg (N := 6) ?hd (cs := #[.int .i64 a2_0, .slice A2_1 l2_1.length c2_1]) (t := 28) ?hr ?_; (case hd => rfl); (case hg => rfl); (case hr => first | (go_simp; done) | (go_simp; rfl)); intro gb312 hg w14 hbox hb; have BK312 := zK (hbox); have GW312 := zK ((by rw [hg]; exact (below_size (zo HB)) : w.heap.size ≤ gb312)); have GE312 := zK ((by rw [hg]; exact (below_size (zo HB)) : w.heap.size ≤ gb312)); replace HB := zK (below_step (zo HB) hb); have NB311_312 := zK ((by rw [hg]; exact Nat.ne_of_lt (blk_lt (g := gb311) (o := .cells #[.int .i64 a0_0, .slice A0_1 l0_1.length c0_1] 28 (0, 0)) (zb BK311)) : gb311 ≠ gb312)); have NB312_311 := zK ((by rw [hg]; exact Nat.ne_of_gt (blk_lt (g := gb311) (o := .cells #[.int .i64 a0_0, .slice A0_1 l0_1.length c0_1] 28 (0, 0)) (zb BK311)) : gb312 ≠ gb311)); replace BK311 := zK (blk_below (g := gb311) (o := .cells #[.int .i64 a0_0, .slice A0_1 l0_1.length c0_1] 28 (0, 0)) (zb BK311) hb); clear hb hbox hg; have hnb15 := NB311_312.out; have hnc15 := NB312_311.out; have hcz16_0 : w14.cell? ⟨gb311, 0, none⟩ = some (.int .i64 a0_0) := (blk_cell BK311.out 0).trans rfl; have hcz16_1 : w14.cell? ⟨gb311, 1, none⟩ = some (.slice A0_1 l0_1.length c0_1) := (blk_cell BK311.out 1).trans rfl; have hfz16_0 := blk_frozen BK311.out 0; have hfz16_1 := blk_frozen BK311.out 1; have hcz17_0 : w14.cell? ⟨gb312, 0, none⟩ = some (.int .i64 a2_0) := (blk_cell BK312.out 0).trans rfl; have hcz17_1 : w14.cell? ⟨gb312, 1, none⟩ = some (.slice A2_1 l2_1.length c2_1) := (blk_cell BK312.out 1).trans rfl; have hfz17_0 := blk_frozen BK312.out 0; have hfz17_1 := blk_frozen BK312.out 1) | ((with_reducible refine zC (f := 24) rfl ?_); refine goesL_ (some 11) rfl rfl Tryd.func24 (by kernel_rfl) rfl #[.agg #[.int .i64 a0_0, .slice A0_1 l0_1.length c0_1], .agg #[.int .i64 a2_0, .slice A2_1 l2_1.length c2_1]] rfl (by (try simp only [List.map_toArray, List.map_cons, List.map_nil]); first | done | rfl | (simp only [List.length_drop, List.length_take]; rfl)) ?_; (with_reducible refine (sequiturbase_Lin.calls k a0_0 _ _ l0_1 a2_0 _ _ l2_1 false _ ?side1 ?side2 ?side3 ?side4 A5.out).mono ?_); (case side1 => repeat (first | exact (Kd.C_below HR0_1.out HB.out) | (with_reducible refine cA ?_ _) | (with_reducible refine cN ?_ _) | (with_reducible refine cD ?_))); (case side2 => exact HC0_1.out); (case side3 => repeat (first | exact (Kd.C_below HR2_1.out HB.out) | (with_reducible refine cA ?_ _) | (with_reducible refine cN ?_ _) | (with_reducible refine cD ?_))); (case side4 => exact HC2_1.out); rintro e w18 ⟨rfl, hb⟩; refine ⟨_, rfl, ?_⟩; replace BK311 := zK (blk_below (g := gb311) (o := .cells #[.int .i64 a0_0, .slice A0_1 l0_1.length c0_1] 28 (0, 0)) (zb BK311) hb); replace BK312 := zK (blk_below (g := gb312) (o := .cells #[.int .i64 a2_0, .slice A2_1 l2_1.length c2_1] 28 (0, 0)) (zb BK312) hb); replace HB := zK (below_step (zo HB) hb); (try clear hb); (try clear hb2); (try clear hk); (try clear hi)))
  go_ret
  exact ⟨by first | rfl | (simp [errW_none, errW_some] <;> rfl) | (simp [*, errW_none, errW_some] <;> rfl), zo HB⟩

/-! ### sequiturlaw27_LinSums: function 3 -/
def sequiturlaw27_LinSums.j0 : Nat → List (S28) → List Int → Bool → Option (Bool)
 | 0, _, _, _ => none
 | k + 1, x0, x1, x17 => if x17 = true then (some true) else ((lin_Sum.f k x0 x1).bind fun bt316 => ((sequiturref27_Sum.f k x0 x1).bind fun bt322 => ((sequiturlaw27_like.f k bt316.1 bt316.2.1 bt316.2.2 bt322.1 bt322.2.1 bt322.2.2).bind fun t328 => (some t328))))
def sequiturlaw27_LinSums.f (k : Nat) (l0 : List (S28)) (l1 : List Int) : Option (Bool) := (sequiturlaw27_alive.f k).bind fun t314 => (if t314 = true then ((sequiturref27_Long.f k l0 12).bind fun t315 => (if t315 = true then (sequiturlaw27_LinSums.j0 k l0 l1 true) else (sequiturlaw27_LinSums.j0 k l0 l1 (decide ((l1.length : Int) > 12))))) else (none))
theorem sequiturlaw27_LinSums.mono_l : ∀ k, (∀ y0 y1 y2, LeO (sequiturlaw27_LinSums.j0 k y0 y1 y2) (sequiturlaw27_LinSums.j0 (k + 1) y0 y1 y2))
 | 0 => fun _ _ _ r h => by simp [sequiturlaw27_LinSums.j0] at h
 | k + 1 => by
  have ih0 := sequiturlaw27_LinSums.mono_l k
  ·intro y0 y1 y2
   unfold sequiturlaw27_LinSums.j0
   repeat' first
   | (with_reducible exact ih0 _ _ _)
   | (with_reducible exact lin_Sum.mono _ _ _)
   | (with_reducible exact sequiturlaw27_alive.mono _)
   | (with_reducible exact sequiturlaw27_like.mono _ _ _ _ _ _ _)
   | (with_reducible exact sequiturref27_Long.mono _ _ _)
   | (with_reducible exact sequiturref27_Sum.mono _ _ _)
   | (with_reducible exact LeO.refl _)
   | (with_reducible exact LeO.none _)
   | (with_reducible refine LeO.ite ?_ ?_)
   | (with_reducible refine LeO.bind ?_ (fun _ => ?_))
   | exact ih0 _ _ _
   | exact lin_Sum.mono _ _ _
   | exact sequiturlaw27_alive.mono _
   | exact sequiturlaw27_like.mono _ _ _ _ _ _ _
   | exact sequiturref27_Long.mono _ _ _
   | exact sequiturref27_Sum.mono _ _ _
   | exact LeO.none _
   | refine LeO.ite ?_ ?_
   | refine LeO.bind ?_ (fun _ => ?_)
theorem sequiturlaw27_LinSums.mono : ∀ a0 a1 k, LeO (sequiturlaw27_LinSums.f k a0 a1) (sequiturlaw27_LinSums.f (k + 1) a0 a1) := by
 intro a0 a1 k
 have ih0 := sequiturlaw27_LinSums.mono_l k
 unfold sequiturlaw27_LinSums.f
 repeat' first
   | (with_reducible exact ih0 _ _ _)
   | (with_reducible exact lin_Sum.mono _ _ _)
   | (with_reducible exact sequiturlaw27_alive.mono _)
   | (with_reducible exact sequiturlaw27_like.mono _ _ _ _ _ _ _)
   | (with_reducible exact sequiturref27_Long.mono _ _ _)
   | (with_reducible exact sequiturref27_Sum.mono _ _ _)
   | (with_reducible exact LeO.refl _)
   | (with_reducible exact LeO.none _)
   | (with_reducible refine LeO.ite ?_ ?_)
   | (with_reducible refine LeO.bind ?_ (fun _ => ?_))
   | exact ih0 _ _ _
   | exact lin_Sum.mono _ _ _
   | exact sequiturlaw27_alive.mono _
   | exact sequiturlaw27_like.mono _ _ _ _ _ _ _
   | exact sequiturref27_Long.mono _ _ _
   | exact sequiturref27_Sum.mono _ _ _
   | exact LeO.none _
   | refine LeO.ite ?_ ?_
   | refine LeO.bind ?_ (fun _ => ?_)
set_option maxHeartbeats 8000000 in
set_option maxRecDepth 100000 in
theorem sequiturlaw27_LinSums.calls (k : Nat) (A0 : Option Addr) (c0 : Nat) (l0 : List (S28)) (A1 : Option Addr) (c1 : Nat) (l1 : List Int) (r : Bool) (w : World) [ti_ : Txt.TabI w] (hr0 : Kd.C k28 w A0 l0.length l0) (hc0 : l0.length ≤ c0) (hr1 : Kd.C (Kd.int .i64) w A1 l1.length l1) (hc1 : l1.length ≤ c1) (h : sequiturlaw27_LinSums.f k l0 l1 = some r) :
  Calls Tryd.prog 3 #[.slice A0 l0.length c0, .slice A1 l1.length c1] w fun e w' => e = .returned (.bool r) ∧ Below w.heap.size w w' := by
 have hu28 := Tryd.underlying28
 have HR0 := zK hr0
 have HC0 := zK hc0
 clear hr0 hc0
 have HR1 := zK hr1
 have HC1 := zK hc1
 clear hr1 hc1
 have HB := zK (Below.refl w.heap.size w)
 have H : ((sequiturlaw27_alive.f k).bind fun t314 => (if t314 = true then ((sequiturref27_Long.f k l0 12).bind fun t315 => (if t315 = true then (sequiturlaw27_LinSums.j0 k l0 l1 true) else (sequiturlaw27_LinSums.j0 k l0 l1 (decide ((l1.length : Int) > 12))))) else (none))) = some r := h
 clear h
 replace H := Option.bind_eq_some_iff.mp H
 obtain ⟨t314, A30, H⟩ := H
 replace H : (if t314 = true then ((sequiturref27_Long.f k l0 12).bind fun t315 => (if t315 = true then (sequiturlaw27_LinSums.j0 k l0 l1 true) else (sequiturlaw27_LinSums.j0 k l0 l1 (decide ((l1.length : Int) > 12))))) else (none)) = some r := H
 have A3 := zK A30
 clear A30
 by_cases c4 : t314 = true
 ·subst c4
  have H1 : ((sequiturref27_Long.f k l0 12).bind fun t315 => (if t315 = true then (sequiturlaw27_LinSums.j0 k l0 l1 true) else (sequiturlaw27_LinSums.j0 k l0 l1 (decide ((l1.length : Int) > 12))))) = some r := by rw [if_pos rfl] at H; exact H
  clear H
  have H := H1
  clear H1
  have HC5 := zK H
  clear H
  go_enter Tryd.func3, Tryd.ntmps3
  go_upto_region 3 with (first | ((with_reducible refine zC (f := 8) rfl ?_); refine goesL_ (some 9) rfl rfl Tryd.func8 (by kernel_rfl) rfl #[] rfl (by (try simp only [List.map_toArray, List.map_cons, List.map_nil]); first | done | rfl | (simp only [List.length_drop, List.length_take]; rfl)) ?_; (with_reducible refine (sequiturlaw27_alive.calls (ti_ := ⟨Txt.Tab.below ti_.out (zo HB)⟩) k  true _ A3.out).mono ?_); rintro e w6 ⟨rfl, hb⟩; refine ⟨_, rfl, ?_⟩; replace HB := zK (below_step (zo HB) hb); (try clear hb); (try clear hb2); (try clear hk); (try clear hi)))
  (try simp only [Act.put, List.setIfInBounds_toArray, List.set_cons_zero, List.set_cons_succ])
  go_cut [17] (fun v17 wc => ∃ (kq : Nat) (x17_4 : Bool), v17 = .bool x17_4 ∧ Aside0 (sequiturlaw27_LinSums.j0 kq l0 l1 x17_4 = some r) ∧ Aside0 (kq ≤ k) ∧ Aside0 (Below w.heap.size w wc))
  case first =>
   have H := HC5.out
   clear HC5
   replace H := Option.bind_eq_some_iff.mp H
   obtain ⟨t315, A70, H⟩ := H
   replace H : (if t315 = true then (sequiturlaw27_LinSums.j0 k l0 l1 true) else (sequiturlaw27_LinSums.j0 k l0 l1 (decide ((l1.length : Int) > 12)))) = some r := H
   have A7 := zK A70
   clear A70
   by_cases c8 : t315 = true
   ·subst c8
    have H1 : (sequiturlaw27_LinSums.j0 k l0 l1 true) = some r := by rw [if_pos rfl] at H; exact H
    clear H
    have H := H1
    clear H1
    have H' := zK H
    clear H
    go_wp2_with (first | ((with_reducible refine zC (f := 9) rfl ?_); refine goesL_ (some 12) rfl rfl Tryd.func9 (by kernel_rfl) rfl #[.slice A0 l0.length c0, .int .i64 12] rfl (by (try simp only [List.map_toArray, List.map_cons, List.map_nil]); first | done | rfl | (simp only [List.length_drop, List.length_take]; rfl)) ?_; (with_reducible refine (sequiturref27_Long.calls k _ _ l0 12 true _ ?side1 ?side2 A7.out).mono ?_); (case side1 => repeat (first | exact (Kd.C_below HR0.out HB.out) | (with_reducible refine cA ?_ _) | (with_reducible refine cN ?_ _) | (with_reducible refine cD ?_))); (case side2 => exact HC0.out); rintro e w' ⟨rfl, ⟨nd, rfl⟩⟩; refine ⟨_, rfl, ?_⟩))
    go_meet
    case rel => exact ⟨_, (true), (by first | rfl | (simp; done) | (simp [*]; done)), H', ⟨by first | omega | exact Nat.le_refl _⟩, ⟨zo HB⟩⟩
   ·replace c8 := Bool.eq_false_iff.mpr c8
    subst c8
    have H1 : (sequiturlaw27_LinSums.j0 k l0 l1 (decide ((l1.length : Int) > 12))) = some r := by rw [if_neg (show ¬ (false = true) by decide)] at H; exact H
    clear H
    have H := H1
    clear H1
    have H' := zK H
    clear H
    go_wp2_with (first | ((with_reducible refine zC (f := 9) rfl ?_); refine goesL_ (some 12) rfl rfl Tryd.func9 (by kernel_rfl) rfl #[.slice A0 l0.length c0, .int .i64 12] rfl (by (try simp only [List.map_toArray, List.map_cons, List.map_nil]); first | done | rfl | (simp only [List.length_drop, List.length_take]; rfl)) ?_; (with_reducible refine (sequiturref27_Long.calls k _ _ l0 12 false _ ?side1 ?side2 A7.out).mono ?_); (case side1 => repeat (first | exact (Kd.C_below HR0.out HB.out) | (with_reducible refine cA ?_ _) | (with_reducible refine cN ?_ _) | (with_reducible refine cD ?_))); (case side2 => exact HC0.out); rintro e w' ⟨rfl, ⟨nd, rfl⟩⟩; refine ⟨_, rfl, ?_⟩))
    go_meet
    case rel => exact ⟨_, (decide ((l1.length : Int) > 12)), (by first | rfl | (simp; done) | (simp [*]; done)), H', ⟨by first | omega | exact Nat.le_refl _⟩, ⟨zo HB⟩⟩
  case rest =>
   clear HC5
   try clear c1
   try clear p2
   try clear c3
   try clear c4
   try clear c8
   obtain ⟨kq, x17_4, rfl, HA, HJ4, HB⟩ := hcut
   cases kq with
   | zero => exact absurd HA.out (by simp [sequiturlaw27_LinSums.j0])
   | succ kj4 =>
    have H := HA.out
    clear HA
    simp only [sequiturlaw27_LinSums.j0] at H
    by_cases c9 : x17_4 = true
    ·subst c9
     have H1 : (some true) = some r := by rw [if_pos rfl] at H; exact H
     clear H
     have H := H1
     clear H1
     obtain rfl := Option.some.inj H
     go_wp2
     go_ret
     exact ⟨by first | rfl | (simp [errW_none, errW_some] <;> rfl) | (simp [*, errW_none, errW_some] <;> rfl), zo HB⟩
    ·replace c9 := Bool.eq_false_iff.mpr c9
     subst c9
     have H1 : ((lin_Sum.f kj4 l0 l1).bind fun bt316 => ((sequiturref27_Sum.f kj4 l0 l1).bind fun bt322 => ((sequiturlaw27_like.f kj4 bt316.1 bt316.2.1 bt316.2.2 bt322.1 bt322.2.1 bt322.2.2).bind fun t328 => (some t328)))) = some r := by rw [if_neg (show ¬ (false = true) by decide)] at H; exact H
     clear H
     have H := H1
     clear H1
     replace H := Option.bind_eq_some_iff.mp H
     obtain ⟨⟨t316, t317, t320⟩, A100, H⟩ := H
     replace H : ((sequiturref27_Sum.f kj4 l0 l1).bind fun bt322 => ((sequiturlaw27_like.f kj4 t316 t317 t320 bt322.1 bt322.2.1 bt322.2.2).bind fun t328 => (some t328))) = some r := H
     have A10 := zK A100
     clear A100
     replace H := Option.bind_eq_some_iff.mp H
     obtain ⟨⟨t322, t323, t326⟩, A110, H⟩ := H
     replace H : ((sequiturlaw27_like.f kj4 t316 t317 t320 t322 t323 t326).bind fun t328 => (some t328)) = some r := H
     have A11 := zK A110
     clear A110
     replace H := Option.bind_eq_some_iff.mp H
     obtain ⟨t328, A120, H⟩ := H
     replace H : (some t328) = some r := H
     have A12 := zK A120
     clear A120
     obtain rfl := Option.some.inj H
     go_wp2_with (first | ((with_reducible refine zC (f := 10) rfl ?_); refine goesL_ (some 21) rfl rfl Tryd.func10 (by kernel_rfl) rfl #[.slice A0 l0.length c0, .slice A1 l1.length c1] rfl (by (try simp only [List.map_toArray, List.map_cons, List.map_nil]); first | done | rfl | (simp only [List.length_drop, List.length_take]; rfl)) ?_; (with_reducible refine (lin_Sum.calls kj4 (fun k_ => k_ < w.heap.size) _ _ l0 _ _ l1 t316 t317 t320 _ ?side1 ?side2 ?side3 A10.out).mono ?_); (case side1 => exact Kd.V_mk HC0.out (Kd.F_below (Kd.C_F k28_heap HR0.out) (zo HB))); (case side2 => repeat (first | exact (Kd.C_below HR1.out HB.out) | (with_reducible refine cA ?_ _) | (with_reducible refine cN ?_ _) | (with_reducible refine cD ?_))); (case side3 => exact HC1.out); rintro e w13 ⟨v318, rfl, ho0, hb⟩; refine ⟨_, rfl, ?_⟩; have HO319 := zK (Kd.R_lower (Kd.R_mono (ok' := fun k_ => True) ho0 (fun _ hk_ => trivial)) (below_size (zo HB))); replace HB := zK (below_step (zo HB) hb); (try clear hb); (try clear hb2); (try clear hk); (try clear hi); (try clear ho0)) | ((with_reducible refine gate_dst (N := 5) rfl ?_); (try (refine zG (by rfl) ?_; dsimp only)); refine box_event ?hg (N := 5) ?hd (cs := #[.int .i64 0, .slice none 0 0]) (t := 28) ?hr ?_; (case hd => rfl); (case hg => rfl); (case hr => first | (go_simp; done) | (go_simp; rfl)); intro gb321 hg w14 hbox hb; replace HO319 := zK (Kd.R_below (zr HO319) hb); have BK321 := zK (hbox); have GW321 := zK ((by rw [hg]; exact (below_size (zo HB)) : w.heap.size ≤ gb321)); have GE321 := zK ((by rw [hg]; exact (below_size (zo HB)) : w.heap.size ≤ gb321)); replace HB := zK (below_step (zo HB) hb); clear hb hbox hg; have hcz15_0 : w14.cell? ⟨gb321, 0, none⟩ = some (.int .i64 0) := (blk_cell BK321.out 0).trans rfl; have hcz15_1 : w14.cell? ⟨gb321, 1, none⟩ = some (.slice none 0 0) := (blk_cell BK321.out 1).trans rfl; have hfz15_0 := blk_frozen BK321.out 0; have hfz15_1 := blk_frozen BK321.out 1; obtain ⟨Ao16, co16, eo16⟩ := Kd.R_slice HO319.out; subst eo16) | ((with_reducible refine zC (f := 11) rfl ?_); refine goesL_ (some 27) rfl rfl Tryd.func11 (by kernel_rfl) rfl #[.slice A0 l0.length c0, .slice A1 l1.length c1] rfl (by (try simp only [List.map_toArray, List.map_cons, List.map_nil]); first | done | rfl | (simp only [List.length_drop, List.length_take]; rfl)) ?_; (with_reducible refine (sequiturref27_Sum.calls kj4 _ _ l0 _ _ l1 t322 t323 t326 _ ?side1 ?side2 ?side3 ?side4 A11.out).mono ?_); (case side1 => exact Kd.C_below HR0.out (zo HB)); (case side2 => exact HC0.out); (case side3 => exact Kd.C_below HR1.out (zo HB)); (case side4 => exact HC1.out); rintro e w17 ⟨v324, rfl, ho0, hb⟩; refine ⟨_, rfl, ?_⟩; have HO325 := zK (Kd.R_lower (Kd.R_new' ho0 (Kd.R_lt (by (with_reducible repeat (first | apply Kd.R_alloc | apply Kd.R_drewN | apply Kd.R_drew)); exact (Kd.R_mono (Kd.R_far (p := ⟨gb321, 1, none⟩) (Kd.R_far (p := ⟨gb321, 0, none⟩) (Kd.R_types HO319.out BK321.out (by decide)) (fun _ hk => hk.2) (.int .i64 t316)) (fun _ hk => hk.2) (.slice Ao16 t317.length co16)) (fun _ h_ => h_.1))))) (below_size (zo HB))); replace HO319 := zK (Kd.R_elder' (by (with_reducible repeat (first | apply Kd.R_alloc | apply Kd.R_drewN | apply Kd.R_drew)); exact (Kd.R_mono (Kd.R_far (p := ⟨gb321, 1, none⟩) (Kd.R_far (p := ⟨gb321, 0, none⟩) (Kd.R_types HO319.out BK321.out (by decide)) (fun _ hk => hk.2) (.int .i64 t316)) (fun _ hk => hk.2) (.slice Ao16 t317.length co16)) (fun _ h_ => h_.1))) (Kd.R_base ho0) hb); replace BK321 := zK (blk_below (g := gb321) (o := .cells #[.int .i64 t316, .slice Ao16 t317.length co16] 28 (0, 0)) (by refine zM ?_; refine blk_put (cs := #[.int .i64 t316, .slice none 0 0]) ?_ 1 _ rfl; refine zM ?_; refine blk_put (cs := #[.int .i64 0, .slice none 0 0]) ?_ 0 _ rfl; refine zM ?_; exact BK321.out) hb); replace HB := zK (below_step (zo HB) hb); (try clear hb); (try clear hb2); (try clear hk); (try clear hi); (try clear ho0)) | ((with_reducible refine gate_dst (N := 7) rfl ?_); (try (refine zG (by rfl) ?_; dsimp only)); refine box_event ?hg (N := 7) ?hd (cs := #[.int .i64 0, .slice none 0 0]) (t := 28) ?hr ?_; (case hd => rfl); (case hg => rfl); (case hr => first | (go_simp; done) | (go_simp; rfl)); intro gb327 hg w18 hbox hb; replace HO319 := zK (Kd.R_below (zr HO319) hb); replace HO325 := zK (Kd.R_below (zr HO325) hb); have BK327 := zK (hbox); have GW327 := zK ((by rw [hg]; exact (below_size (zo HB)) : w.heap.size ≤ gb327)); have GE327 := zK ((by rw [hg]; exact (below_size (zo HB)) : w.heap.size ≤ gb327)); replace HB := zK (below_step (zo HB) hb); have NB321_327 := zK ((by rw [hg]; exact Nat.ne_of_lt (blk_lt (g := gb321) (o := .cells #[.int .i64 t316, .slice Ao16 t317.length co16] 28 (0, 0)) (zb BK321)) : gb321 ≠ gb327)); have NB327_321 := zK ((by rw [hg]; exact Nat.ne_of_gt (blk_lt (g := gb321) (o := .cells #[.int .i64 t316, .slice Ao16 t317.length co16] 28 (0, 0)) (zb BK321)) : gb327 ≠ gb321)); replace BK321 := zK (blk_below (g := gb321) (o := .cells #[.int .i64 t316, .slice Ao16 t317.length co16] 28 (0, 0)) (zb BK321) hb); clear hb hbox hg; have hnb19 := NB327_321.out; have hnc19 := NB321_327.out; have hcz20_0 : w18.cell? ⟨gb327, 0, none⟩ = some (.int .i64 0) := (blk_cell BK327.out 0).trans rfl; have hcz20_1 : w18.cell? ⟨gb327, 1, none⟩ = some (.slice none 0 0) := (blk_cell BK327.out 1).trans rfl; have hfz20_0 := blk_frozen BK327.out 0; have hfz20_1 := blk_frozen BK327.out 1; obtain ⟨Ao21, co21, eo21⟩ := Kd.R_slice HO325.out; subst eo21; have hcz22_0 : w18.cell? ⟨gb321, 0, none⟩ = some (.int .i64 t316) := (blk_cell BK321.out 0).trans rfl; have hcz22_1 : w18.cell? ⟨gb321, 1, none⟩ = some (.slice Ao16 t317.length co16) := (blk_cell BK321.out 1).trans rfl; have hfz22_0 := blk_frozen BK321.out 0; have hfz22_1 := blk_frozen BK321.out 1) | ((with_reducible refine zC (f := 12) rfl ?_); refine goesL_ (some 34) rfl rfl Tryd.func12 (by kernel_rfl) rfl #[.agg #[.int .i64 t316, .slice Ao16 t317.length co16], .int .i64 t320, .agg #[.int .i64 t322, .slice Ao21 t323.length co21], .int .i64 t326] rfl (by (try simp only [List.map_toArray, List.map_cons, List.map_nil]); first | done | rfl | (simp only [List.length_drop, List.length_take]; rfl)) ?_; (with_reducible refine (sequiturlaw27_like.calls kj4 t316 _ _ t317 t320 t322 _ _ t323 t326 t328 _ ?side1 ?side2 ?side3 ?side4 A12.out).mono ?_); (case side1 => refine (Kd.R_reads' (e := 51) (base := w.heap.size) (ok := fun k_ => (True ∧ some k_ ≠ (.slice Ao21 t323.length co21 : Value).ownBlock)) (n := t317.length) (c := co16) ?_).2.2; exact (by (with_reducible repeat (first | apply Kd.R_alloc | apply Kd.R_drewN | apply Kd.R_drew)); exact (Kd.R_mono (Kd.R_far (p := ⟨gb327, 1, none⟩) (Kd.R_far (p := ⟨gb327, 0, none⟩) (Kd.R_types HO319.out BK327.out (by decide)) (fun _ hk => hk.2) (.int .i64 t322)) (fun _ hk => hk.2) (.slice Ao21 t323.length co21)) (fun _ h_ => h_.1)))); (case side2 => exact (Kd.R_reads' HO319.out).2.1); (case side3 => refine (Kd.R_reads' (e := 51) (base := w.heap.size) (ok := fun k_ => (True ∧ some k_ ≠ (.slice Ao16 t317.length co16 : Value).ownBlock)) (n := t323.length) (c := co21) ?_).2.2; exact (by (with_reducible repeat (first | apply Kd.R_alloc | apply Kd.R_drewN | apply Kd.R_drew)); exact (Kd.R_mono (Kd.R_far (p := ⟨gb327, 1, none⟩) (Kd.R_far (p := ⟨gb327, 0, none⟩) (Kd.R_types HO325.out BK327.out (by decide)) (fun _ hk => hk.2) (.int .i64 t322)) (fun _ hk => hk.2) (.slice Ao21 t323.length co21)) (fun _ h_ => h_.1)))); (case side4 => exact (Kd.R_reads' HO325.out).2.1); rintro e w23 ⟨rfl, hb⟩; refine ⟨_, rfl, ?_⟩; replace HO319 := zK (Kd.R_below (by (with_reducible repeat (first | apply Kd.R_alloc | apply Kd.R_drewN | apply Kd.R_drew)); exact (Kd.R_mono (Kd.R_far (p := ⟨gb327, 1, none⟩) (Kd.R_far (p := ⟨gb327, 0, none⟩) (Kd.R_types HO319.out BK327.out (by decide)) (fun _ hk => hk.2) (.int .i64 t322)) (fun _ hk => hk.2) (.slice Ao21 t323.length co21)) (fun _ h_ => h_.1))) hb); replace HO325 := zK (Kd.R_below (by (with_reducible repeat (first | apply Kd.R_alloc | apply Kd.R_drewN | apply Kd.R_drew)); exact (Kd.R_mono (Kd.R_far (p := ⟨gb327, 1, none⟩) (Kd.R_far (p := ⟨gb327, 0, none⟩) (Kd.R_types HO325.out BK327.out (by decide)) (fun _ hk => hk.2) (.int .i64 t322)) (fun _ hk => hk.2) (.slice Ao21 t323.length co21)) (fun _ h_ => h_.1))) hb); replace BK321 := zK (blk_below (g := gb321) (o := .cells #[.int .i64 t316, .slice Ao16 t317.length co16] 28 (0, 0)) (zb BK321) hb); replace BK327 := zK (blk_below (g := gb327) (o := .cells #[.int .i64 t322, .slice Ao21 t323.length co21] 28 (0, 0)) (by refine zM ?_; refine blk_put (cs := #[.int .i64 t322, .slice none 0 0]) ?_ 1 _ rfl; refine zM ?_; refine blk_put (cs := #[.int .i64 0, .slice none 0 0]) ?_ 0 _ rfl; refine zM ?_; exact BK327.out) hb); replace HB := zK (below_step (zo HB) hb); (try clear hb); (try clear hb2); (try clear hk); (try clear hi)))
     go_ret
     exact ⟨by first | rfl | (simp [errW_none, errW_some] <;> rfl) | (simp [*, errW_none, errW_some] <;> rfl), zo HB⟩
 ·replace c4 := Bool.eq_false_iff.mpr c4
  subst c4
  have H1 : (none) = some r := by rw [if_neg (show ¬ (false = true) by decide)] at H; exact H
  clear H
  have H := H1
  clear H1
  exact absurd H (by simp)

end Go.Proofs.YtmedciidghmkkaaDoor.PLinSums
