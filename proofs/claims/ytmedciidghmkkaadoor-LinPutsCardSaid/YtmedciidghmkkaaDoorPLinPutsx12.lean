/- What the call of each function that the law reaches comes to: it answers as the plain function of the same name does, wherever that one answers; and the law itself out of its plain form. Written by a program of this session (an extended copy of the printer); no condition but what stands in each theorem. -/
import Derived.Test.YtmedciidghmkkaaDoorPLinPutsx0
import Derived.Test.YtmedciidghmkkaaDoorPLinPutsx7
import Derived.Test.YtmedciidghmkkaaDoorPLinPutsx10
import Derived.Test.YtmedciidghmkkaaDoorPLinPutsx11
namespace Go.Proofs.YtmedciidghmkkaaDoor.PLinPuts
open Go.RowKit Go.Proofs.YtmedciidghmkkaaDoorW.PrintWords Go.Proofs.YtmedciidghmkkaaDoorW.PrintLast Go.Proofs.YtmedciidghmkkaaDoorW.PrintMore
open Go.Proofs.YtmedciidghmkkaaDoorW.PrintWords renaming blk_drewN → zN, blk_drew → zD, blk_alloc → zA, below_alloc → yA, pw_below_drewN → yN, below_drew1 → yD, below_set → yS, gate_callee → zC
open Go.Proofs.YtmedciidghmkkaaDoorW.PrintWords.Kd renaming V_alloc → vA, V_drewN → vN, V_drew → vD, N_alloc → nA, N_drewN → nN, N_drew → nD, C_alloc → cA, C_drewN → cN, C_drew → cD, V_mono → vM, V_far → vF
open Go.Proofs.YtmedciidghmkkaaDoorW.PrintWords.Aside0 renaming mk → zK
attribute [local go_sem] max2_int min2_int max_two min_two max_three min_three max_four min_four   -- for this text's walks alone
set_option linter.unusedVariables false
set_option linter.unusedSimpArgs false

/-! ### sequiturref27_Put: function 16 -/
def sequiturref27_Put.j0 : Nat → Int → Bool → Int → List (S51) → Int → List (S51) → Option (Int × (List (S51)) × Int)
 | 0, _, _, _, _, _, _ => none
 | k + 1, x1, x15, x336000, x336001, x337000, x337001 => if x15 = true then (some (0, ([] : List (S51)), 1)) else ((sequiturref27_Less.f k x336000 x336001 x1).bind fun bt340 => ((sequiturref27_By.f k x336000 x336001 x1).bind fun t347 => ((sequiturref27_Sum.f k (([(⟨bt340.1, bt340.2⟩ : S28), (⟨x337000, x337001⟩ : S28)] : List (S28))) (([1, t347] : List Int))).bind fun bt351 => (some (bt351.1, bt351.2.1, bt351.2.2)))))
def sequiturref27_Put.f (k : Nat) (a0_0 : Int) (l0_1 : List (S51)) (a1 : Int) (a2_0 : Int) (l2_1 : List (S51)) : Option (Int × (List (S51)) × Int) := (sequiturref27_Right.f k a0_0 l0_1).bind fun t338 => (if t338 = 0 then ((sequiturref27_Right.f k a2_0 l2_1).bind fun t339 => (sequiturref27_Put.j0 k a1 (t339 != 0) a0_0 l0_1 a2_0 l2_1)) else (sequiturref27_Put.j0 k a1 true a0_0 l0_1 a2_0 l2_1))
theorem sequiturref27_Put.mono_l : ∀ k, (∀ y0 y1 y2 y3 y4 y5, LeO (sequiturref27_Put.j0 k y0 y1 y2 y3 y4 y5) (sequiturref27_Put.j0 (k + 1) y0 y1 y2 y3 y4 y5))
 | 0 => fun _ _ _ _ _ _ r h => by simp [sequiturref27_Put.j0] at h
 | k + 1 => by
  have ih0 := sequiturref27_Put.mono_l k
  ·intro y0 y1 y2 y3 y4 y5
   unfold sequiturref27_Put.j0
   repeat' first
   | (with_reducible exact ih0 _ _ _ _ _ _)
   | (with_reducible exact sequiturref27_By.mono _ _ _ _)
   | (with_reducible exact sequiturref27_Less.mono _ _ _ _)
   | (with_reducible exact sequiturref27_Right.mono _ _ _)
   | (with_reducible exact sequiturref27_Sum.mono _ _ _)
   | (with_reducible exact LeO.refl _)
   | (with_reducible exact LeO.none _)
   | (with_reducible refine LeO.ite ?_ ?_)
   | (with_reducible refine LeO.bind ?_ (fun _ => ?_))
   | exact ih0 _ _ _ _ _ _
   | exact sequiturref27_By.mono _ _ _ _
   | exact sequiturref27_Less.mono _ _ _ _
   | exact sequiturref27_Right.mono _ _ _
   | exact sequiturref27_Sum.mono _ _ _
   | exact LeO.none _
   | refine LeO.ite ?_ ?_
   | refine LeO.bind ?_ (fun _ => ?_)
theorem sequiturref27_Put.mono : ∀ a0 a1 a2 a3 a4 k, LeO (sequiturref27_Put.f k a0 a1 a2 a3 a4) (sequiturref27_Put.f (k + 1) a0 a1 a2 a3 a4) := by
 intro a0 a1 a2 a3 a4 k
 have ih0 := sequiturref27_Put.mono_l k
 unfold sequiturref27_Put.f
 repeat' first
   | (with_reducible exact ih0 _ _ _ _ _ _)
   | (with_reducible exact sequiturref27_By.mono _ _ _ _)
   | (with_reducible exact sequiturref27_Less.mono _ _ _ _)
   | (with_reducible exact sequiturref27_Right.mono _ _ _)
   | (with_reducible exact sequiturref27_Sum.mono _ _ _)
   | (with_reducible exact LeO.refl _)
   | (with_reducible exact LeO.none _)
   | (with_reducible refine LeO.ite ?_ ?_)
   | (with_reducible refine LeO.bind ?_ (fun _ => ?_))
   | exact ih0 _ _ _ _ _ _
   | exact sequiturref27_By.mono _ _ _ _
   | exact sequiturref27_Less.mono _ _ _ _
   | exact sequiturref27_Right.mono _ _ _
   | exact sequiturref27_Sum.mono _ _ _
   | exact LeO.none _
   | refine LeO.ite ?_ ?_
   | refine LeO.bind ?_ (fun _ => ?_)
def sequiturref27_Put.T3 : Bool × List (List Nat × List Nat) := (true, [([], []), ([], []), ([0, 1], [0, 1]), ([], []), ([2, 3], [2, 3]), ([], []), ([], []), ([5, 6, 2], [5, 6]), ([7], [7]), ([4, 8, 7], [4, 8]), ([9], [9]), ([9], [9]), ([10, 9, 0, 1, 2, 3, 4, 5, 6, 7, 8, 9, 10, 11], [10]), ([11, 12, 0, 1, 2, 3, 4, 5, 6, 7, 8, 9, 10, 11, 12], [11])])
def sequiturref27_Put.B3 : List Nat := [0, 0, 3, 0, 15, 0, 0, 103, 231, 511, 1023, 1023, 4095, 8191]
theorem sequiturref27_Put.tab3 : rtab .any (opsOf Tryd.f16 3) = sequiturref27_Put.T3 := by kernel_rfl
theorem sequiturref27_Put.bits3 : waitsOk sequiturref27_Put.T3.2 sequiturref27_Put.B3 = true := by kernel_rfl
set_option maxHeartbeats 8000000 in
set_option maxRecDepth 100000 in
theorem sequiturref27_Put.calls (k : Nat) (a0_0 : Int) (A0_1 : Option Addr) (c0_1 : Nat) (l0_1 : List (S51)) (a1 : Int) (a2_0 : Int) (P2_1_ : Nat → Prop) (A2_1 : Option Addr) (c2_1 : Nat) (l2_1 : List (S51)) (r1 : Int) (r2 : List (S51)) (r3 : Int) (w : World) (hr0_1 : Kd.C k51 w A0_1 l0_1.length l0_1) (hc0_1 : l0_1.length ≤ c0_1) (hs2_1 : Kd.V k51 51 w w.heap.size (fun k_ => P2_1_ k_) (.slice A2_1 l2_1.length c2_1) l2_1) (h : sequiturref27_Put.f k a0_0 l0_1 a1 a2_0 l2_1 = some (r1, r2, r3)) :
  Calls Tryd.prog 16 #[.agg #[.int .i64 a0_0, .slice A0_1 l0_1.length c0_1], .int .i64 a1, .agg #[.int .i64 a2_0, .slice A2_1 l2_1.length c2_1]] w fun e w' => ∃ v1_ : Value, e = .returned (.tuple #[.agg #[.int .i64 r1, v1_], .int .i64 r3]) ∧ Kd.R k51 51 w' w.heap.size (fun k_ => (w.heap.size ≤ k_)) v1_ r2 ∧ Below w.heap.size w w' := by
 have hu28 := Tryd.underlying28
 have HR0_1 := zK hr0_1
 have HC0_1 := zK hc0_1
 clear hr0_1 hc0_1
 have HO2_1 := zK (show Kd.V k51 51 w w.heap.size (fun k_ => (P2_1_ k_ ∨ w.heap.size ≤ k_)) (.slice A2_1 l2_1.length c2_1) l2_1 from vM hs2_1 (fun k_ hk => .inl hk))
 have HB := zK (Below.refl w.heap.size w)
 have H : ((sequiturref27_Right.f k a0_0 l0_1).bind fun t338 => (if t338 = 0 then ((sequiturref27_Right.f k a2_0 l2_1).bind fun t339 => (sequiturref27_Put.j0 k a1 (t339 != 0) a0_0 l0_1 a2_0 l2_1)) else (sequiturref27_Put.j0 k a1 true a0_0 l0_1 a2_0 l2_1))) = some (r1, r2, r3) := h
 clear h
 have HC4 := zK H
 clear H
 go_enter Tryd.func16, Tryd.ntmps16
 go_upto_region 1 with (first | ((with_reducible refine gate_dst (N := 3) rfl ?_); refine box_event ?hg (N := 3) ?hd (cs := #[.int .i64 a0_0, .slice A0_1 l0_1.length c0_1]) (t := 28) ?hr ?_; (case hd => rfl); (case hg => rfl); (case hr => first | (go_simp; done) | (go_simp; rfl)); intro gb335 hg w5 hbox hb; replace HO2_1 := zK (Kd.V_below (Kd.V_elderB (zv HO2_1) gb335 (Nat.le_of_eq hg.symm)) hb); have BK335 := zK (hbox); have GW335 := zK ((by rw [hg]; exact (below_size (zo HB)) : w.heap.size ≤ gb335)); have GE335 := zK ((by rw [hg]; exact (below_size (zo HB)) : w.heap.size ≤ gb335)); replace HB := zK (below_step (zo HB) hb); clear hb hbox hg) | ((with_reducible refine gate_dst (N := 5) rfl ?_); refine box_event ?hg (N := 5) ?hd (cs := #[.int .i64 a2_0, .slice A2_1 l2_1.length c2_1]) (t := 28) ?hr ?_; (case hd => rfl); (case hg => rfl); (case hr => first | (go_simp; done) | (go_simp; rfl)); intro gb336 hg w6 hbox hb; replace HO2_1 := zK (Kd.V_below (Kd.V_elderB (zv HO2_1) gb336 (Nat.le_of_eq hg.symm)) hb); have BK336 := zK (hbox); have GW336 := zK ((by rw [hg]; exact (below_size (zo HB)) : w.heap.size ≤ gb336)); have GE336 := zK ((by rw [hg]; exact (below_size (zo HB)) : w.heap.size ≤ gb336)); replace HB := zK (below_step (zo HB) hb); have NB335_336 := zK ((by rw [hg]; exact Nat.ne_of_lt (blk_lt (g := gb335) (o := .cells #[.int .i64 a0_0, .slice A0_1 l0_1.length c0_1] 28 (0, 0)) (zb BK335)) : gb335 ≠ gb336)); have NB336_335 := zK ((by rw [hg]; exact Nat.ne_of_gt (blk_lt (g := gb335) (o := .cells #[.int .i64 a0_0, .slice A0_1 l0_1.length c0_1] 28 (0, 0)) (zb BK335)) : gb336 ≠ gb335)); replace BK335 := zK (blk_below (g := gb335) (o := .cells #[.int .i64 a0_0, .slice A0_1 l0_1.length c0_1] 28 (0, 0)) (zb BK335) hb); clear hb hbox hg) | ((with_reducible refine gate_dst (N := 6) rfl ?_); refine box_event ?hg (N := 6) ?hd (cs := #[.int .i64 0, .slice none 0 0]) (t := 28) ?hr ?_; (case hd => rfl); (case hg => rfl); (case hr => first | (go_simp; done) | (go_simp; rfl)); intro gb337 hg w7 hbox hb; replace HO2_1 := zK (Kd.V_below (Kd.V_elderB (zv HO2_1) gb337 (Nat.le_of_eq hg.symm)) hb); have BK337 := zK (hbox); have GW337 := zK ((by rw [hg]; exact (below_size (zo HB)) : w.heap.size ≤ gb337)); have GE337 := zK ((by rw [hg]; exact (below_size (zo HB)) : w.heap.size ≤ gb337)); replace HB := zK (below_step (zo HB) hb); have NB335_337 := zK ((by rw [hg]; exact Nat.ne_of_lt (blk_lt (g := gb335) (o := .cells #[.int .i64 a0_0, .slice A0_1 l0_1.length c0_1] 28 (0, 0)) (zb BK335)) : gb335 ≠ gb337)); have NB337_335 := zK ((by rw [hg]; exact Nat.ne_of_gt (blk_lt (g := gb335) (o := .cells #[.int .i64 a0_0, .slice A0_1 l0_1.length c0_1] 28 (0, 0)) (zb BK335)) : gb337 ≠ gb335)); replace BK335 := zK (blk_below (g := gb335) (o := .cells #[.int .i64 a0_0, .slice A0_1 l0_1.length c0_1] 28 (0, 0)) (zb BK335) hb); have NB336_337 := zK ((by rw [hg]; exact Nat.ne_of_lt (blk_lt (g := gb336) (o := .cells #[.int .i64 a2_0, .slice A2_1 l2_1.length c2_1] 28 (0, 0)) (zb BK336)) : gb336 ≠ gb337)); have NB337_336 := zK ((by rw [hg]; exact Nat.ne_of_gt (blk_lt (g := gb336) (o := .cells #[.int .i64 a2_0, .slice A2_1 l2_1.length c2_1] 28 (0, 0)) (zb BK336)) : gb337 ≠ gb336)); replace BK336 := zK (blk_below (g := gb336) (o := .cells #[.int .i64 a2_0, .slice A2_1 l2_1.length c2_1] 28 (0, 0)) (zb BK336) hb); clear hb hbox hg))
 (try simp only [Act.put, List.setIfInBounds_toArray, List.set_cons_zero, List.set_cons_succ])
 go_cut [15] (fun v15 wc => ∃ (kq : Nat) (x15_3 : Bool), v15 = .bool x15_3 ∧ Aside0 (sequiturref27_Put.j0 kq a1 x15_3 a0_0 l0_1 a2_0 l2_1 = some (r1, r2, r3)) ∧ Aside0 (kq ≤ k) ∧ Aside0 (Kd.V k51 51 wc w.heap.size (fun k_ => (P2_1_ k_ ∨ w.heap.size ≤ k_) ∧ k_ ≠ gb335 ∧ k_ ≠ gb336 ∧ k_ ≠ gb337) (.slice A2_1 l2_1.length c2_1) l2_1) ∧ Aside0 (wc.heap[gb335]? = some (.cells #[.int .i64 a0_0, (.slice A0_1 l0_1.length c0_1)] 28 (0, 0))) ∧ Aside0 (wc.heap[gb336]? = some (.cells #[.int .i64 a2_0, (.slice A2_1 l2_1.length c2_1)] 28 (0, 0))) ∧ Aside0 (wc.heap[gb337]? = some (.cells #[.int .i64 0, (.slice none 0 0)] 28 (0, 0))) ∧ Aside0 (Below w.heap.size w wc))
 case first =>
  have H := HC4.out
  clear HC4
  replace H := Option.bind_eq_some_iff.mp H
  obtain ⟨t338, A80, H⟩ := H
  replace H : (if t338 = 0 then ((sequiturref27_Right.f k a2_0 l2_1).bind fun t339 => (sequiturref27_Put.j0 k a1 (t339 != 0) a0_0 l0_1 a2_0 l2_1)) else (sequiturref27_Put.j0 k a1 true a0_0 l0_1 a2_0 l2_1)) = some (r1, r2, r3) := H
  have A8 := zK A80
  clear A80
  by_cases c9 : t338 = 0
  ·rw [if_pos c9] at H
   have c9b0 : (t338 == 0) = true := beq_iff_eq.mpr c9
   have c9b1 : (t338 != 0) = false := bne_eq_false_iff_eq.mpr c9
   clear c9
   (first | rw [c9b0] | (simp only [i64_w, i32_w]; rw [c9b0]) | skip)
   replace H := Option.bind_eq_some_iff.mp H
   obtain ⟨t339, A100, H⟩ := H
   replace H : (sequiturref27_Put.j0 k a1 (t339 != 0) a0_0 l0_1 a2_0 l2_1) = some (r1, r2, r3) := H
   have A10 := zK A100
   clear A100
   have H' := zK H
   clear H
   have hnb11 := NB335_336.out
   have hnc11 := NB336_335.out
   have hnb12 := NB335_337.out
   have hnc12 := NB337_335.out
   have hcz13_0 : w7.cell? ⟨gb335, 0, none⟩ = some (.int .i64 a0_0) := (blk_cell BK335.out 0).trans rfl
   have hcz13_1 : w7.cell? ⟨gb335, 1, none⟩ = some (.slice A0_1 l0_1.length c0_1) := (blk_cell BK335.out 1).trans rfl
   have hfz13_0 := blk_frozen BK335.out 0
   have hfz13_1 := blk_frozen BK335.out 1
   go_wp2_with (first | ((with_reducible refine zC (f := 22) rfl ?_); refine goesL_ (some 9) rfl rfl Tryd.func22 (by kernel_rfl) rfl #[.agg #[.int .i64 a0_0, .slice A0_1 l0_1.length c0_1]] rfl (by (try simp only [List.map_toArray, List.map_cons, List.map_nil]); first | done | rfl | (simp only [List.length_drop, List.length_take]; rfl)) ?_; (with_reducible refine (sequiturref27_Right.calls k a0_0 _ _ l0_1 t338 _ ?side1 ?side2 A8.out).mono ?_); (case side1 => repeat (first | exact (Kd.C_below HR0_1.out HB.out) | (with_reducible refine cA ?_ _) | (with_reducible refine cN ?_ _) | (with_reducible refine cD ?_))); (case side2 => exact HC0_1.out); rintro e w14 ⟨rfl, hb⟩; refine ⟨_, rfl, ?_⟩; replace HO2_1 := zK (Kd.V_below (zv HO2_1) hb); replace BK335 := zK (blk_below (g := gb335) (o := .cells #[.int .i64 a0_0, .slice A0_1 l0_1.length c0_1] 28 (0, 0)) (zb BK335) hb); replace BK336 := zK (blk_below (g := gb336) (o := .cells #[.int .i64 a2_0, .slice A2_1 l2_1.length c2_1] 28 (0, 0)) (zb BK336) hb); replace BK337 := zK (blk_below (g := gb337) (o := .cells #[.int .i64 0, .slice none 0 0] 28 (0, 0)) (zb BK337) hb); replace HB := zK (below_step (zo HB) hb); (try clear hb); (try clear hb2); (try clear hk); (try clear hi); have hnb15 := NB336_337.out; have hnc15 := NB337_336.out; have hcz16_0 : w14.cell? ⟨gb336, 0, none⟩ = some (.int .i64 a2_0) := (blk_cell BK336.out 0).trans rfl; have hcz16_1 : w14.cell? ⟨gb336, 1, none⟩ = some (.slice A2_1 l2_1.length c2_1) := (blk_cell BK336.out 1).trans rfl; have hfz16_0 := blk_frozen BK336.out 0; have hfz16_1 := blk_frozen BK336.out 1) | (go_at_call 22; (with_reducible refine (sequiturref27_Right.calls k a2_0 _ _ l2_1 t339 _ ?side1 ?side2 A10.out).mono ?_); (case side1 => repeat (first | exact (Kd.V_reads' HO2_1.out).2.2 | (with_reducible refine cA ?_ _) | (with_reducible refine cN ?_ _) | (with_reducible refine cD ?_))); (case side2 => exact (Kd.V_reads' HO2_1.out).2.1); rintro e w17 ⟨rfl, hb⟩; replace HO2_1 := zK (Kd.V_below (zv HO2_1) hb); replace BK335 := zK (blk_below (g := gb335) (o := .cells #[.int .i64 a0_0, .slice A0_1 l0_1.length c0_1] 28 (0, 0)) (zb BK335) hb); replace BK336 := zK (blk_below (g := gb336) (o := .cells #[.int .i64 a2_0, .slice A2_1 l2_1.length c2_1] 28 (0, 0)) (zb BK336) hb); replace BK337 := zK (blk_below (g := gb337) (o := .cells #[.int .i64 0, .slice none 0 0] 28 (0, 0)) (zb BK337) hb); replace HB := zK (below_step (zo HB) hb); (try clear hb); (try clear hb2); (try clear hk); (try clear hi)))
   go_meet
   case rel => exact ⟨_, ((t339 != 0)), (by first | rfl | (simp; done) | (simp [*]; done)), H', ⟨by first | omega | exact Nat.le_refl _⟩, ⟨by (with_reducible repeat (first | apply vA | apply vN | apply vD)); exact vM HO2_1.out (fun _ hk => by simp only [ne_eq] at hk ⊢; simp only [hk, not_false_eq_true, and_self, or_true, true_or])⟩, ⟨zb BK335⟩, ⟨zb BK336⟩, ⟨zb BK337⟩, ⟨zo HB⟩⟩
  ·rw [if_neg c9] at H
   have c9b0 : (t338 == 0) = false := beq_eq_false_iff_ne.mpr c9
   have c9b1 : (t338 != 0) = true := bne_iff_ne.mpr c9
   (first | rw [c9b0] | (simp only [i64_w, i32_w]; rw [c9b0]) | skip)
   have H' := zK H
   clear H
   have hnb18 := NB335_336.out
   have hnc18 := NB336_335.out
   have hnb19 := NB335_337.out
   have hnc19 := NB337_335.out
   have hcz20_0 : w7.cell? ⟨gb335, 0, none⟩ = some (.int .i64 a0_0) := (blk_cell BK335.out 0).trans rfl
   have hcz20_1 : w7.cell? ⟨gb335, 1, none⟩ = some (.slice A0_1 l0_1.length c0_1) := (blk_cell BK335.out 1).trans rfl
   have hfz20_0 := blk_frozen BK335.out 0
   have hfz20_1 := blk_frozen BK335.out 1
   go_wp2_with (first | ((with_reducible refine zC (f := 22) rfl ?_); refine goesL_ (some 9) rfl rfl Tryd.func22 (by kernel_rfl) rfl #[.agg #[.int .i64 a0_0, .slice A0_1 l0_1.length c0_1]] rfl (by (try simp only [List.map_toArray, List.map_cons, List.map_nil]); first | done | rfl | (simp only [List.length_drop, List.length_take]; rfl)) ?_; (with_reducible refine (sequiturref27_Right.calls k a0_0 _ _ l0_1 t338 _ ?side1 ?side2 A8.out).mono ?_); (case side1 => repeat (first | exact (Kd.C_below HR0_1.out HB.out) | (with_reducible refine cA ?_ _) | (with_reducible refine cN ?_ _) | (with_reducible refine cD ?_))); (case side2 => exact HC0_1.out); rintro e w21 ⟨rfl, hb⟩; refine ⟨_, rfl, ?_⟩; replace HO2_1 := zK (Kd.V_below (zv HO2_1) hb); replace BK335 := zK (blk_below (g := gb335) (o := .cells #[.int .i64 a0_0, .slice A0_1 l0_1.length c0_1] 28 (0, 0)) (zb BK335) hb); replace BK336 := zK (blk_below (g := gb336) (o := .cells #[.int .i64 a2_0, .slice A2_1 l2_1.length c2_1] 28 (0, 0)) (zb BK336) hb); replace BK337 := zK (blk_below (g := gb337) (o := .cells #[.int .i64 0, .slice none 0 0] 28 (0, 0)) (zb BK337) hb); replace HB := zK (below_step (zo HB) hb); (try clear hb); (try clear hb2); (try clear hk); (try clear hi)))
   go_meet
   case rel => exact ⟨_, (true), (by first | rfl | (simp; done) | (simp [*]; done)), H', ⟨by first | omega | exact Nat.le_refl _⟩, ⟨by (with_reducible repeat (first | apply vA | apply vN | apply vD)); exact vM HO2_1.out (fun _ hk => by simp only [ne_eq] at hk ⊢; simp only [hk, not_false_eq_true, and_self, or_true, true_or])⟩, ⟨zb BK335⟩, ⟨zb BK336⟩, ⟨zb BK337⟩, ⟨zo HB⟩⟩
 case rest =>
  clear HC4
  try clear c1
  try clear c2
  try clear p2
  try clear c9
  try clear c9b0
  try clear c9b1
  try clear c11
  try clear c12
  try clear c15
  try clear c16
  try clear c18
  try clear c19
  try clear hcz13_0
  try clear hcz13_1
  try clear hcz16_0
  try clear hcz16_1
  try clear hcz20_0
  try clear hcz20_1
  try clear hfz13_0
  try clear hfz13_1
  try clear hfz16_0
  try clear hfz16_1
  try clear hfz20_0
  try clear hfz20_1
  obtain ⟨kq, x15_3, rfl, HA, HJ3, HO_337001, BK335, BK336, BK337, HB⟩ := hcut
  cases kq with
  | zero => exact absurd HA.out (by simp [sequiturref27_Put.j0])
  | succ kj3 =>
   have H := HA.out
   clear HA
   simp only [sequiturref27_Put.j0] at H
   by_cases c22 : x15_3 = true
   ·subst c22
    have H1 : (some (0, ([] : List (S51)), 1)) = some (r1, r2, r3) := by rw [if_pos rfl] at H; exact H
    clear H
    have H := H1
    clear H1
    simp only [Option.some.injEq, Prod.mk.injEq] at H
    obtain ⟨rfl, rfl, rfl⟩ := H
    have hnb23 := NB337_335.out
    have hnc23 := NB335_337.out
    have hnb24 := NB337_336.out
    have hnc24 := NB336_337.out
    have hcz25_0 : wc.cell? ⟨gb337, 0, none⟩ = some (.int .i64 0) := (blk_cell BK337.out 0).trans rfl
    have hcz25_1 : wc.cell? ⟨gb337, 1, none⟩ = some (.slice none 0 0) := (blk_cell BK337.out 1).trans rfl
    have hfz25_0 := blk_frozen BK337.out 0
    have hfz25_1 := blk_frozen BK337.out 1
    go_wp2
    refine bodyPost_ret (results_ct rfl _ _ gb337 28 #[.int .i64 0, .slice none 0 0] (0, 0) _ rfl (by refine zM ?_; refine blk_put (cs := #[.int .i64 0, .slice none 0 0]) ?_ 1 _ rfl; refine zM ?_; refine blk_put (cs := #[.int .i64 0, .slice none 0 0]) ?_ 0 _ rfl; refine zM ?_; exact BK337.out) Tryd.underlying28 rfl (by kernel_rfl)) rfl ?_
    exact ⟨_, by first | rfl | (simp [errW_none, errW_some] <;> rfl) | (simp [*, errW_none, errW_some] <;> rfl), by first | exact Kd.R_nil _ _ _ _ _ | exact Kd.N_nil _ _ _ _ _ | exact Kd.V_nil _ _ _ _ _ | exact Kd.Q_nil _ _ _ _ _ | exact Kd.S_nil _ _ _ _ _, zo HB⟩
   ·replace c22 := Bool.eq_false_iff.mpr c22
    subst c22
    have H1 : ((sequiturref27_Less.f kj3 a0_0 l0_1 a1).bind fun bt340 => ((sequiturref27_By.f kj3 a0_0 l0_1 a1).bind fun t347 => ((sequiturref27_Sum.f kj3 (([(⟨bt340.1, bt340.2⟩ : S28), (⟨a2_0, l2_1⟩ : S28)] : List (S28))) (([1, t347] : List Int))).bind fun bt351 => (some (bt351.1, bt351.2.1, bt351.2.2))))) = some (r1, r2, r3) := by rw [if_neg (show ¬ (false = true) by decide)] at H; exact H
    clear H
    have H := H1
    clear H1
    replace H := Option.bind_eq_some_iff.mp H
    obtain ⟨⟨t340, t341⟩, A260, H⟩ := H
    replace H : ((sequiturref27_By.f kj3 a0_0 l0_1 a1).bind fun t347 => ((sequiturref27_Sum.f kj3 (([(⟨t340, t341⟩ : S28), (⟨a2_0, l2_1⟩ : S28)] : List (S28))) (([1, t347] : List Int))).bind fun bt351 => (some (bt351.1, bt351.2.1, bt351.2.2)))) = some (r1, r2, r3) := H
    have A26 := zK A260
    clear A260
    obtain ⟨y344, hy344⟩ : ∃ y_ : List (S28), y_ = (([(⟨t340, t341⟩ : S28), (⟨a2_0, l2_1⟩ : S28)] : List (S28))) := ⟨_, rfl⟩
    replace H : ((sequiturref27_By.f kj3 a0_0 l0_1 a1).bind fun t347 => ((sequiturref27_Sum.f kj3 y344 (([1, t347] : List Int))).bind fun bt351 => (some (bt351.1, bt351.2.1, bt351.2.2)))) = some (r1, r2, r3) := by first | (rw [hy344]; with_reducible exact H) | (have H2_ := (Option.bind_some _ _).symm.trans H; rw [hy344]; with_reducible exact H2_) | (have H2_ := (Option.bind_some _ _).symm.trans H; with_reducible exact H2_) | with_reducible exact H | (rw [hy344]; exact H) | exact H
    have Ny344 := zK hy344
    clear hy344
    replace H := Option.bind_eq_some_iff.mp H
    obtain ⟨t347, A270, H⟩ := H
    replace H : ((sequiturref27_Sum.f kj3 y344 (([1, t347] : List Int))).bind fun bt351 => (some (bt351.1, bt351.2.1, bt351.2.2))) = some (r1, r2, r3) := H
    have A27 := zK A270
    clear A270
    obtain ⟨y348, hy348⟩ : ∃ y_ : List Int, y_ = (([1, t347] : List Int)) := ⟨_, rfl⟩
    replace H : ((sequiturref27_Sum.f kj3 y344 y348).bind fun bt351 => (some (bt351.1, bt351.2.1, bt351.2.2))) = some (r1, r2, r3) := by first | (rw [hy348]; with_reducible exact H) | (have H2_ := (Option.bind_some _ _).symm.trans H; rw [hy348]; with_reducible exact H2_) | (have H2_ := (Option.bind_some _ _).symm.trans H; with_reducible exact H2_) | with_reducible exact H | (rw [hy348]; exact H) | exact H
    have Ny348 := zK hy348
    clear hy348
    replace H := Option.bind_eq_some_iff.mp H
    obtain ⟨⟨t351, t352, t355⟩, A280, H⟩ := H
    replace H : (some (t351, t352, t355)) = some (r1, r2, r3) := H
    have A28 := zK A280
    clear A280
    simp only [Option.some.injEq, Prod.mk.injEq] at H
    obtain ⟨rfl, rfl, rfl⟩ := H
    try go_wp2
    replace HO_337001 := zK (vD HO_337001.out)
    replace BK335 := zK (zD BK335.out)
    replace BK336 := zK (zD BK336.out)
    replace BK337 := zK (zD BK337.out)
    replace HB := zK (yD HB.out)
    refine start_ (n := 14) (S := fun w' => True) (ds := []) #[false, false, false, false, false, false, false, false, false, false, false, false, false, false] (by kernel_rfl) rfl rfl trivial (fun hHeld => ?_); refine with_tabW sequiturref27_Put.tab3 sequiturref27_Put.bits3 (fun HT_ HW_ => ?_)
    generalize wc.drew = w29 at HO_337001 BK335 BK336 BK337 HB hHeld ⊢
    refine pure_ (i := 1) (N := some 18) (v := ?_) (a' := ?_) #[false, true, false, false, false, false, false, false, false, false, false, false, false, false] rfl rfl (any_of HT_.out (by kernel_rfl)) (fun _ _ _ h => h) (Or.inl ⟨by rfl, ?_⟩) ?_ ?_
    rotate_left
    ·intro w'
     go_simp
     with_reducible rfl
    rotate_left
    ·simp only [Act.put, List.setIfInBounds_toArray, List.set_cons_zero, List.set_cons_succ, i64_w, i32_w]
     rfl
    refine pure_ (i := 6) (N := some 23) (v := ?_) (a' := ?_) #[false, true, false, false, false, false, true, false, false, false, false, false, false, false] rfl rfl (any_of HT_.out (by kernel_rfl)) (fun _ _ _ h => h) (Or.inl ⟨by rfl, ?_⟩) ?_ ?_
    rotate_left
    ·intro w'
     go_simp
     with_reducible rfl
    rotate_left
    ·simp only [Act.put, List.setIfInBounds_toArray, List.set_cons_zero, List.set_cons_succ, i64_w, i32_w]
     rfl
    refine inv_at [0, 2, 3, 4, 5, 7, 8, 9, 10, 11, 12, 13] (fun a0_ b a w' => ∃ (v342 : Value) (v345 : Value) (v349 : Value) (v353 : Value) (m2_ : Value) (m9_ : Value) (m10_ : Value), a = putSel a0_ b [(0, 17, .agg #[.int .i64 a0_0, .slice A0_1 l0_1.length c0_1]), (2, 19, m2_), (3, 20, .agg #[.int .i64 a2_0, .slice A2_1 l2_1.length c2_1]), (4, 21, v345), (5, 22, .agg #[.int .i64 a0_0, .slice A0_1 l0_1.length c0_1]), (7, 24, .int .i64 t347), (8, 25, v349), (9, 26, m9_), (10, 27, m10_), (11, 28, .int .i64 t355), (13, 7, .int .i64 t355)] ∧ (Kd.V k51 51 w' w.heap.size (fun k_ => (P2_1_ k_ ∨ w.heap.size ≤ k_) ∧ k_ ≠ gb335 ∧ k_ ≠ gb336 ∧ k_ ≠ gb337) (.slice A2_1 l2_1.length c2_1) l2_1) ∧ (w'.heap[gb335]? = some (.cells #[.int .i64 a0_0, .slice A0_1 l0_1.length c0_1] 28 (0, 0))) ∧ (w'.heap[gb336]? = some (.cells #[.int .i64 a2_0, .slice A2_1 l2_1.length c2_1] 28 (0, 0))) ∧ (b 12 = false → w'.heap[gb337]? = some (.cells #[.int .i64 0, .slice none 0 0] 28 (0, 0))) ∧ (Below w.heap.size w w') ∧ (b 2 = true → b 4 = false → Kd.R k51 51 w' w.heap.size (fun k_ => (w.heap.size ≤ k_)) v342 t341) ∧ (b 4 = true → Kd.N k28 28 w' w.heap.size (fun k_ => (P2_1_ k_ ∨ w.heap.size ≤ k_) ∧ k_ ≠ gb335 ∧ k_ ≠ gb336 ∧ k_ ≠ gb337) v345 y344) ∧ (b 8 = true → Kd.R (Kd.int .i64) 2 w' w.heap.size (fun k_ => (w.heap.size ≤ k_)) v349 y348) ∧ (b 9 = true → Kd.R k51 51 w' w.heap.size (fun k_ => (w.heap.size ≤ k_)) v353 t352) ∧ (b 12 = true → w'.heap[gb337]? = some (.cells #[.int .i64 t351, v353] 28 (0, 0))) ∧ (b 2 = true → (m2_ : Value) = .agg #[.int .i64 t340, v342]) ∧ (b 9 = true → (m9_ : Value) = .tuple #[.agg #[.int .i64 t351, v353], .int .i64 t355]) ∧ (b 10 = true → (m10_ : Value) = .agg #[.int .i64 t351, v353])) HT_.out HW_.out (by kernel_rfl) (by kernel_rfl) ?_ ?_ ?_
    ·exact ⟨.bool false, .bool false, .bool false, .bool false, .bool false, .bool false, .bool false, by simp only [putSel, Bool.false_eq_true, if_false], HO_337001.out, BK335.out, BK336.out, fun _ => BK337.out, HB.out, fun h_ => absurd h_ (by decide), fun h_ => absurd h_ (by decide), fun h_ => absurd h_ (by decide), fun h_ => absurd h_ (by decide), fun h_ => absurd h_ (by decide), fun h_ => absurd h_ (by decide), fun h_ => absurd h_ (by decide), fun h_ => absurd h_ (by decide)⟩
    ·skip
     clear BK335 BK336 BK337 HB HO_337001
     refine steps_cons ?_ ?_
     ·rintro b a w' ⟨v342, v345, v349, v353, m2_, m9_, m10_, ha, Q_HO_337001, Q_BK335, Q_BK336, Q_BK337, Q_HB, Q_HO343, Q_HO346, Q_HO350, Q_HO354, Q_BK337_e12, Q_X2_, Q_X9_, Q_X10_⟩ hb_ hon hoff
      refine ⟨_, rfl, fun K hK => ?_⟩
      have e3 : a.tmps[3]? = some (.pointer (some ⟨gb335, 0, none⟩)) := by rw [ha]; exact (putSel_off rfl).trans rfl
      replace ha := zK ha
      have HO_337001 := zK Q_HO_337001
      have BK335 := zK Q_BK335
      have BK336 := zK Q_BK336
      have BK337 := zK (Q_BK337 (hoff 12 (by kernel_rfl)))
      have HB := zK Q_HB
      have hc0_ : w'.cell? ⟨gb335, 0, none⟩ = some (.int .i64 a0_0) := (blk_cell BK335.out 0).trans rfl
      have hc1_ : w'.cell? ⟨gb335, 1, none⟩ = some (.slice A0_1 l0_1.length c0_1) := (blk_cell BK335.out 1).trans rfl
      refine value_ (w1 := w') (v := .agg #[.int .i64 a0_0, .slice A0_1 l0_1.length c0_1]) (by rfl) rfl ?_ ?_
      ·go_simp
       (try simp only [i64_w])
       try rfl
      refine hK.out _ _ ⟨v342, v345, v349, v353, m2_, m9_, m10_, (by rw [ha.out]; exact putSel_upk 0 hb_ rfl rfl rfl), Q_HO_337001, Q_BK335, Q_BK336, Q_BK337, Q_HB, fun h0_ _ => absurd ((hoff 2 (by kernel_rfl)).symm.trans h0_) (by decide), fun h0_ => absurd ((hoff 4 (by kernel_rfl)).symm.trans h0_) (by decide), fun h0_ => absurd ((hoff 8 (by kernel_rfl)).symm.trans h0_) (by decide), fun h0_ => absurd ((hoff 9 (by kernel_rfl)).symm.trans h0_) (by decide), fun h0_ => absurd ((hoff 12 (by kernel_rfl)).symm.trans h0_) (by decide), fun h0_ => absurd ((hoff 2 (by kernel_rfl)).symm.trans h0_) (by decide), fun h0_ => absurd ((hoff 9 (by kernel_rfl)).symm.trans h0_) (by decide), fun h0_ => absurd ((hoff 10 (by kernel_rfl)).symm.trans h0_) (by decide)⟩
     refine steps_cons ?_ ?_
     ·rintro b a w' ⟨v342, v345, v349, v353, m2_, m9_, m10_, ha, Q_HO_337001, Q_BK335, Q_BK336, Q_BK337, Q_HB, Q_HO343, Q_HO346, Q_HO350, Q_HO354, Q_BK337_e12, Q_X2_, Q_X9_, Q_X10_⟩ hb_ hon hoff
      refine ⟨_, rfl, fun K hK => ?_⟩
      have e17 : a.tmps[17]? = some (.agg #[.int .i64 a0_0, .slice A0_1 l0_1.length c0_1]) := by rw [ha]; exact putSel_on (e := (0, 17, .agg #[.int .i64 a0_0, .slice A0_1 l0_1.length c0_1])) 0 rfl rfl (hon 0 (by kernel_rfl)) rfl
      have e18 : a.tmps[18]? = some (.int .i64 a1) := by rw [ha]; exact (putSel_off rfl).trans rfl
      replace ha := zK ha
      have HO_337001 := zK Q_HO_337001
      have BK335 := zK Q_BK335
      have BK336 := zK Q_BK336
      have BK337 := zK (Q_BK337 (hoff 12 (by kernel_rfl)))
      have HB := zK Q_HB
      refine goes_ Tryd.func34 (by kernel_rfl) rfl #[.agg #[.int .i64 a0_0, .slice A0_1 l0_1.length c0_1], .int .i64 a1] (by rfl) rfl rfl (by first | (simp only [List.map_toArray, List.map_cons, List.map_nil, Act.eval, Array.getD_eq_getD_getElem?, Option.getD_some, e17, e18]; done) | (simp only [List.map_toArray, List.map_cons, List.map_nil, Act.eval, Array.getD_eq_getD_getElem?, Option.getD_some, e17, e18]; rfl)) ?_
      with_reducible refine (sequiturref27_Less.calls kj3 a0_0 _ _ l0_1 a1 t340 t341 _ ?side1 ?side2 A26.out).mono ?_
      (case side1 => repeat (first | exact (Kd.C_below HR0_1.out HB.out) | (with_reducible refine cA ?_ _) | (with_reducible refine cN ?_ _) | (with_reducible refine cD ?_)))
      (case side2 => exact HC0_1.out)
      rintro e w30 ⟨v342, rfl, ho0, hb⟩
      refine ⟨_, rfl, ?_⟩
      replace HO_337001 := zK (Kd.V_elder' (zv HO_337001) (Kd.R_base ho0) hb)
      have HO343 := zK (Kd.R_lower (Kd.R_newM (M := fun k_ => (w.heap.size ≤ k_)) ho0 (below_size (zo HB)) (fun k_ h_ => h_)) (below_size (zo HB)))
      replace BK335 := zK (blk_below (g := gb335) (o := .cells #[.int .i64 a0_0, .slice A0_1 l0_1.length c0_1] 28 (0, 0)) (zb BK335) hb)
      replace BK336 := zK (blk_below (g := gb336) (o := .cells #[.int .i64 a2_0, .slice A2_1 l2_1.length c2_1] 28 (0, 0)) (zb BK336) hb)
      replace BK337 := zK (blk_below (g := gb337) (o := .cells #[.int .i64 0, .slice none 0 0] 28 (0, 0)) (zb BK337) hb)
      replace HB := zK (below_step (zo HB) hb)
      (try clear hb)
      (try clear hb2)
      (try clear hk)
      (try clear hi)
      (try clear ho0)
      refine hK.out _ _ ⟨v342, v345, v349, v353, (.agg #[.int .i64 t340, v342]), m9_, m10_, (by rw [ha.out]; exact putSel_upk 1 hb_ rfl rfl rfl), (by (with_reducible repeat (first | apply vA | apply vN | apply vD)); exact vM HO_337001.out (fun _ hk => by simp only [ne_eq] at hk ⊢; simp only [hk, not_false_eq_true, and_self, or_true, true_or])), (zb BK335), (zb BK336), fun _ => (zb BK337), (zo HB), fun _ _ => (by (with_reducible repeat (first | apply Kd.R_alloc | apply Kd.R_drewN | apply Kd.R_drew)); exact Kd.R_mono HO343.out (fun _ hk => hk.1)), fun h0_ => absurd ((hoff 4 (by kernel_rfl)).symm.trans h0_) (by decide), fun h0_ => absurd ((hoff 8 (by kernel_rfl)).symm.trans h0_) (by decide), fun h0_ => absurd ((hoff 9 (by kernel_rfl)).symm.trans h0_) (by decide), fun h0_ => absurd ((hoff 12 (by kernel_rfl)).symm.trans h0_) (by decide), fun _ => rfl, fun h0_ => absurd ((hoff 9 (by kernel_rfl)).symm.trans h0_) (by decide), fun h0_ => absurd ((hoff 10 (by kernel_rfl)).symm.trans h0_) (by decide)⟩
     refine steps_cons ?_ ?_
     ·rintro b a w' ⟨v342, v345, v349, v353, m2_, m9_, m10_, ha, Q_HO_337001, Q_BK335, Q_BK336, Q_BK337, Q_HB, Q_HO343, Q_HO346, Q_HO350, Q_HO354, Q_BK337_e12, Q_X2_, Q_X9_, Q_X10_⟩ hb_ hon hoff
      refine ⟨_, rfl, fun K hK => ?_⟩
      have e5 : a.tmps[5]? = some (.pointer (some ⟨gb336, 0, none⟩)) := by rw [ha]; exact (putSel_off rfl).trans rfl
      replace ha := zK ha
      have HO_337001 := zK Q_HO_337001
      have BK335 := zK Q_BK335
      have BK336 := zK Q_BK336
      have BK337 := zK (Q_BK337 (hoff 12 (by kernel_rfl)))
      have HB := zK Q_HB
      have hc0_ : w'.cell? ⟨gb336, 0, none⟩ = some (.int .i64 a2_0) := (blk_cell BK336.out 0).trans rfl
      have hc1_ : w'.cell? ⟨gb336, 1, none⟩ = some (.slice A2_1 l2_1.length c2_1) := (blk_cell BK336.out 1).trans rfl
      refine value_ (w1 := w') (v := .agg #[.int .i64 a2_0, .slice A2_1 l2_1.length c2_1]) (by rfl) rfl ?_ ?_
      ·go_simp
       (try simp only [i64_w])
       try rfl
      refine hK.out _ _ ⟨v342, v345, v349, v353, m2_, m9_, m10_, (by rw [ha.out]; exact putSel_upk 2 hb_ rfl rfl rfl), Q_HO_337001, Q_BK335, Q_BK336, Q_BK337, Q_HB, Q_HO343, fun h0_ => absurd ((hoff 4 (by kernel_rfl)).symm.trans h0_) (by decide), Q_HO350, fun h0_ => absurd ((hoff 9 (by kernel_rfl)).symm.trans h0_) (by decide), fun h0_ => absurd ((hoff 12 (by kernel_rfl)).symm.trans h0_) (by decide), Q_X2_, fun h0_ => absurd ((hoff 9 (by kernel_rfl)).symm.trans h0_) (by decide), fun h0_ => absurd ((hoff 10 (by kernel_rfl)).symm.trans h0_) (by decide)⟩
     refine steps_cons ?_ ?_
     ·rintro b a w' ⟨v342, v345, v349, v353, m2_, m9_, m10_, ha, Q_HO_337001, Q_BK335, Q_BK336, Q_BK337, Q_HB, Q_HO343, Q_HO346, Q_HO350, Q_HO354, Q_BK337_e12, Q_X2_, Q_X9_, Q_X10_⟩ hb_ hon hoff
      refine ⟨_, rfl, fun K hK => ?_⟩
      have e19 : a.tmps[19]? = some (m2_) := by rw [ha]; exact putSel_on (e := (2, 19, m2_)) 1 rfl rfl (hon 2 (by kernel_rfl)) rfl
      rw [Q_X2_ (hon 2 (by kernel_rfl))] at e19
      have e20 : a.tmps[20]? = some (.agg #[.int .i64 a2_0, .slice A2_1 l2_1.length c2_1]) := by rw [ha]; exact putSel_on (e := (3, 20, .agg #[.int .i64 a2_0, .slice A2_1 l2_1.length c2_1])) 2 rfl rfl (hon 3 (by kernel_rfl)) rfl
      replace ha := zK ha
      have HO_337001 := zK Q_HO_337001
      have BK335 := zK Q_BK335
      have BK336 := zK Q_BK336
      have BK337 := zK (Q_BK337 (hoff 12 (by kernel_rfl)))
      have HB := zK Q_HB
      have HO343 := zK (Q_HO343 (hon 2 (by kernel_rfl)) hb_)
      obtain ⟨Ao32, co32, eo32⟩ := Kd.R_slice HO343.out
      (first | subst eo32 | (injection eo32 with f1_ f2_ f3_; have f4_ := f1_.symm; have f5_ := f3_.symm; clear f1_ f2_ f3_; subst f4_; subst f5_))
      refine Kd.N_lit_step k28 _ 28 ?hg (N' := 21) ?hd (xs := ([(⟨t340, t341⟩ : S28), (⟨a2_0, l2_1⟩ : S28)] : List (S28))) (inner := [.int .i64 t340, .slice Ao32 t341.length co32, .int .i64 a2_0, .slice A2_1 l2_1.length c2_1]) (ok := (fun k_ => (P2_1_ k_ ∨ w.heap.size ≤ k_) ∧ k_ ≠ gb335 ∧ k_ ≠ gb336 ∧ k_ ≠ gb337)) (okp := (fun k_ => (P2_1_ k_ ∨ w.heap.size ≤ k_) ∧ k_ ≠ gb335 ∧ k_ ≠ gb336 ∧ k_ ≠ gb337)) ?hr ?hp (fun _ hk => hk) ((show ∀ k_, w'.heap.size ≤ k_ → (fun k_ => (P2_1_ k_ ∨ w.heap.size ≤ k_) ∧ k_ ≠ gb335 ∧ k_ ≠ gb336 ∧ k_ ≠ gb337) k_ from fun k_ hk => ⟨(.inr (Nat.le_trans (below_size (zo HB)) hk)), Kd.freshB (g := gb335) (o := .cells #[.int .i64 a0_0, .slice A0_1 l0_1.length c0_1] 28 (0, 0)) (zb BK335) k_ hk, Kd.freshB (g := gb336) (o := .cells #[.int .i64 a2_0, .slice A2_1 l2_1.length c2_1] 28 (0, 0)) (zb BK336) k_ hk, Kd.freshB (g := gb337) (o := .cells #[.int .i64 0, .slice none 0 0] 28 (0, 0)) (zb BK337) k_ hk⟩) _ (Nat.le_refl _)) (Below.refl _ _) (Nat.le_refl _) (by simp) ?_; (case hd => rfl); (case hg => rfl); (case hr => first | (go_simp; done) | (go_simp; rfl)); (case hp => exact (Reps.c2 (show Kd.FK k28 _ _ (⟨t340, t341⟩ : S28) [.int .i64 t340, .slice Ao32 t341.length co32] from (k28_mkF _ _ (⟨t340, t341⟩ : S28) (Kd.R_reads' (Kd.R_mono (ok' := (fun k_ => (P2_1_ k_ ∨ w.heap.size ≤ k_) ∧ k_ ≠ gb335 ∧ k_ ≠ gb336 ∧ k_ ≠ gb337)) (Kd.R_types (Kd.R_types (Kd.R_types (HO343.out) BK335.out (by decide)) BK336.out (by decide)) BK337.out (by decide)) (fun k_ hk => by simp only [ne_eq] at hk ⊢; simp only [hk, not_false_eq_true, and_self, or_true, true_or]))).2.1 (Kd.R_F (Kd.R_mono (ok' := (fun k_ => (P2_1_ k_ ∨ w.heap.size ≤ k_) ∧ k_ ≠ gb335 ∧ k_ ≠ gb336 ∧ k_ ≠ gb337)) (Kd.R_types (Kd.R_types (Kd.R_types (HO343.out) BK335.out (by decide)) BK336.out (by decide)) BK337.out (by decide)) (fun k_ hk => by simp only [ne_eq] at hk ⊢; simp only [hk, not_false_eq_true, and_self, or_true, true_or]))))) (Reps.c2 (show Kd.FK k28 _ _ (⟨a2_0, l2_1⟩ : S28) [.int .i64 a2_0, .slice A2_1 l2_1.length c2_1] from (k28_mkF _ _ (⟨a2_0, l2_1⟩ : S28) (Kd.V_reads' (vM (ok' := (fun k_ => (P2_1_ k_ ∨ w.heap.size ≤ k_) ∧ k_ ≠ gb335 ∧ k_ ≠ gb336 ∧ k_ ≠ gb337)) (HO_337001.out) (fun k_ hk => by simp only [ne_eq] at hk ⊢; simp only [hk, not_false_eq_true, and_self, or_true, true_or]))).2.1 (Kd.V_F (vM (ok' := (fun k_ => (P2_1_ k_ ∨ w.heap.size ≤ k_) ∧ k_ ≠ gb335 ∧ k_ ≠ gb336 ∧ k_ ≠ gb337)) (HO_337001.out) (fun k_ hk => by simp only [ne_eq] at hk ⊢; simp only [hk, not_false_eq_true, and_self, or_true, true_or]))))) (Reps.none _ _))))
      intro v345 w33 ho34 hb hg_ hnew_
      clear hg_ hnew_
      (first | rw [← Ny344.out] at ho34 | (simp only [Int.reduceToNat] at ho34; rw [← Ny344.out] at ho34))
      have n0_ := zK (Kd.V_elder' (zv HO_337001) (Kd.N_base ho34) hb)
      have n1_ := zK (Kd.N_lower ho34 (below_size (zo HB)))
      have n2_ := zK (blk_below (g := gb335) (o := .cells #[.int .i64 a0_0, .slice A0_1 l0_1.length c0_1] 28 (0, 0)) (zb BK335) hb)
      have n3_ := zK (blk_below (g := gb336) (o := .cells #[.int .i64 a2_0, .slice A2_1 l2_1.length c2_1] 28 (0, 0)) (zb BK336) hb)
      have n4_ := zK (blk_below (g := gb337) (o := .cells #[.int .i64 0, .slice none 0 0] 28 (0, 0)) (zb BK337) hb)
      have n5_ := zK (below_step (zo HB) hb)
      have z_HO350 := fun (h0_ : b 8 = true) => (show Kd.R (Kd.int .i64) 2 w33 w.heap.size (fun k_ => (w.heap.size ≤ k_)) v349 y348 from by first | exact (Kd.R_below (by (with_reducible repeat (first | apply Kd.R_alloc | apply Kd.R_drewN | apply Kd.R_drew)); exact (Q_HO350 h0_)) hb) | exact Kd.R_mono (Kd.R_below (by (with_reducible repeat (first | apply Kd.R_alloc | apply Kd.R_drewN | apply Kd.R_drew)); exact (Q_HO350 h0_)) hb) (fun _ h_ => by first | trivial | exact h_ | exact h_.1))
      clear HO_337001 BK335 BK336 BK337 HB HO343
      have HO_337001 := n0_
      have HO346 := n1_
      have BK335 := n2_
      have BK336 := n3_
      have BK337 := n4_
      have HB := n5_
      clear n0_ n1_ n2_ n3_ n4_ n5_ hb ho34
      refine hK.out _ _ ⟨.slice Ao32 t341.length co32, v345, v349, v353, m2_, m9_, m10_, (by rw [ha.out]; exact putSel_upk 3 hb_ rfl rfl rfl), (by (with_reducible repeat (first | apply vA | apply vN | apply vD)); exact vM HO_337001.out (fun _ hk => by simp only [ne_eq] at hk ⊢; simp only [hk, not_false_eq_true, and_self, or_true, true_or])), (zb BK335), (zb BK336), fun _ => (zb BK337), (zo HB), fun _ h1_ => absurd ((up_self b 4).symm.trans h1_) (by decide), fun _ => (zn HO346), z_HO350, fun h0_ => absurd ((hoff 9 (by kernel_rfl)).symm.trans h0_) (by decide), fun h0_ => absurd ((hoff 12 (by kernel_rfl)).symm.trans h0_) (by decide), Q_X2_, fun h0_ => absurd ((hoff 9 (by kernel_rfl)).symm.trans h0_) (by decide), fun h0_ => absurd ((hoff 10 (by kernel_rfl)).symm.trans h0_) (by decide)⟩
     refine steps_cons ?_ ?_
     ·rintro b a w' ⟨v342, v345, v349, v353, m2_, m9_, m10_, ha, Q_HO_337001, Q_BK335, Q_BK336, Q_BK337, Q_HB, Q_HO343, Q_HO346, Q_HO350, Q_HO354, Q_BK337_e12, Q_X2_, Q_X9_, Q_X10_⟩ hb_ hon hoff
      refine ⟨_, rfl, fun K hK => ?_⟩
      have e3 : a.tmps[3]? = some (.pointer (some ⟨gb335, 0, none⟩)) := by rw [ha]; exact (putSel_off rfl).trans rfl
      replace ha := zK ha
      have HO_337001 := zK Q_HO_337001
      have BK335 := zK Q_BK335
      have BK336 := zK Q_BK336
      have BK337 := zK (Q_BK337 (hoff 12 (by kernel_rfl)))
      have HB := zK Q_HB
      have hc0_ : w'.cell? ⟨gb335, 0, none⟩ = some (.int .i64 a0_0) := (blk_cell BK335.out 0).trans rfl
      have hc1_ : w'.cell? ⟨gb335, 1, none⟩ = some (.slice A0_1 l0_1.length c0_1) := (blk_cell BK335.out 1).trans rfl
      refine value_ (w1 := w') (v := .agg #[.int .i64 a0_0, .slice A0_1 l0_1.length c0_1]) (by rfl) rfl ?_ ?_
      ·go_simp
       (try simp only [i64_w])
       try rfl
      refine hK.out _ _ ⟨v342, v345, v349, v353, m2_, m9_, m10_, (by rw [ha.out]; exact putSel_upk 4 hb_ rfl rfl rfl), Q_HO_337001, Q_BK335, Q_BK336, Q_BK337, Q_HB, Q_HO343, Q_HO346, fun h0_ => absurd ((hoff 8 (by kernel_rfl)).symm.trans h0_) (by decide), fun h0_ => absurd ((hoff 9 (by kernel_rfl)).symm.trans h0_) (by decide), fun h0_ => absurd ((hoff 12 (by kernel_rfl)).symm.trans h0_) (by decide), Q_X2_, fun h0_ => absurd ((hoff 9 (by kernel_rfl)).symm.trans h0_) (by decide), fun h0_ => absurd ((hoff 10 (by kernel_rfl)).symm.trans h0_) (by decide)⟩
     refine steps_cons ?_ ?_
     ·rintro b a w' ⟨v342, v345, v349, v353, m2_, m9_, m10_, ha, Q_HO_337001, Q_BK335, Q_BK336, Q_BK337, Q_HB, Q_HO343, Q_HO346, Q_HO350, Q_HO354, Q_BK337_e12, Q_X2_, Q_X9_, Q_X10_⟩ hb_ hon hoff
      refine ⟨_, rfl, fun K hK => ?_⟩
      have e22 : a.tmps[22]? = some (.agg #[.int .i64 a0_0, .slice A0_1 l0_1.length c0_1]) := by rw [ha]; exact putSel_on (e := (5, 22, .agg #[.int .i64 a0_0, .slice A0_1 l0_1.length c0_1])) 4 rfl rfl (hon 5 (by kernel_rfl)) rfl
      have e23 : a.tmps[23]? = some (.int .i64 a1) := by rw [ha]; exact (putSel_off rfl).trans rfl
      replace ha := zK ha
      have HO_337001 := zK Q_HO_337001
      have BK335 := zK Q_BK335
      have BK336 := zK Q_BK336
      have BK337 := zK (Q_BK337 (hoff 12 (by kernel_rfl)))
      have HB := zK Q_HB
      refine goes_ Tryd.func21 (by kernel_rfl) rfl #[.agg #[.int .i64 a0_0, .slice A0_1 l0_1.length c0_1], .int .i64 a1] (by rfl) rfl rfl (by first | (simp only [List.map_toArray, List.map_cons, List.map_nil, Act.eval, Array.getD_eq_getD_getElem?, Option.getD_some, e22, e23]; done) | (simp only [List.map_toArray, List.map_cons, List.map_nil, Act.eval, Array.getD_eq_getD_getElem?, Option.getD_some, e22, e23]; rfl)) ?_
      with_reducible refine (sequiturref27_By.calls kj3 a0_0 _ _ l0_1 a1 t347 _ ?side1 ?side2 A27.out).mono ?_
      (case side1 => repeat (first | exact (Kd.C_below HR0_1.out HB.out) | (with_reducible refine cA ?_ _) | (with_reducible refine cN ?_ _) | (with_reducible refine cD ?_)))
      (case side2 => exact HC0_1.out)
      rintro e w32 ⟨rfl, hb⟩
      refine ⟨_, rfl, ?_⟩
      have n0_ := zK (Kd.V_below (zv HO_337001) hb)
      have n2_ := zK (blk_below (g := gb335) (o := .cells #[.int .i64 a0_0, .slice A0_1 l0_1.length c0_1] 28 (0, 0)) (zb BK335) hb)
      have n3_ := zK (blk_below (g := gb336) (o := .cells #[.int .i64 a2_0, .slice A2_1 l2_1.length c2_1] 28 (0, 0)) (zb BK336) hb)
      have n4_ := zK (blk_below (g := gb337) (o := .cells #[.int .i64 0, .slice none 0 0] 28 (0, 0)) (zb BK337) hb)
      have n5_ := zK (below_step (zo HB) hb)
      have z_HO343 := fun (h0_ : b 2 = true) (h1_ : b 4 = false) => (show Kd.R k51 51 w32 w.heap.size (fun k_ => (w.heap.size ≤ k_)) v342 t341 from by first | exact (Kd.R_below (by (with_reducible repeat (first | apply Kd.R_alloc | apply Kd.R_drewN | apply Kd.R_drew)); exact (Q_HO343 h0_ h1_)) hb) | exact Kd.R_mono (Kd.R_below (by (with_reducible repeat (first | apply Kd.R_alloc | apply Kd.R_drewN | apply Kd.R_drew)); exact (Q_HO343 h0_ h1_)) hb) (fun _ h_ => by first | trivial | exact h_ | exact h_.1))
      have z_HO346 := fun (h0_ : b 4 = true) => (show Kd.N k28 28 w32 w.heap.size (fun k_ => (P2_1_ k_ ∨ w.heap.size ≤ k_) ∧ k_ ≠ gb335 ∧ k_ ≠ gb336 ∧ k_ ≠ gb337) v345 y344 from by first | exact (Kd.N_below (by (with_reducible repeat (first | apply nA | apply nN | apply nD)); exact (Q_HO346 h0_)) hb) | exact Kd.N_mono (Kd.N_below (by (with_reducible repeat (first | apply nA | apply nN | apply nD)); exact (Q_HO346 h0_)) hb) (fun _ h_ => by first | trivial | exact h_ | exact h_.1))
      clear HO_337001 BK335 BK336 BK337 HB
      have HO_337001 := n0_
      have BK335 := n2_
      have BK336 := n3_
      have BK337 := n4_
      have HB := n5_
      clear n0_ n2_ n3_ n4_ n5_
      (try clear hb)
      (try clear hb2)
      (try clear hk)
      (try clear hi)
      refine hK.out _ _ ⟨v342, v345, v349, v353, m2_, m9_, m10_, (by rw [ha.out]; exact putSel_upk 5 hb_ rfl rfl rfl), (zv HO_337001), (zb BK335), (zb BK336), fun _ => (zb BK337), (zo HB), z_HO343, z_HO346, fun h0_ => absurd ((hoff 8 (by kernel_rfl)).symm.trans h0_) (by decide), fun h0_ => absurd ((hoff 9 (by kernel_rfl)).symm.trans h0_) (by decide), fun h0_ => absurd ((hoff 12 (by kernel_rfl)).symm.trans h0_) (by decide), Q_X2_, fun h0_ => absurd ((hoff 9 (by kernel_rfl)).symm.trans h0_) (by decide), fun h0_ => absurd ((hoff 10 (by kernel_rfl)).symm.trans h0_) (by decide)⟩
     refine steps_cons ?_ ?_
     ·rintro b a w' ⟨v342, v345, v349, v353, m2_, m9_, m10_, ha, Q_HO_337001, Q_BK335, Q_BK336, Q_BK337, Q_HB, Q_HO343, Q_HO346, Q_HO350, Q_HO354, Q_BK337_e12, Q_X2_, Q_X9_, Q_X10_⟩ hb_ hon hoff
      refine ⟨_, rfl, fun K hK => ?_⟩
      have e24 : a.tmps[24]? = some (.int .i64 t347) := by rw [ha]; exact putSel_on (e := (7, 24, .int .i64 t347)) 5 rfl rfl (hon 7 (by kernel_rfl)) rfl
      replace ha := zK ha
      have HO_337001 := zK Q_HO_337001
      have BK335 := zK Q_BK335
      have BK336 := zK Q_BK336
      have BK337 := zK (Q_BK337 (hoff 12 (by kernel_rfl)))
      have HB := zK Q_HB
      refine Kd.R_lit_step (Kd.int .i64) _ 2 ?hg (N := 25) ?hd (xs := ([1, t347] : List Int)) (inner := [.int .i64 1, .int .i64 t347]) (ok := fun _ => True) (okp := fun _ => True) ?hr ?hp (fun _ hk => hk) trivial (Below.refl _ _) (Nat.le_refl _) (by simp) ?_; (case hd => rfl); (case hg => rfl); (case hr => first | (go_simp; done) | (go_simp; rfl)); (case hp => exact (Reps.one (show Kd.M (Kd.int .i64) _ _ _ 1 [.int .i64 1] from rfl) (Reps.one (show Kd.M (Kd.int .i64) _ _ _ t347 [.int .i64 t347] from rfl) (Reps.none _ _))))
      intro v349 w33 ho34 hb hg_ hnew_
      clear hg_ hnew_
      (first | rw [← Ny348.out] at ho34 | (simp only [Int.reduceToNat] at ho34; rw [← Ny348.out] at ho34))
      have n0_ := zK (Kd.V_elder' (zv HO_337001) (Kd.R_base ho34) hb)
      have n2_ := zK (Kd.R_lower (Kd.R_newM (M := fun k_ => (w.heap.size ≤ k_)) ho34 (below_size (zo HB)) (fun k_ h_ => h_)) (below_size (zo HB)))
      have n3_ := zK (blk_below (g := gb335) (o := .cells #[.int .i64 a0_0, .slice A0_1 l0_1.length c0_1] 28 (0, 0)) (zb BK335) hb)
      have n4_ := zK (blk_below (g := gb336) (o := .cells #[.int .i64 a2_0, .slice A2_1 l2_1.length c2_1] 28 (0, 0)) (zb BK336) hb)
      have n5_ := zK (blk_below (g := gb337) (o := .cells #[.int .i64 0, .slice none 0 0] 28 (0, 0)) (zb BK337) hb)
      have n6_ := zK (below_step (zo HB) hb)
      have z_HO343 := fun (h0_ : b 2 = true) (h1_ : b 4 = false) => (show Kd.R k51 51 w33 w.heap.size (fun k_ => (w.heap.size ≤ k_)) v342 t341 from by first | exact (Kd.R_below (by (with_reducible repeat (first | apply Kd.R_alloc | apply Kd.R_drewN | apply Kd.R_drew)); exact (Q_HO343 h0_ h1_)) hb) | exact Kd.R_mono (Kd.R_below (by (with_reducible repeat (first | apply Kd.R_alloc | apply Kd.R_drewN | apply Kd.R_drew)); exact (Q_HO343 h0_ h1_)) hb) (fun _ h_ => by first | trivial | exact h_ | exact h_.1))
      have z_HO346 := fun (h0_ : b 4 = true) => (show Kd.N k28 28 w33 w.heap.size (fun k_ => (P2_1_ k_ ∨ w.heap.size ≤ k_) ∧ k_ ≠ gb335 ∧ k_ ≠ gb336 ∧ k_ ≠ gb337) v345 y344 from by first | exact (Kd.N_elder' (by (with_reducible repeat (first | apply nA | apply nN | apply nD)); exact (Q_HO346 h0_)) (Kd.R_base ho34) hb) | exact Kd.N_mono (Kd.N_elder' (by (with_reducible repeat (first | apply nA | apply nN | apply nD)); exact (Q_HO346 h0_)) (Kd.R_base ho34) hb) (fun _ h_ => by first | trivial | exact h_ | exact h_.1))
      clear HO_337001 BK335 BK336 BK337 HB
      have HO_337001 := n0_
      have HO350 := n2_
      have BK335 := n3_
      have BK336 := n4_
      have BK337 := n5_
      have HB := n6_
      clear n0_ n2_ n3_ n4_ n5_ n6_ hb ho34
      refine hK.out _ _ ⟨v342, v345, v349, v353, m2_, m9_, m10_, (by rw [ha.out]; exact putSel_upk 6 hb_ rfl rfl rfl), (by (with_reducible repeat (first | apply vA | apply vN | apply vD)); exact vM HO_337001.out (fun _ hk => by simp only [ne_eq] at hk ⊢; simp only [hk, not_false_eq_true, and_self, or_true, true_or])), (zb BK335), (zb BK336), fun _ => (zb BK337), (zo HB), z_HO343, z_HO346, fun _ => (by (with_reducible repeat (first | apply Kd.R_alloc | apply Kd.R_drewN | apply Kd.R_drew)); exact Kd.R_mono HO350.out (fun _ hk => hk.1)), fun h0_ => absurd ((hoff 9 (by kernel_rfl)).symm.trans h0_) (by decide), fun h0_ => absurd ((hoff 12 (by kernel_rfl)).symm.trans h0_) (by decide), Q_X2_, fun h0_ => absurd ((hoff 9 (by kernel_rfl)).symm.trans h0_) (by decide), fun h0_ => absurd ((hoff 10 (by kernel_rfl)).symm.trans h0_) (by decide)⟩
     refine steps_cons ?_ ?_
     ·rintro b a w' ⟨v342, v345, v349, v353, m2_, m9_, m10_, ha, Q_HO_337001, Q_BK335, Q_BK336, Q_BK337, Q_HB, Q_HO343, Q_HO346, Q_HO350, Q_HO354, Q_BK337_e12, Q_X2_, Q_X9_, Q_X10_⟩ hb_ hon hoff
      refine ⟨_, rfl, fun K hK => ?_⟩
      have e21 : a.tmps[21]? = some (v345) := by rw [ha]; exact putSel_on (e := (4, 21, v345)) 3 rfl rfl (hon 4 (by kernel_rfl)) rfl
      have e25 : a.tmps[25]? = some (v349) := by rw [ha]; exact putSel_on (e := (8, 25, v349)) 6 rfl rfl (hon 8 (by kernel_rfl)) rfl
      replace ha := zK ha
      have HO_337001 := zK Q_HO_337001
      have BK335 := zK Q_BK335
      have BK336 := zK Q_BK336
      have BK337 := zK (Q_BK337 (hoff 12 (by kernel_rfl)))
      have HB := zK Q_HB
      have HO346 := zK (Q_HO346 (hon 4 (by kernel_rfl)))
      have HO350 := zK (Q_HO350 (hon 8 (by kernel_rfl)))
      obtain ⟨Ao38, co38, eo38⟩ := Kd.N_slice HO346.out
      (first | subst eo38 | (injection eo38 with f1_ f2_ f3_; have f4_ := f1_.symm; have f5_ := f3_.symm; clear f1_ f2_ f3_; subst f4_; subst f5_))
      obtain ⟨Ao39, co39, eo39⟩ := Kd.R_slice HO350.out
      (first | subst eo39 | (injection eo39 with f1_ f2_ f3_; have f4_ := f1_.symm; have f5_ := f3_.symm; clear f1_ f2_ f3_; subst f4_; subst f5_))
      refine goes_ Tryd.func11 (by kernel_rfl) rfl #[.slice Ao38 y344.length co38, .slice Ao39 y348.length co39] (by rfl) rfl rfl (by first | (simp only [List.map_toArray, List.map_cons, List.map_nil, Act.eval, Array.getD_eq_getD_getElem?, Option.getD_some, e21, e25]; done) | (simp only [List.map_toArray, List.map_cons, List.map_nil, Act.eval, Array.getD_eq_getD_getElem?, Option.getD_some, e21, e25]; rfl)) ?_
      with_reducible refine (sequiturref27_Sum.calls kj3 _ _ y344 _ _ y348 t351 t352 t355 _ ?side1 ?side2 ?side3 ?side4 A28.out).mono ?_
      (case side1 => repeat (first | exact (Kd.N_reads' HO346.out).2.2 | (with_reducible refine cA ?_ _) | (with_reducible refine cN ?_ _) | (with_reducible refine cD ?_)))
      (case side2 => exact (Kd.N_reads' HO346.out).2.1)
      (case side3 => repeat (first | exact (Kd.R_reads' HO350.out).2.2 | (with_reducible refine cA ?_ _) | (with_reducible refine cN ?_ _) | (with_reducible refine cD ?_)))
      (case side4 => exact (Kd.R_reads' HO350.out).2.1)
      rintro e w40 ⟨v353, rfl, ho0, hb⟩
      refine ⟨_, rfl, ?_⟩
      replace HO_337001 := zK (Kd.V_elder' (zv HO_337001) (Kd.R_base ho0) hb)
      replace HO346 := zK (Kd.N_elder' (zn HO346) (Kd.R_base ho0) hb)
      replace HO350 := zK (Kd.R_below (zr HO350) hb)
      have HO354 := zK (Kd.R_lower (Kd.R_newM (M := fun k_ => (w.heap.size ≤ k_)) ho0 (below_size (zo HB)) (fun k_ h_ => h_)) (below_size (zo HB)))
      replace BK335 := zK (blk_below (g := gb335) (o := .cells #[.int .i64 a0_0, .slice A0_1 l0_1.length c0_1] 28 (0, 0)) (zb BK335) hb)
      replace BK336 := zK (blk_below (g := gb336) (o := .cells #[.int .i64 a2_0, .slice A2_1 l2_1.length c2_1] 28 (0, 0)) (zb BK336) hb)
      replace BK337 := zK (blk_below (g := gb337) (o := .cells #[.int .i64 0, .slice none 0 0] 28 (0, 0)) (zb BK337) hb)
      replace HB := zK (below_step (zo HB) hb)
      (try clear hb)
      (try clear hb2)
      (try clear hk)
      (try clear hi)
      (try clear ho0)
      refine hK.out _ _ ⟨v342, .slice Ao38 y344.length co38, .slice Ao39 y348.length co39, v353, m2_, (.tuple #[.agg #[.int .i64 t351, v353], .int .i64 t355]), m10_, (by rw [ha.out]; exact putSel_upk 7 hb_ rfl rfl rfl), (by (with_reducible repeat (first | apply vA | apply vN | apply vD)); exact vM HO_337001.out (fun _ hk => by simp only [ne_eq] at hk ⊢; simp only [hk, not_false_eq_true, and_self, or_true, true_or])), (zb BK335), (zb BK336), fun _ => (zb BK337), (zo HB), fun _ h1_ => absurd ((hon 4 (by kernel_rfl)).symm.trans h1_) (by decide), fun _ => (by (with_reducible repeat (first | apply nA | apply nN | apply nD)); exact Kd.N_mono HO346.out (fun _ hk => by simp only [ne_eq] at hk ⊢; simp only [hk, not_false_eq_true, and_self, or_true, true_or])), fun _ => (zr HO350), fun _ => (by (with_reducible repeat (first | apply Kd.R_alloc | apply Kd.R_drewN | apply Kd.R_drew)); exact Kd.R_mono HO354.out (fun _ hk => hk.1)), fun h0_ => absurd ((hoff 12 (by kernel_rfl)).symm.trans h0_) (by decide), Q_X2_, fun _ => rfl, fun h0_ => absurd ((hoff 10 (by kernel_rfl)).symm.trans h0_) (by decide)⟩
     refine steps_cons ?_ ?_
     ·rintro b a w' ⟨v342, v345, v349, v353, m2_, m9_, m10_, ha, Q_HO_337001, Q_BK335, Q_BK336, Q_BK337, Q_HB, Q_HO343, Q_HO346, Q_HO350, Q_HO354, Q_BK337_e12, Q_X2_, Q_X9_, Q_X10_⟩ hb_ hon hoff
      refine ⟨_, rfl, fun K hK => ?_⟩
      have e26 : a.tmps[26]? = some (m9_) := by rw [ha]; exact putSel_on (e := (9, 26, m9_)) 7 rfl rfl (hon 9 (by kernel_rfl)) rfl
      rw [Q_X9_ (hon 9 (by kernel_rfl))] at e26
      replace ha := zK ha
      have HO_337001 := zK Q_HO_337001
      have BK335 := zK Q_BK335
      have BK336 := zK Q_BK336
      have BK337 := zK (Q_BK337 (hoff 12 (by kernel_rfl)))
      have HB := zK Q_HB
      have HO346 := zK (Q_HO346 (hon 4 (by kernel_rfl)))
      have HO350 := zK (Q_HO350 (hon 8 (by kernel_rfl)))
      have HO354 := zK (Q_HO354 (hon 9 (by kernel_rfl)))
      refine value_ (w1 := w') (v := .agg #[.int .i64 t351, v353]) (by rfl) rfl ?_ ?_
      ·go_simp
       (try simp only [i64_w])
       try rfl
      refine hK.out _ _ ⟨v342, v345, v349, v353, m2_, m9_, (.agg #[.int .i64 t351, v353]), (by rw [ha.out]; exact putSel_upk 8 hb_ rfl rfl rfl), Q_HO_337001, Q_BK335, Q_BK336, Q_BK337, Q_HB, fun _ h1_ => absurd ((hon 4 (by kernel_rfl)).symm.trans h1_) (by decide), Q_HO346, Q_HO350, Q_HO354, fun h0_ => absurd ((hoff 12 (by kernel_rfl)).symm.trans h0_) (by decide), Q_X2_, Q_X9_, fun _ => rfl⟩
     refine steps_cons ?_ ?_
     ·rintro b a w' ⟨v342, v345, v349, v353, m2_, m9_, m10_, ha, Q_HO_337001, Q_BK335, Q_BK336, Q_BK337, Q_HB, Q_HO343, Q_HO346, Q_HO350, Q_HO354, Q_BK337_e12, Q_X2_, Q_X9_, Q_X10_⟩ hb_ hon hoff
      refine ⟨_, rfl, fun K hK => ?_⟩
      have e26 : a.tmps[26]? = some (m9_) := by rw [ha]; exact putSel_on (e := (9, 26, m9_)) 7 rfl rfl (hon 9 (by kernel_rfl)) rfl
      rw [Q_X9_ (hon 9 (by kernel_rfl))] at e26
      replace ha := zK ha
      have HO_337001 := zK Q_HO_337001
      have BK335 := zK Q_BK335
      have BK336 := zK Q_BK336
      have BK337 := zK (Q_BK337 (hoff 12 (by kernel_rfl)))
      have HB := zK Q_HB
      have HO346 := zK (Q_HO346 (hon 4 (by kernel_rfl)))
      have HO350 := zK (Q_HO350 (hon 8 (by kernel_rfl)))
      have HO354 := zK (Q_HO354 (hon 9 (by kernel_rfl)))
      refine value_ (w1 := w') (v := .int .i64 t355) (by rfl) rfl ?_ ?_
      ·go_simp
       (try simp only [i64_w])
       try rfl
      refine hK.out _ _ ⟨v342, v345, v349, v353, m2_, m9_, m10_, (by rw [ha.out]; exact putSel_upk 9 hb_ rfl rfl rfl), Q_HO_337001, Q_BK335, Q_BK336, Q_BK337, Q_HB, fun _ h1_ => absurd ((hon 4 (by kernel_rfl)).symm.trans h1_) (by decide), Q_HO346, Q_HO350, Q_HO354, fun h0_ => absurd ((hoff 12 (by kernel_rfl)).symm.trans h0_) (by decide), Q_X2_, Q_X9_, Q_X10_⟩
     refine steps_cons ?_ ?_
     ·rintro b a w' ⟨v342, v345, v349, v353, m2_, m9_, m10_, ha, Q_HO_337001, Q_BK335, Q_BK336, Q_BK337, Q_HB, Q_HO343, Q_HO346, Q_HO350, Q_HO354, Q_BK337_e12, Q_X2_, Q_X9_, Q_X10_⟩ hb_ hon hoff
      refine ⟨_, rfl, fun K hK => ?_⟩
      have e6 : a.tmps[6]? = some (.pointer (some ⟨gb337, 0, none⟩)) := by rw [ha]; exact (putSel_off rfl).trans rfl
      have e27 : a.tmps[27]? = some (m10_) := by rw [ha]; exact putSel_on (e := (10, 27, m10_)) 8 rfl rfl (hon 10 (by kernel_rfl)) rfl
      rw [Q_X10_ (hon 10 (by kernel_rfl))] at e27
      replace ha := zK ha
      have HO_337001 := zK Q_HO_337001
      have BK335 := zK Q_BK335
      have BK336 := zK Q_BK336
      have BK337 := zK (Q_BK337 hb_)
      have HB := zK Q_HB
      have HO346 := zK (Q_HO346 (hon 4 (by kernel_rfl)))
      have HO350 := zK (Q_HO350 (hon 8 (by kernel_rfl)))
      have HO354 := zK (Q_HO354 (hon 9 (by kernel_rfl)))
      obtain ⟨Ao42, co42, eo42⟩ := Kd.R_slice HO354.out
      (first | subst eo42 | (injection eo42 with f1_ f2_ f3_; have f4_ := f1_.symm; have f5_ := f3_.symm; clear f1_ f2_ f3_; subst f4_; subst f5_))
      have hs41 : w'.cell? ⟨gb337, 0, none⟩ = some (.int .i64 0) := (blk_cell BK337.out 0).trans rfl
      have hfs41 := blk_frozen BK337.out 0
      have hns41_0 := NB335_337.out
      have hns41_1 := NB336_337.out
      have hms41_0 := NB337_335.out
      have hms41_1 := NB337_336.out
      have hs43 : w'.cell? ⟨gb337, 1, none⟩ = some (.slice none 0 0) := (blk_cell BK337.out 1).trans rfl
      have hfs43 := blk_frozen BK337.out 1
      have hns43_0 := NB335_337.out
      have hns43_1 := NB336_337.out
      have hms43_0 := NB337_335.out
      have hms43_1 := NB337_336.out
      refine skip_ (w1 := ?_) (by rfl) rfl ?_ ?_
      rotate_left
      ·go_simp
       rfl
      refine hK.out _ _ ⟨v342, v345, v349, .slice Ao42 t352.length co42, m2_, m9_, m10_, (by rw [ha.out]; exact putSel_none (v := undef) rfl), (by (with_reducible repeat (first | apply vA | apply vN | apply vD)); exact vM (vF (p := ⟨gb337, 1, none⟩) (vF (p := ⟨gb337, 0, none⟩) (vM HO_337001.out (fun k_ hk => (⟨hk, by simp only [ne_eq] at hk ⊢; simp only [hk, not_false_eq_true]⟩ : _ ∧ k_ ≠ gb337))) (fun _ hk => hk.2) (.int .i64 t351)) (fun _ hk => hk.2) (.slice Ao42 t352.length co42)) (fun _ hk => by simp only [ne_eq] at hk ⊢; simp only [hk, not_false_eq_true, and_self, or_true, true_or])), (zb BK335), (zb BK336), fun h0_ => absurd ((up_self b 12).symm.trans h0_) (by decide), (zo HB), fun _ h1_ => absurd ((hon 4 (by kernel_rfl)).symm.trans h1_) (by decide), fun _ => (by (with_reducible repeat (first | apply nA | apply nN | apply nD)); exact Kd.N_mono (Kd.N_far (p := ⟨gb337, 1, none⟩) (Kd.N_far (p := ⟨gb337, 0, none⟩) (Kd.N_mono HO346.out (fun k_ hk => (⟨hk, by simp only [ne_eq] at hk ⊢; simp only [hk, not_false_eq_true]⟩ : _ ∧ k_ ≠ gb337))) (fun _ hk => hk.2) (.int .i64 t351)) (fun _ hk => hk.2) (.slice Ao42 t352.length co42)) (fun _ hk => by simp only [ne_eq] at hk ⊢; simp only [hk, not_false_eq_true, and_self, or_true, true_or])), fun _ => (by (with_reducible repeat (first | apply Kd.R_alloc | apply Kd.R_drewN | apply Kd.R_drew)); exact Kd.R_mono (Kd.R_far (p := ⟨gb337, 1, none⟩) (Kd.R_far (p := ⟨gb337, 0, none⟩) (Kd.R_types HO350.out BK337.out (by decide)) (fun _ hk => hk.2) (.int .i64 t351)) (fun _ hk => hk.2) (.slice Ao42 t352.length co42)) (fun _ hk => hk.1)), fun _ => (by (with_reducible repeat (first | apply Kd.R_alloc | apply Kd.R_drewN | apply Kd.R_drew)); exact Kd.R_mono (Kd.R_far (p := ⟨gb337, 1, none⟩) (Kd.R_far (p := ⟨gb337, 0, none⟩) (Kd.R_types HO354.out BK337.out (by decide)) (fun _ hk => hk.2) (.int .i64 t351)) (fun _ hk => hk.2) (.slice Ao42 t352.length co42)) (fun _ hk => hk.1)), fun _ => (by refine zM ?_; refine blk_put (cs := #[.int .i64 t351, .slice none 0 0]) ?_ 1 _ rfl; refine zM ?_; refine blk_put (cs := #[.int .i64 0, .slice none 0 0]) ?_ 0 _ rfl; refine zM ?_; exact BK337.out), Q_X2_, Q_X9_, Q_X10_⟩
     refine steps_cons ?_ ?_
     ·rintro b a w' ⟨v342, v345, v349, v353, m2_, m9_, m10_, ha, Q_HO_337001, Q_BK335, Q_BK336, Q_BK337, Q_HB, Q_HO343, Q_HO346, Q_HO350, Q_HO354, Q_BK337_e12, Q_X2_, Q_X9_, Q_X10_⟩ hb_ hon hoff
      refine ⟨_, rfl, fun K hK => ?_⟩
      have e28 : a.tmps[28]? = some (.int .i64 t355) := by rw [ha]; exact putSel_on (e := (11, 28, .int .i64 t355)) 9 rfl rfl (hon 11 (by kernel_rfl)) rfl
      replace ha := zK ha
      have HO_337001 := zK Q_HO_337001
      have BK335 := zK Q_BK335
      have BK336 := zK Q_BK336
      have HB := zK Q_HB
      have HO346 := zK (Q_HO346 (hon 4 (by kernel_rfl)))
      have HO350 := zK (Q_HO350 (hon 8 (by kernel_rfl)))
      have HO354 := zK (Q_HO354 (hon 9 (by kernel_rfl)))
      have BK337 := zK (Q_BK337_e12 (hon 12 (by kernel_rfl)))
      refine value_ (w1 := w') (v := .int .i64 t355) (by rfl) rfl ?_ ?_
      ·go_simp
       (try simp only [i64_w])
       try rfl
      refine hK.out _ _ ⟨v342, v345, v349, v353, m2_, m9_, m10_, (by rw [ha.out]; exact putSel_upk 10 hb_ rfl rfl rfl), Q_HO_337001, Q_BK335, Q_BK336, fun h0_ => absurd ((hon 12 (by kernel_rfl)).symm.trans h0_) (by decide), Q_HB, fun _ h1_ => absurd ((hon 4 (by kernel_rfl)).symm.trans h1_) (by decide), Q_HO346, Q_HO350, Q_HO354, Q_BK337_e12, Q_X2_, Q_X9_, Q_X10_⟩
     exact steps_nil
    rintro b a w43 hall ⟨v342, v345, v349, v353, m2_, m9_, m10_, ha, Q_HO_337001, Q_BK335, Q_BK336, Q_BK337, Q_HB, Q_HO343, Q_HO346, Q_HO350, Q_HO354, Q_BK337_e12, Q_X2_, Q_X9_, Q_X10_⟩
    clear BK335 BK336 BK337 HB HO_337001
    have hb0_ := hall 0 (by kernel_rfl)
    have hb2_ := hall 2 (by kernel_rfl)
    have hb3_ := hall 3 (by kernel_rfl)
    have hb4_ := hall 4 (by kernel_rfl)
    have hb5_ := hall 5 (by kernel_rfl)
    have hb7_ := hall 7 (by kernel_rfl)
    have hb8_ := hall 8 (by kernel_rfl)
    have hb9_ := hall 9 (by kernel_rfl)
    have hb10_ := hall 10 (by kernel_rfl)
    have hb11_ := hall 11 (by kernel_rfl)
    have hb12_ := hall 12 (by kernel_rfl)
    have hb13_ := hall 13 (by kernel_rfl)
    subst ha
    obtain rfl := Q_X2_ hb2_
    obtain rfl := Q_X9_ hb9_
    obtain rfl := Q_X10_ hb10_
    simp only [putSel, hb0_, hb2_, hb3_, hb4_, hb5_, hb7_, hb8_, hb9_, hb10_, hb11_, hb12_, hb13_, if_true, Act.put, List.setIfInBounds_toArray, List.set_cons_zero, List.set_cons_succ]
    have HO_337001 := zK Q_HO_337001
    clear Q_HO_337001
    have BK335 := zK Q_BK335
    clear Q_BK335
    have BK336 := zK Q_BK336
    clear Q_BK336 Q_BK337
    have HB := zK Q_HB
    clear Q_HB Q_HO343
    have HO346 := zK (Q_HO346 hb4_)
    clear Q_HO346
    have HO350 := zK (Q_HO350 hb8_)
    clear Q_HO350
    have HO354 := zK (Q_HO354 hb9_)
    clear Q_HO354
    have BK337 := zK (Q_BK337_e12 hb12_)
    clear Q_BK337_e12 hall hb0_ hb2_ hb3_ hb4_ hb5_ hb7_ hb8_ hb9_ hb10_ hb11_ hb12_ hb13_
    try go_wp2
    refine bodyPost_ret (results_ct rfl _ _ gb337 28 #[.int .i64 t351, v353] (0, 0) _ rfl (zb BK337) Tryd.underlying28 rfl (by kernel_rfl)) rfl ?_
    exact ⟨_, by first | rfl | (simp [errW_none, errW_some] <;> rfl) | (simp [*, errW_none, errW_some] <;> rfl), by (with_reducible repeat (first | apply Kd.R_alloc | apply Kd.R_drewN | apply Kd.R_drew)); exact HO354.out, zo HB⟩

end Go.Proofs.YtmedciidghmkkaaDoor.PLinPuts
