/- What the call of each function that the law reaches comes to: it answers as the plain function of the same name does, wherever that one answers; and the law itself out of its plain form. Written by a program of this session (an extended copy of the printer); no condition but what stands in each theorem. -/
import Derived.Test.YtkfbfgkdabljiaaPShadowBetweenx0
import Derived.Test.YtkfbfgkdabljiaaPShadowBetweenx1
import Derived.Test.YtkfbfgkdabljiaaPShadowBetweenx2
import Derived.Test.YtkfbfgkdabljiaaPShadowBetweenx5
namespace Go.Proofs.Ytkfbfgkdabljiaa.PShadowBetween
open Go.RowKit Go.Proofs.YtkfbfgkdabljiaaW.PrintWords Go.Proofs.YtkfbfgkdabljiaaW.PrintLast Go.Proofs.YtkfbfgkdabljiaaW.PrintMore
open Go.Proofs.YtkfbfgkdabljiaaW.PrintWords renaming blk_drewN → zN, blk_drew → zD, blk_alloc → zA, below_alloc → yA, pw_below_drewN → yN, below_drew1 → yD, below_set → yS, gate_callee → zC
open Go.Proofs.YtkfbfgkdabljiaaW.PrintWords.Kd renaming C_alloc → cA, C_drewN → cN, C_drew → cD
open Go.Proofs.YtkfbfgkdabljiaaW.PrintWords.Aside0 renaming mk → zK
attribute [local go_sem] max2_int min2_int max_two min_two max_three min_three max_four min_four   -- for this text's walks alone
set_option linter.unusedVariables false
set_option linter.unusedSimpArgs false

/-! ### shadow_rest: function 58 -/
def shadow_rest.l0 : Nat → Int → List (S68) → Int → Int → Int → List (S68) → Option (Int × (List (S68)))
 | 0, _, _, _, _, _, _ => none
 | k + 1, x1, x12, x13, x14, x213000, x213001 => if x14 < x13 then (if 0 ≤ x14 then (if x14 < (x12.length : Int) then (if ((rd_T68 x12 x14).f0) = x1 then (shadow_rest.l0 k x1 x12 x13 (wrap64 (x14 + 1)) x213000 x213001) else (if x213001.length < 8796093022208 then (shadow_rest.l0 k x1 x12 x13 (wrap64 (x14 + 1)) x213000 (x213001 ++ [(⟨(rd_T68 x12 x14).f0, (rd_T68 x12 x14).f1⟩ : S68)])) else (none))) else (none)) else (none)) else (some (x213000, x213001))
def shadow_rest.f (k : Nat) (a0_0 : Int) (l0_1 : List (S68)) (a1 : Int) : Option (Int × (List (S68))) := shadow_rest.l0 k a1 l0_1 (l0_1.length : Int) 0 a0_0 ([] : List (S68))
theorem shadow_rest.mono_l : ∀ k, (∀ y0 y1 y2 y3 y4 y5, LeO (shadow_rest.l0 k y0 y1 y2 y3 y4 y5) (shadow_rest.l0 (k + 1) y0 y1 y2 y3 y4 y5))
 | 0 => fun _ _ _ _ _ _ r h => by simp [shadow_rest.l0] at h
 | k + 1 => by
  have ih0 := shadow_rest.mono_l k
  ·intro y0 y1 y2 y3 y4 y5
   unfold shadow_rest.l0
   repeat' first
   | (with_reducible exact ih0 _ _ _ _ _ _)
   | (with_reducible exact LeO.refl _)
   | (with_reducible exact LeO.none _)
   | (with_reducible refine LeO.ite ?_ ?_)
   | (with_reducible refine LeO.bind ?_ (fun _ => ?_))
   | exact ih0 _ _ _ _ _ _
   | exact LeO.none _
   | refine LeO.ite ?_ ?_
   | refine LeO.bind ?_ (fun _ => ?_)
theorem shadow_rest.mono : ∀ a0 a1 a2 k, LeO (shadow_rest.f k a0 a1 a2) (shadow_rest.f (k + 1) a0 a1 a2) := by
 intro a0 a1 a2 k
 have ih0 := shadow_rest.mono_l k
 unfold shadow_rest.f
 repeat' first
   | (with_reducible exact ih0 _ _ _ _ _ _)
   | (with_reducible exact LeO.refl _)
   | (with_reducible exact LeO.none _)
   | (with_reducible refine LeO.ite ?_ ?_)
   | (with_reducible refine LeO.bind ?_ (fun _ => ?_))
   | exact ih0 _ _ _ _ _ _
   | exact LeO.none _
   | refine LeO.ite ?_ ?_
   | refine LeO.bind ?_ (fun _ => ?_)
set_option maxHeartbeats 8000000 in
set_option maxRecDepth 100000 in
theorem shadow_rest.calls (k : Nat) (a0_0 : Int) (A0_1 : Option Addr) (c0_1 : Nat) (l0_1 : List (S68)) (a1 : Int) (r1 : Int) (r2 : List (S68)) (w : World) (hr0_1 : Kd.C k68 w A0_1 l0_1.length l0_1) (hc0_1 : l0_1.length ≤ c0_1) (h : shadow_rest.f k a0_0 l0_1 a1 = some (r1, r2)) :
  Calls Try.prog 58 #[.agg #[.int .i64 a0_0, .slice A0_1 l0_1.length c0_1], .int .i64 a1] w fun e w' => ∃ v1_ : Value, e = .returned (.agg #[.int .i64 r1, v1_]) ∧ Kd.R k68 68 w' w.heap.size (fun _ => True) v1_ r2 ∧ Below w.heap.size w w' := by
 have hu62 := Try.underlying62
 have hu68 := Try.underlying68
 have HR0_1 := zK hr0_1
 have HC0_1 := zK hc0_1; clear hr0_1 hc0_1
 have HB := zK (Below.refl w.heap.size w)
 have H : (shadow_rest.l0 k a1 l0_1 (l0_1.length : Int) 0 a0_0 ([] : List (S68))) = some (r1, r2) := h
 clear h
 have H' := zK H; clear H
 go_enter Try.func58, Try.ntmps58
 go_wp2_with (first | ((with_reducible refine gate_dst (N := 2) rfl ?_); refine box_event ?hg (N := 2) ?hd (cs := #[.int .i64 a0_0, .slice A0_1 l0_1.length c0_1]) (t := 62) ?hr ?_; (case hd => rfl); (case hg => rfl); (case hr => first | (go_simp; done) | (go_simp; rfl)); intro gb210 hg w3 hbox hb; have BK210 := zK (hbox); have GW210 := zK ((by rw [hg]; exact (below_size (zo HB)) : w.heap.size ≤ gb210)); have GE210 := zK ((by rw [hg]; exact (below_size (zo HB)) : w.heap.size ≤ gb210)); replace HB := zK (below_step (zo HB) hb); clear hb hbox hg) | ((with_reducible refine gate_dst (N := 4) rfl ?_); refine box_event ?hg (N := 4) ?hd (cs := #[.int .i64 0, .slice none 0 0]) (t := 62) ?hr ?_; (case hd => rfl); (case hg => rfl); (case hr => first | (go_simp; done) | (go_simp; rfl)); intro gb211 hg w4 hbox hb; have BK211 := zK (hbox); have GW211 := zK ((by rw [hg]; exact (below_size (zo HB)) : w.heap.size ≤ gb211)); have GE211 := zK ((by rw [hg]; exact (below_size (zo HB)) : w.heap.size ≤ gb211)); replace HB := zK (below_step (zo HB) hb); have NB210_211 := zK ((by rw [hg]; exact Nat.ne_of_lt (blk_lt (g := gb210) (o := .cells #[.int .i64 a0_0, .slice A0_1 l0_1.length c0_1] 62 (0, 0)) (zb BK210)) : gb210 ≠ gb211)); have NB211_210 := zK ((by rw [hg]; exact Nat.ne_of_gt (blk_lt (g := gb210) (o := .cells #[.int .i64 a0_0, .slice A0_1 l0_1.length c0_1] 62 (0, 0)) (zb BK210)) : gb211 ≠ gb210)); replace BK210 := zK (blk_below (g := gb210) (o := .cells #[.int .i64 a0_0, .slice A0_1 l0_1.length c0_1] 62 (0, 0)) (zb BK210) hb); clear hb hbox hg; have hnb5 := NB210_211.out; have hnc5 := NB211_210.out; have hcz6_0 : w4.cell? ⟨gb210, 0, none⟩ = some (.int .i64 a0_0) := (blk_cell BK210.out 0).trans rfl; have hcz6_1 : w4.cell? ⟨gb210, 1, none⟩ = some (.slice A0_1 l0_1.length c0_1) := (blk_cell BK210.out 1).trans rfl; have hfz6_0 := blk_frozen BK210.out 0; have hfz6_1 := blk_frozen BK210.out 1) | ((with_reducible refine gate_dst (N := 5) rfl ?_); refine box_event ?hg (N := 5) ?hd (cs := #[.int .i64 0, .slice none 0 0]) (t := 62) ?hr ?_; (case hd => rfl); (case hg => rfl); (case hr => first | (go_simp; done) | (go_simp; rfl)); intro gb212 hg w7 hbox hb; have BK212 := zK (hbox); have GW212 := zK ((by rw [hg]; exact (below_size (zo HB)) : w.heap.size ≤ gb212)); have GE212 := zK ((by rw [hg]; exact (below_size (zo HB)) : w.heap.size ≤ gb212)); replace HB := zK (below_step (zo HB) hb); have NB210_212 := zK ((by rw [hg]; exact Nat.ne_of_lt (blk_lt (g := gb210) (o := .cells #[.int .i64 a0_0, .slice A0_1 l0_1.length c0_1] 62 (0, 0)) (zb BK210)) : gb210 ≠ gb212)); have NB212_210 := zK ((by rw [hg]; exact Nat.ne_of_gt (blk_lt (g := gb210) (o := .cells #[.int .i64 a0_0, .slice A0_1 l0_1.length c0_1] 62 (0, 0)) (zb BK210)) : gb212 ≠ gb210)); replace BK210 := zK (blk_below (g := gb210) (o := .cells #[.int .i64 a0_0, .slice A0_1 l0_1.length c0_1] 62 (0, 0)) (zb BK210) hb); have NB211_212 := zK ((by rw [hg]; exact Nat.ne_of_lt (blk_lt (g := gb211) (o := .cells #[.int .i64 0, .slice none 0 0] 62 (0, 0)) (zb BK211)) : gb211 ≠ gb212)); have NB212_211 := zK ((by rw [hg]; exact Nat.ne_of_gt (blk_lt (g := gb211) (o := .cells #[.int .i64 0, .slice none 0 0] 62 (0, 0)) (zb BK211)) : gb212 ≠ gb211)); replace BK211 := zK (blk_below (g := gb211) (o := .cells #[.int .i64 0, .slice none 0 0] 62 (0, 0)) (zb BK211) hb); clear hb hbox hg; have hnb8 := NB212_210.out; have hnc8 := NB210_212.out; have hnb9 := NB212_211.out; have hnc9 := NB211_212.out; have hcz10_0 : w7.cell? ⟨gb212, 0, none⟩ = some (.int .i64 0) := (blk_cell BK212.out 0).trans rfl; have hcz10_1 : w7.cell? ⟨gb212, 1, none⟩ = some (.slice none 0 0) := (blk_cell BK212.out 1).trans rfl; have hfz10_0 := blk_frozen BK212.out 0; have hfz10_1 := blk_frozen BK212.out 1; have hcz11_0 : w7.cell? ⟨gb210, 0, none⟩ = some (.int .i64 a0_0) := (blk_cell BK210.out 0).trans rfl; have hcz11_1 : w7.cell? ⟨gb210, 1, none⟩ = some (.slice A0_1 l0_1.length c0_1) := (blk_cell BK210.out 1).trans rfl; have hfz11_0 := blk_frozen BK210.out 0; have hfz11_1 := blk_frozen BK210.out 1))
 go_loopg [14] k (fun kq v14 w' => ∃ (x14_1 : Int) (x213001_1 : List (S68)) (u213001 : Value), v14 = .int .i64 x14_1 ∧ Aside0 (shadow_rest.l0 kq a1 l0_1 (l0_1.length : Int) x14_1 a0_0 x213001_1 = some (r1, r2)) ∧ Aside0 (kq ≤ k) ∧ Aside0 (Kd.R k68 68 w' w.heap.size (fun _ => True) u213001 x213001_1) ∧ Aside0 (w'.heap[gb210]? = some (.cells #[.int .i64 a0_0, (.slice A0_1 l0_1.length c0_1)] 62 (0, 0))) ∧ Aside0 (w'.heap[gb211]? = some (.cells #[.int .i64 0, (.slice none 0 0)] 62 (0, 0))) ∧ Aside0 (w'.heap[gb212]? = some (.cells #[.int .i64 a0_0, u213001] 62 (0, 0))) ∧ Aside0 (Below w.heap.size w w'))
 case atStart => exact ⟨(0), (([] : List (S68))), (.slice none 0 0), (by first | rfl | (simp; done) | (simp [*]; done)), H', ⟨Nat.le_refl _⟩, ⟨by first | exact Kd.R_nil _ _ _ _ _ | exact Kd.N_nil _ _ _ _ _ | exact Kd.V_nil _ _ _ _ _ | exact Kd.Q_nil _ _ _ _ _ | exact Kd.S_nil _ _ _ _ _⟩, ⟨zb BK210⟩, ⟨zb BK211⟩, ⟨by refine zM ?_; refine blk_put (cs := #[.int .i64 a0_0, .slice none 0 0]) ?_ 1 _ rfl; refine zM ?_; refine blk_put (cs := #[.int .i64 0, .slice none 0 0]) ?_ 0 _ rfl; refine zM ?_; exact BK212.out⟩, ⟨zo HB⟩⟩
 case round =>
  clear H'; try clear p2; try clear c5; try clear c8
  try clear c9; try clear hcz10_0; try clear hcz10_1; try clear hcz11_0
  try clear hcz11_1; try clear hcz6_0; try clear hcz6_1; try clear hfz10_0
  try clear hfz10_1; try clear hfz11_0; try clear hfz11_1; try clear hfz6_0
  try clear hfz6_1
  obtain ⟨x14_1, x213001_1, u213001, rfl, HA, HK1, HO_213001, BK210, BK211, BK212, HB⟩ := hrel
  cases gk with
  | zero => exact absurd HA.out (by simp [shadow_rest.l0])
  | succ k1 =>
   have H := HA.out; clear HA
   simp only [shadow_rest.l0] at H
   by_cases c12 : x14_1 < (l0_1.length : Int)
   ·rw [if_pos c12] at H
    have c12b0 : decide (x14_1 < (l0_1.length : Int)) = true := decide_eq_true c12
    clear c12
    by_cases c13 : 0 ≤ x14_1
    ·rw [if_pos c13] at H
     have c13b0 : decide (0 ≤ x14_1) = true := decide_eq_true c13; clear c13
     by_cases c14 : x14_1 < (l0_1.length : Int)
     ·rw [if_pos c14] at H
      have c14b0 : decide (x14_1 < (l0_1.length : Int)) = true := decide_eq_true c14
      clear c14
      by_cases c15 : ((rd_T68 l0_1 x14_1).f0) = a1
      ·rw [if_pos c15] at H
       have c15b0 : (((rd_T68 l0_1 x14_1).f0) == a1) = true := beq_iff_eq.mpr c15
       have c15b1 : (((rd_T68 l0_1 x14_1).f0) != a1) = false := bne_eq_false_iff_eq.mpr c15
       clear c15
       have H' := zK H; clear H
       have p213 : 0 ≤ (x14_1 : Int) := of_decide_eq_true (by first | (with_reducible assumption) | assumption)
       have q213 : x14_1 < (l0_1.length : Int) := of_decide_eq_true (by first | (with_reducible assumption) | assumption)
       obtain ⟨ad213, e213, hx213_0, hx213_1⟩ := at_T68 HR0_1.out x14_1 p213 q213
       cases e213
       replace hx213_0 := (HB.out.cell (World.block_lt_of_cell? w _ hx213_0)).trans hx213_0
       replace hx213_1 := (HB.out.cell (World.block_lt_of_cell? w _ hx213_1)).trans hx213_1
       replace p213 := eq_true p213
       replace q213 := eq_true q213
       go_wp2_with (first | ((with_reducible refine gate_dst (N := 7) rfl ?_); refine box_event ?hg (N := 7) ?hd (cs := #[.int .i64 0, .int .i64 0]) (t := 68) ?hr ?_; (case hd => rfl); (case hg => rfl); (case hr => first | (go_simp; done) | (go_simp; rfl)); intro gb214 hg w16 hbox hb; replace HO_213001 := zK (Kd.R_below (Kd.R_elderB (zr HO_213001) gb214 (Nat.le_of_eq hg.symm)) hb); have BK214 := zK (hbox); have GW214 := zK ((by rw [hg]; exact (below_size (zo HB)) : w.heap.size ≤ gb214)); have GE214 := zK ((by rw [hg]; exact (below_size (zo HB)) : w.heap.size ≤ gb214)); replace HB := zK (below_step (zo HB) hb); have NB210_214 := zK ((by rw [hg]; exact Nat.ne_of_lt (blk_lt (g := gb210) (o := .cells #[.int .i64 a0_0, .slice (some ad213) l0_1.length c0_1] 62 (0, 0)) (zb BK210)) : gb210 ≠ gb214)); have NB214_210 := zK ((by rw [hg]; exact Nat.ne_of_gt (blk_lt (g := gb210) (o := .cells #[.int .i64 a0_0, .slice (some ad213) l0_1.length c0_1] 62 (0, 0)) (zb BK210)) : gb214 ≠ gb210)); replace BK210 := zK (blk_below (g := gb210) (o := .cells #[.int .i64 a0_0, .slice (some ad213) l0_1.length c0_1] 62 (0, 0)) (zb BK210) hb); have NB211_214 := zK ((by rw [hg]; exact Nat.ne_of_lt (blk_lt (g := gb211) (o := .cells #[.int .i64 0, .slice none 0 0] 62 (0, 0)) (zb BK211)) : gb211 ≠ gb214)); have NB214_211 := zK ((by rw [hg]; exact Nat.ne_of_gt (blk_lt (g := gb211) (o := .cells #[.int .i64 0, .slice none 0 0] 62 (0, 0)) (zb BK211)) : gb214 ≠ gb211)); replace BK211 := zK (blk_below (g := gb211) (o := .cells #[.int .i64 0, .slice none 0 0] 62 (0, 0)) (zb BK211) hb); have NB212_214 := zK ((by rw [hg]; exact Nat.ne_of_lt (blk_lt (g := gb212) (o := .cells #[.int .i64 a0_0, u213001] 62 (0, 0)) (zb BK212)) : gb212 ≠ gb214)); have NB214_212 := zK ((by rw [hg]; exact Nat.ne_of_gt (blk_lt (g := gb212) (o := .cells #[.int .i64 a0_0, u213001] 62 (0, 0)) (zb BK212)) : gb214 ≠ gb212)); replace BK212 := zK (blk_below (g := gb212) (o := .cells #[.int .i64 a0_0, u213001] 62 (0, 0)) (zb BK212) hb); clear hb hbox hg; have hnb17 := NB214_210.out; have hnc17 := NB210_214.out; have hnb18 := NB214_211.out; have hnc18 := NB211_214.out; have hnb19 := NB214_212.out; have hnc19 := NB212_214.out; have hcz20_0 : w16.cell? ⟨gb214, 0, none⟩ = some (.int .i64 0) := (blk_cell BK214.out 0).trans rfl; have hcz20_1 : w16.cell? ⟨gb214, 1, none⟩ = some (.int .i64 0) := (blk_cell BK214.out 1).trans rfl; have hfz20_0 := blk_frozen BK214.out 0; have hfz20_1 := blk_frozen BK214.out 1))
       go_roundg k1
       case measure => have := HK1.out; omega
       case rel => exact ⟨(wrap64 (x14_1 + 1)), (x213001_1), (u213001), (by first | rfl | (simp; done) | (simp [*]; done)), H', ⟨by have := HK1.out; omega⟩, ⟨by (with_reducible repeat (first | apply Kd.R_alloc | apply Kd.R_drewN | apply Kd.R_drew)); exact Kd.R_mono (Kd.R_far (p := ⟨gb214, 1, none⟩) (Kd.R_far (p := ⟨gb214, 0, none⟩) (Kd.R_mono HO_213001.out (fun k_ hk => (⟨hk, hk.2⟩ : _ ∧ k_ ≠ gb214))) (fun _ hk => hk.2) (.int .i64 ((rd_T68 l0_1 x14_1).f0))) (fun _ hk => hk.2) (.int .i64 ((rd_T68 l0_1 x14_1).f1))) (fun _ hk => trivial)⟩, ⟨zb BK210⟩, ⟨zb BK211⟩, ⟨zb BK212⟩, ⟨zo HB⟩⟩
      ·rw [if_neg c15] at H
       have c15b0 : (((rd_T68 l0_1 x14_1).f0) == a1) = false := beq_eq_false_iff_ne.mpr c15
       have c15b1 : (((rd_T68 l0_1 x14_1).f0) != a1) = true := bne_iff_ne.mpr c15
       by_cases c21 : x213001_1.length < 8796093022208
       ·rw [if_pos c21] at H
        have LMc21 := zK c21; clear c21
        obtain ⟨y215, hy215⟩ : ∃ y_ : List (S68), y_ = (x213001_1 ++ [(⟨(rd_T68 l0_1 x14_1).f0, (rd_T68 l0_1 x14_1).f1⟩ : S68)]) := ⟨_, rfl⟩
        replace H : (shadow_rest.l0 k1 a1 l0_1 (l0_1.length : Int) (wrap64 (x14_1 + 1)) a0_0 y215) = some (r1, r2) := by first | (rw [hy215]; with_reducible exact H) | (have H2_ := (Option.bind_some _ _).symm.trans H; rw [hy215]; with_reducible exact H2_) | (have H2_ := (Option.bind_some _ _).symm.trans H; with_reducible exact H2_) | with_reducible exact H | (rw [hy215]; exact H) | exact H
        have Ny215 := zK hy215; clear hy215
        have H' := zK H; clear H
        have p213 : 0 ≤ (x14_1 : Int) := of_decide_eq_true (by first | (with_reducible assumption) | assumption)
        have q213 : x14_1 < (l0_1.length : Int) := of_decide_eq_true (by first | (with_reducible assumption) | assumption)
        obtain ⟨ad213, e213, hx213_0, hx213_1⟩ := at_T68 HR0_1.out x14_1 p213 q213
        cases e213
        replace hx213_0 := (HB.out.cell (World.block_lt_of_cell? w _ hx213_0)).trans hx213_0
        replace hx213_1 := (HB.out.cell (World.block_lt_of_cell? w _ hx213_1)).trans hx213_1
        replace p213 := eq_true p213
        replace q213 := eq_true q213
        go_wp2_with (first | ((with_reducible refine gate_dst (N := 7) rfl ?_); refine box_event ?hg (N := 7) ?hd (cs := #[.int .i64 0, .int .i64 0]) (t := 68) ?hr ?_; (case hd => rfl); (case hg => rfl); (case hr => first | (go_simp; done) | (go_simp; rfl)); intro gb214 hg w22 hbox hb; replace HO_213001 := zK (Kd.R_below (Kd.R_elderB (zr HO_213001) gb214 (Nat.le_of_eq hg.symm)) hb); have BK214 := zK (hbox); have GW214 := zK ((by rw [hg]; exact (below_size (zo HB)) : w.heap.size ≤ gb214)); have GE214 := zK ((by rw [hg]; exact (below_size (zo HB)) : w.heap.size ≤ gb214)); replace HB := zK (below_step (zo HB) hb); have NB210_214 := zK ((by rw [hg]; exact Nat.ne_of_lt (blk_lt (g := gb210) (o := .cells #[.int .i64 a0_0, .slice (some ad213) l0_1.length c0_1] 62 (0, 0)) (zb BK210)) : gb210 ≠ gb214)); have NB214_210 := zK ((by rw [hg]; exact Nat.ne_of_gt (blk_lt (g := gb210) (o := .cells #[.int .i64 a0_0, .slice (some ad213) l0_1.length c0_1] 62 (0, 0)) (zb BK210)) : gb214 ≠ gb210)); replace BK210 := zK (blk_below (g := gb210) (o := .cells #[.int .i64 a0_0, .slice (some ad213) l0_1.length c0_1] 62 (0, 0)) (zb BK210) hb); have NB211_214 := zK ((by rw [hg]; exact Nat.ne_of_lt (blk_lt (g := gb211) (o := .cells #[.int .i64 0, .slice none 0 0] 62 (0, 0)) (zb BK211)) : gb211 ≠ gb214)); have NB214_211 := zK ((by rw [hg]; exact Nat.ne_of_gt (blk_lt (g := gb211) (o := .cells #[.int .i64 0, .slice none 0 0] 62 (0, 0)) (zb BK211)) : gb214 ≠ gb211)); replace BK211 := zK (blk_below (g := gb211) (o := .cells #[.int .i64 0, .slice none 0 0] 62 (0, 0)) (zb BK211) hb); have NB212_214 := zK ((by rw [hg]; exact Nat.ne_of_lt (blk_lt (g := gb212) (o := .cells #[.int .i64 a0_0, u213001] 62 (0, 0)) (zb BK212)) : gb212 ≠ gb214)); have NB214_212 := zK ((by rw [hg]; exact Nat.ne_of_gt (blk_lt (g := gb212) (o := .cells #[.int .i64 a0_0, u213001] 62 (0, 0)) (zb BK212)) : gb214 ≠ gb212)); replace BK212 := zK (blk_below (g := gb212) (o := .cells #[.int .i64 a0_0, u213001] 62 (0, 0)) (zb BK212) hb); clear hb hbox hg; have hnb23 := NB214_210.out; have hnc23 := NB210_214.out; have hnb24 := NB214_211.out; have hnc24 := NB211_214.out; have hnb25 := NB214_212.out; have hnc25 := NB212_214.out; have hcz26_0 : w22.cell? ⟨gb214, 0, none⟩ = some (.int .i64 0) := (blk_cell BK214.out 0).trans rfl; have hcz26_1 : w22.cell? ⟨gb214, 1, none⟩ = some (.int .i64 0) := (blk_cell BK214.out 1).trans rfl; have hfz26_0 := blk_frozen BK214.out 0; have hfz26_1 := blk_frozen BK214.out 1; have hnb27 := NB212_210.out; have hnc27 := NB210_212.out; have hnb28 := NB212_211.out; have hnc28 := NB211_212.out; have hcz29_0 : w22.cell? ⟨gb212, 0, none⟩ = some (.int .i64 a0_0) := (blk_cell BK212.out 0).trans rfl; have hcz29_1 : w22.cell? ⟨gb212, 1, none⟩ = some (u213001) := (blk_cell BK212.out 1).trans rfl; have hfz29_0 := blk_frozen BK212.out 0; have hfz29_1 := blk_frozen BK212.out 1) | ((with_reducible refine gate_builtin (b := .append) (xs := #[.tmp 23, .tmp 25]) rfl ?_); at_builtin; refine Kd.R_append k68 (w0 := w) w.heap.size rfl (.tmp 23) (.tmp 25) 60 68 (.agg #[(.int .i64 0), (.int .i64 0)]) 16 rfl Try.underlying60 info68 rfl (by decide) (by omega) u213001 x213001_1 (⟨(rd_T68 l0_1 x14_1).f0, (rd_T68 l0_1 x14_1).f1⟩ : S68) [.int .i64 ((rd_T68 l0_1 x14_1).f0), .int .i64 ((rd_T68 l0_1 x14_1).f1)] (fun k_ => k_ ≠ gb214) (fun _ => False) rfl (by first | (go_simp; done) | (go_simp; rfl)) ?aP (fun _ hk => hk.elim) ?aF ?aO ?aB ?aS ?aL ?_; (case aP => exact k68_mkM _ _ _ (⟨(rd_T68 l0_1 x14_1).f0, (rd_T68 l0_1 x14_1).f1⟩ : S68)); (case aB => exact (zo HB)); (case aF => exact (fun k_ hk => Kd.freshB (g := gb214) (o := .cells #[.int .i64 ((rd_T68 l0_1 x14_1).f0), .int .i64 ((rd_T68 l0_1 x14_1).f1)] 68 (0, 0)) (by refine zM ?_; refine blk_put (cs := #[.int .i64 ((rd_T68 l0_1 x14_1).f0), .int .i64 0]) ?_ 1 _ rfl; refine zM ?_; refine blk_put (cs := #[.int .i64 0, .int .i64 0]) ?_ 0 _ rfl; refine zM ?_; exact BK214.out) k_ hk)); (case aO => exact (by (with_reducible repeat (first | apply Kd.R_alloc | apply Kd.R_drewN | apply Kd.R_drew)); exact Kd.R_mono (Kd.R_far (p := ⟨gb214, 1, none⟩) (Kd.R_far (p := ⟨gb214, 0, none⟩) (Kd.R_mono HO_213001.out (fun k_ hk => (⟨hk, hk.2⟩ : _ ∧ k_ ≠ gb214))) (fun _ hk => hk.2) (.int .i64 ((rd_T68 l0_1 x14_1).f0))) (fun _ hk => hk.2) (.int .i64 ((rd_T68 l0_1 x14_1).f1))) (fun _ hk => hk.1.2))); (case aS => exact (below_size (zo HB))); (case aL => have := LMc21.out; omega); intro v216 w30 ho hb hg hat; rw [← Ny215.out] at ho; replace BK210 := zK (blk_grown (g := gb210) (o := .cells #[.int .i64 a0_0, .slice (some ad213) l0_1.length c0_1] 62 (0, 0)) (zb BK210) hg (Kd.R_ne HO_213001.out BK210.out (by decide))); replace BK211 := zK (blk_grown (g := gb211) (o := .cells #[.int .i64 0, .slice none 0 0] 62 (0, 0)) (zb BK211) hg (Kd.R_ne HO_213001.out BK211.out (by decide))); replace BK212 := zK (blk_grown (g := gb212) (o := .cells #[.int .i64 a0_0, u213001] 62 (0, 0)) (zb BK212) hg (Kd.R_ne HO_213001.out BK212.out (by decide))); replace BK214 := zK (blk_grown (g := gb214) (o := .cells #[.int .i64 ((rd_T68 l0_1 x14_1).f0), .int .i64 ((rd_T68 l0_1 x14_1).f1)] 68 (0, 0)) (by refine zM ?_; refine blk_put (cs := #[.int .i64 ((rd_T68 l0_1 x14_1).f0), .int .i64 0]) ?_ 1 _ rfl; refine zM ?_; refine blk_put (cs := #[.int .i64 0, .int .i64 0]) ?_ 0 _ rfl; refine zM ?_; exact BK214.out) hg (Kd.R_away HO_213001.out (fun _ hk => hk.2))); replace HB := zK (hb); have HO217 := zK (ho); clear HO_213001 ho hb hg hat; obtain ⟨Ao31, co31, eo31⟩ := Kd.R_slice HO217.out; subst eo31; have hcz32_0 : w30.cell? ⟨gb212, 0, none⟩ = some (.int .i64 a0_0) := (blk_cell BK212.out 0).trans rfl; have hcz32_1 : w30.cell? ⟨gb212, 1, none⟩ = some (u213001) := (blk_cell BK212.out 1).trans rfl; have hfz32_0 := blk_frozen BK212.out 0; have hfz32_1 := blk_frozen BK212.out 1))
        go_roundg k1
        case measure => have := HK1.out; omega
        case rel => exact ⟨(wrap64 (x14_1 + 1)), (y215), (.slice Ao31 y215.length co31), (by first | rfl | (simp; done) | (simp [*]; done)), H', ⟨by have := HK1.out; omega⟩, ⟨by (with_reducible repeat (first | apply Kd.R_alloc | apply Kd.R_drewN | apply Kd.R_drew)); exact Kd.R_mono (Kd.R_far (p := ⟨gb212, 1, none⟩) (Kd.R_types HO217.out BK212.out (by decide)) (fun _ hk => hk.2) (.slice Ao31 y215.length co31)) (fun _ hk => trivial)⟩, ⟨zb BK210⟩, ⟨zb BK211⟩, ⟨by refine zM ?_; refine blk_put (cs := #[.int .i64 a0_0, u213001]) ?_ 1 _ rfl; refine zM ?_; exact BK212.out⟩, ⟨zo HB⟩⟩
       ·rw [if_neg c21] at H
        exact absurd H (by simp)
     ·rw [if_neg c14] at H
      exact absurd H (by simp)
    ·rw [if_neg c13] at H
     exact absurd H (by simp)
   ·rw [if_neg c12] at H
    have c12b0 : decide (x14_1 < (l0_1.length : Int)) = false := decide_eq_false c12
    clear c12
    simp only [Option.some.injEq, Prod.mk.injEq] at H
    obtain ⟨rfl, rfl⟩ := H
    have hnb33 := NB212_210.out
    have hnc33 := NB210_212.out
    have hnb34 := NB212_211.out
    have hnc34 := NB211_212.out
    have hcz35_0 : wr.cell? ⟨gb212, 0, none⟩ = some (.int .i64 a0_0) := (blk_cell BK212.out 0).trans rfl
    have hcz35_1 : wr.cell? ⟨gb212, 1, none⟩ = some (u213001) := (blk_cell BK212.out 1).trans rfl
    have hfz35_0 := blk_frozen BK212.out 0
    have hfz35_1 := blk_frozen BK212.out 1
    have hnb36 := NB211_210.out
    have hnc36 := NB210_211.out
    have hcz37_0 : wr.cell? ⟨gb211, 0, none⟩ = some (.int .i64 0) := (blk_cell BK211.out 0).trans rfl
    have hcz37_1 : wr.cell? ⟨gb211, 1, none⟩ = some (.slice none 0 0) := (blk_cell BK211.out 1).trans rfl
    have hfz37_0 := blk_frozen BK211.out 0
    have hfz37_1 := blk_frozen BK211.out 1
    obtain ⟨Ao38, co38, eo38⟩ := Kd.R_slice HO_213001.out
    subst eo38
    go_wp2
    refine bodyPost_ret (results_cell_row rfl _ _ gb211 62 #[.int .i64 a0_0, .slice Ao38 x213001_1.length co38] (0, 0) _ rfl (by refine zM ?_; refine blk_put (cs := #[.int .i64 a0_0, .slice none 0 0]) ?_ 1 _ rfl; refine zM ?_; refine blk_put (cs := #[.int .i64 0, .slice none 0 0]) ?_ 0 _ rfl; refine zM ?_; exact BK211.out) Try.underlying62 rfl (by kernel_rfl)) rfl ?_
    exact ⟨_, by first | rfl | (simp [errW_none, errW_some] <;> rfl) | (simp [*, errW_none, errW_some] <;> rfl), by (with_reducible repeat (first | apply Kd.R_alloc | apply Kd.R_drewN | apply Kd.R_drew)); exact Kd.R_mono (Kd.R_far (p := ⟨gb211, 1, none⟩) (Kd.R_far (p := ⟨gb211, 0, none⟩) (Kd.R_types HO_213001.out BK211.out (by decide)) (fun _ hk => hk.2) (.int .i64 a0_0)) (fun _ hk => hk.2) (.slice Ao38 x213001_1.length co38)) (fun _ hk => trivial), zo HB⟩

/-! ### num_over: function 90 -/
def num_over.f (a0 : Int) (a1 : Int) : Option (Bool) := if a1 = 0 then (some true) else (if a0 = (-9223372036854775808) then (some (a1 == (-1))) else (some false))
set_option maxHeartbeats 8000000 in
set_option maxRecDepth 100000 in
theorem num_over.calls (a0 : Int) (a1 : Int) (r : Bool) (w : World) (h : num_over.f a0 a1 = some r) :
  Calls Try.prog 90 #[.int .i64 a0, .int .i64 a1] w fun e w' => e = .returned (.bool r) ∧ Drawn0 w w' := by
 have H : (if a1 = 0 then (some true) else (if a0 = (-9223372036854775808) then (some (a1 == (-1))) else (some false))) = some r := h
 clear h
 by_cases c3 : a1 = 0
 ·rw [if_pos c3] at H
  have c3b0 : (a1 == 0) = true := beq_iff_eq.mpr c3
  have c3b1 : (a1 != 0) = false := bne_eq_false_iff_eq.mpr c3; clear c3
  obtain rfl := Option.some.inj H
  go_enter Try.func90, Try.ntmps90
  go_wp2
  go_ret
  exact ⟨by first | rfl | (simp; done) | (simp [*]; done), by repeat (first | exact Drawn0.refl _ | apply Drawn0.step)⟩
 ·rw [if_neg c3] at H
  have c3b0 : (a1 == 0) = false := beq_eq_false_iff_ne.mpr c3
  have c3b1 : (a1 != 0) = true := bne_iff_ne.mpr c3
  by_cases c4 : a0 = (-9223372036854775808)
  ·rw [if_pos c4] at H
   have c4b0 : (a0 == (-9223372036854775808)) = true := beq_iff_eq.mpr c4
   have c4b1 : (a0 != (-9223372036854775808)) = false := bne_eq_false_iff_eq.mpr c4
   clear c4
   obtain rfl := Option.some.inj H
   go_enter Try.func90, Try.ntmps90
   go_wp2
   go_ret
   exact ⟨by first | rfl | (simp; done) | (simp [*]; done), by repeat (first | exact Drawn0.refl _ | apply Drawn0.step)⟩
  ·rw [if_neg c4] at H
   have c4b0 : (a0 == (-9223372036854775808)) = false := beq_eq_false_iff_ne.mpr c4
   have c4b1 : (a0 != (-9223372036854775808)) = true := bne_iff_ne.mpr c4
   obtain rfl := Option.some.inj H
   go_enter Try.func90, Try.ntmps90
   go_wp2
   go_ret
   exact ⟨by first | rfl | (simp; done) | (simp [*]; done), by repeat (first | exact Drawn0.refl _ | apply Drawn0.step)⟩

/-! ### num_Ceil: function 60 -/
def num_Ceil.f (a0 : Int) (a1 : Int) : Option (Int × Bool) := (num_over.f a0 a1).bind fun t218 => (if t218 = true then (some (0, false)) else (if a1 = 0 then (none) else (if (Int.tmod a0 a1) = 0 then (some (wrap64 (Int.tdiv a0 a1), true)) else (if ((decide (a0 < 0)) == (decide (a1 < 0))) = true then (some (wrap64 ((wrap64 (Int.tdiv a0 a1)) + 1), true)) else (some (wrap64 (Int.tdiv a0 a1), true))))))
set_option maxHeartbeats 8000000 in
set_option maxRecDepth 100000 in
theorem num_Ceil.calls (a0 : Int) (a1 : Int) (r1 : Int) (r2 : Bool) (w : World) (h : num_Ceil.f a0 a1 = some (r1, r2)) :
  Calls Try.prog 60 #[.int .i64 a0, .int .i64 a1] w fun e w' => e = .returned (.tuple #[.int .i64 r1, .bool r2]) ∧ Drawn0 w w' := by
 have H : ((num_over.f a0 a1).bind fun t218 => (if t218 = true then (some (0, false)) else (if a1 = 0 then (none) else (if (Int.tmod a0 a1) = 0 then (some (wrap64 (Int.tdiv a0 a1), true)) else (if ((decide (a0 < 0)) == (decide (a1 < 0))) = true then (some (wrap64 ((wrap64 (Int.tdiv a0 a1)) + 1), true)) else (some (wrap64 (Int.tdiv a0 a1), true))))))) = some (r1, r2) := h
 clear h; replace H := Option.bind_eq_some_iff.mp H
 obtain ⟨t218, A30, H⟩ := H
 replace H : (if t218 = true then (some (0, false)) else (if a1 = 0 then (none) else (if (Int.tmod a0 a1) = 0 then (some (wrap64 (Int.tdiv a0 a1), true)) else (if ((decide (a0 < 0)) == (decide (a1 < 0))) = true then (some (wrap64 ((wrap64 (Int.tdiv a0 a1)) + 1), true)) else (some (wrap64 (Int.tdiv a0 a1), true)))))) = some (r1, r2) := H
 have A3 := zK A30; clear A30
 by_cases c4 : t218 = true
 ·subst c4
  have H1 : (some (0, false)) = some (r1, r2) := by rw [if_pos rfl] at H; exact H
  clear H; have H := H1; clear H1
  simp only [Option.some.injEq, Prod.mk.injEq] at H
  obtain ⟨rfl, rfl⟩ := H
  go_enter Try.func60, Try.ntmps60
  go_wp2_with (first | ((with_reducible refine zC (f := 90) rfl ?_); refine goesL_ (some 9) rfl rfl Try.func90 (by kernel_rfl) rfl #[.int .i64 a0, .int .i64 a1] rfl (by (try simp only [List.map_toArray, List.map_cons, List.map_nil]); first | done | rfl | (simp only [List.length_drop, List.length_take]; rfl)) ?_; (with_reducible refine (num_over.calls a0 a1 true _ A3.out).mono ?_); rintro e w' ⟨rfl, ⟨nd, rfl⟩⟩; refine ⟨_, rfl, ?_⟩))
  go_ret2
  exact ⟨by first | rfl | (simp; done) | (simp [*]; done), by repeat (first | exact Drawn0.refl _ | apply Drawn0.step)⟩
 ·replace c4 := Bool.eq_false_iff.mpr c4
  subst c4
  have H1 : (if a1 = 0 then (none) else (if (Int.tmod a0 a1) = 0 then (some (wrap64 (Int.tdiv a0 a1), true)) else (if ((decide (a0 < 0)) == (decide (a1 < 0))) = true then (some (wrap64 ((wrap64 (Int.tdiv a0 a1)) + 1), true)) else (some (wrap64 (Int.tdiv a0 a1), true))))) = some (r1, r2) := by rw [if_neg (show ¬ (false = true) by decide)] at H; exact H
  clear H; have H := H1; clear H1
  by_cases c5 : a1 = 0
  ·rw [if_pos c5] at H
   exact absurd H (by simp)
  ·rw [if_neg c5] at H
   have c5b0 : (a1 == 0) = false := beq_eq_false_iff_ne.mpr c5
   have c5b1 : (a1 != 0) = true := bne_iff_ne.mpr c5
   by_cases c6 : (Int.tmod a0 a1) = 0
   ·rw [if_pos c6] at H
    have c6b0 : ((Int.tmod a0 a1) == 0) = true := beq_iff_eq.mpr c6
    have c6b1 : ((Int.tmod a0 a1) != 0) = false := bne_eq_false_iff_eq.mpr c6
    clear c6
    simp only [Option.some.injEq, Prod.mk.injEq] at H
    obtain ⟨rfl, rfl⟩ := H
    go_enter Try.func60, Try.ntmps60
    go_wp2_with (first | ((with_reducible refine zC (f := 90) rfl ?_); refine goesL_ (some 9) rfl rfl Try.func90 (by kernel_rfl) rfl #[.int .i64 a0, .int .i64 a1] rfl (by (try simp only [List.map_toArray, List.map_cons, List.map_nil]); first | done | rfl | (simp only [List.length_drop, List.length_take]; rfl)) ?_; (with_reducible refine (num_over.calls a0 a1 false _ A3.out).mono ?_); rintro e w' ⟨rfl, ⟨nd, rfl⟩⟩; refine ⟨_, rfl, ?_⟩))
    go_ret2
    exact ⟨by first | rfl | (simp; done) | (simp [*]; done), by repeat (first | exact Drawn0.refl _ | apply Drawn0.step)⟩
   ·rw [if_neg c6] at H
    have c6b0 : ((Int.tmod a0 a1) == 0) = false := beq_eq_false_iff_ne.mpr c6
    have c6b1 : ((Int.tmod a0 a1) != 0) = true := bne_iff_ne.mpr c6
    by_cases c7 : ((decide (a0 < 0)) == (decide (a1 < 0))) = true
    ·rw [if_pos c7] at H
     have c7b0 : ((decide (a0 < 0)) == (decide (a1 < 0))) = true := c7
     (try (have c7b1 : decide ((decide (a0 < 0)) = (decide (a1 < 0))) = true := by simpa using c7))
     (try (have c7b2 : ((decide (a0 < 0)) == (decide (a1 < 0))) = true := by simpa using c7))
     clear c7
     simp only [Option.some.injEq, Prod.mk.injEq] at H
     obtain ⟨rfl, rfl⟩ := H
     go_enter Try.func60, Try.ntmps60
     go_wp2_with (first | ((with_reducible refine zC (f := 90) rfl ?_); refine goesL_ (some 9) rfl rfl Try.func90 (by kernel_rfl) rfl #[.int .i64 a0, .int .i64 a1] rfl (by (try simp only [List.map_toArray, List.map_cons, List.map_nil]); first | done | rfl | (simp only [List.length_drop, List.length_take]; rfl)) ?_; (with_reducible refine (num_over.calls a0 a1 false _ A3.out).mono ?_); rintro e w' ⟨rfl, ⟨nd, rfl⟩⟩; refine ⟨_, rfl, ?_⟩))
     go_ret2
     exact ⟨by first | rfl | (simp; done) | (simp [*]; done), by repeat (first | exact Drawn0.refl _ | apply Drawn0.step)⟩
    ·rw [if_neg c7] at H
     have c7b0 : ((decide (a0 < 0)) == (decide (a1 < 0))) = false := by simpa using c7
     (try (have c7b1 : decide ((decide (a0 < 0)) = (decide (a1 < 0))) = false := by simpa using c7))
     (try (have c7b2 : ((decide (a0 < 0)) == (decide (a1 < 0))) = false := by simpa using c7))
     (try (have c7b3 : ¬ ((decide (a0 < 0)) = (decide (a1 < 0))) := by simpa using c7))
     clear c7
     simp only [Option.some.injEq, Prod.mk.injEq] at H
     obtain ⟨rfl, rfl⟩ := H
     go_enter Try.func60, Try.ntmps60
     go_wp2_with (first | ((with_reducible refine zC (f := 90) rfl ?_); refine goesL_ (some 9) rfl rfl Try.func90 (by kernel_rfl) rfl #[.int .i64 a0, .int .i64 a1] rfl (by (try simp only [List.map_toArray, List.map_cons, List.map_nil]); first | done | rfl | (simp only [List.length_drop, List.length_take]; rfl)) ?_; (with_reducible refine (num_over.calls a0 a1 false _ A3.out).mono ?_); rintro e w' ⟨rfl, ⟨nd, rfl⟩⟩; refine ⟨_, rfl, ?_⟩))
     go_ret2
     exact ⟨by first | rfl | (simp; done) | (simp [*]; done), by repeat (first | exact Drawn0.refl _ | apply Drawn0.step)⟩

/-! ### num_told: function 110 -/
def num_told.f (a0 : Int) (a1 : Bool) : Option (Int × Bool) := if a1 = true then (some (a0, true)) else (some (0, false))
set_option maxHeartbeats 8000000 in
set_option maxRecDepth 100000 in
theorem num_told.calls (a0 : Int) (a1 : Bool) (r1 : Int) (r2 : Bool) (w : World) (h : num_told.f a0 a1 = some (r1, r2)) :
  Calls Try.prog 110 #[.int .i64 a0, .bool a1] w fun e w' => e = .returned (.tuple #[.int .i64 r1, .bool r2]) ∧ Drawn0 w w' := by
 have H : (if a1 = true then (some (a0, true)) else (some (0, false))) = some (r1, r2) := h
 clear h
 by_cases c3 : a1 = true
 ·subst c3
  have H1 : (some (a0, true)) = some (r1, r2) := by rw [if_pos rfl] at H; exact H
  clear H; have H := H1; clear H1
  simp only [Option.some.injEq, Prod.mk.injEq] at H
  obtain ⟨rfl, rfl⟩ := H
  go_enter Try.func110, Try.ntmps110
  go_wp2
  go_ret2
  exact ⟨by first | rfl | (simp; done) | (simp [*]; done), by repeat (first | exact Drawn0.refl _ | apply Drawn0.step)⟩
 ·replace c3 := Bool.eq_false_iff.mpr c3
  subst c3
  have H1 : (some (0, false)) = some (r1, r2) := by rw [if_neg (show ¬ (false = true) by decide)] at H; exact H
  clear H; have H := H1; clear H1
  simp only [Option.some.injEq, Prod.mk.injEq] at H
  obtain ⟨rfl, rfl⟩ := H
  go_enter Try.func110, Try.ntmps110
  go_wp2
  go_ret2
  exact ⟨by first | rfl | (simp; done) | (simp [*]; done), by repeat (first | exact Drawn0.refl _ | apply Drawn0.step)⟩

/-! ### num_Sub: function 91 -/
def num_Sub.f (a0 : Int) (a1 : Int) : Option (Int × Bool) := (num_told.f (wrap64 (a0 - a1)) ((decide ((wrap64 (a0 - a1)) < a0)) == (decide (a1 > 0)))).bind fun bt219 => (some (bt219.1, bt219.2))
set_option maxHeartbeats 8000000 in
set_option maxRecDepth 100000 in
theorem num_Sub.calls (a0 : Int) (a1 : Int) (r1 : Int) (r2 : Bool) (w : World) (h : num_Sub.f a0 a1 = some (r1, r2)) :
  Calls Try.prog 91 #[.int .i64 a0, .int .i64 a1] w fun e w' => e = .returned (.tuple #[.int .i64 r1, .bool r2]) ∧ Drawn0 w w' := by
 have H : ((num_told.f (wrap64 (a0 - a1)) ((decide ((wrap64 (a0 - a1)) < a0)) == (decide (a1 > 0)))).bind fun bt219 => (some (bt219.1, bt219.2))) = some (r1, r2) := h
 clear h; replace H := Option.bind_eq_some_iff.mp H
 obtain ⟨⟨t219, t220⟩, A30, H⟩ := H
 replace H : (some (t219, t220)) = some (r1, r2) := H
 have A3 := zK A30; clear A30
 simp only [Option.some.injEq, Prod.mk.injEq] at H
 obtain ⟨rfl, rfl⟩ := H
 go_enter Try.func91, Try.ntmps91
 go_wp2_with (first | ((with_reducible refine zC (f := 110) rfl ?_); refine goesL_ (some 17) rfl rfl Try.func110 (by kernel_rfl) rfl #[.int .i64 (wrap64 (a0 - a1)), .bool ((decide ((wrap64 (a0 - a1)) < a0)) == (decide (a1 > 0)))] rfl (by (try simp only [List.map_toArray, List.map_cons, List.map_nil]); first | done | rfl | (simp only [List.length_drop, List.length_take]; rfl)) ?_; (with_reducible refine (num_told.calls (wrap64 (a0 - a1)) ((decide ((wrap64 (a0 - a1)) < a0)) == (decide (a1 > 0))) t219 t220 _ A3.out).mono ?_); rintro e w' ⟨rfl, ⟨nd, rfl⟩⟩; refine ⟨_, rfl, ?_⟩))
 go_ret2
 exact ⟨by first | rfl | (simp; done) | (simp [*]; done), by repeat (first | exact Drawn0.refl _ | apply Drawn0.step)⟩

/-! ### num_Neg: function 61 -/
def num_Neg.f (a0 : Int) : Option (Int × Bool) := (num_Sub.f 0 a0).bind fun bt221 => (some (bt221.1, bt221.2))
set_option maxHeartbeats 8000000 in
set_option maxRecDepth 100000 in
theorem num_Neg.calls (a0 : Int) (r1 : Int) (r2 : Bool) (w : World) (h : num_Neg.f a0 = some (r1, r2)) :
  Calls Try.prog 61 #[.int .i64 a0] w fun e w' => e = .returned (.tuple #[.int .i64 r1, .bool r2]) ∧ Drawn0 w w' := by
 have H : ((num_Sub.f 0 a0).bind fun bt221 => (some (bt221.1, bt221.2))) = some (r1, r2) := h
 clear h; replace H := Option.bind_eq_some_iff.mp H
 obtain ⟨⟨t221, t222⟩, A20, H⟩ := H
 replace H : (some (t221, t222)) = some (r1, r2) := H
 have A2 := zK A20; clear A20
 simp only [Option.some.injEq, Prod.mk.injEq] at H
 obtain ⟨rfl, rfl⟩ := H
 go_enter Try.func61, Try.ntmps61
 go_wp2_with (first | ((with_reducible refine zC (f := 91) rfl ?_); refine goesL_ (some 5) rfl rfl Try.func91 (by kernel_rfl) rfl #[.int .i64 0, .int .i64 a0] rfl (by (try simp only [List.map_toArray, List.map_cons, List.map_nil]); first | done | rfl | (simp only [List.length_drop, List.length_take]; rfl)) ?_; (with_reducible refine (num_Sub.calls 0 a0 t221 t222 _ A2.out).mono ?_); rintro e w' ⟨rfl, ⟨nd, rfl⟩⟩; refine ⟨_, rfl, ?_⟩))
 go_ret2
 exact ⟨by first | rfl | (simp; done) | (simp [*]; done), by repeat (first | exact Drawn0.refl _ | apply Drawn0.step)⟩

/-! ### shadow_least: function 59 -/
def shadow_least.f (a0 : Int) (a1 : Int) : Option (Int) := (num_Neg.f a1).bind fun bt223 => (if bt223.2 = true then ((num_Ceil.f a0 bt223.1).bind fun bt225 => (some bt225.1)) else (if a0 > 0 then (some 1) else (if a0 = a1 then (some (-1)) else (some 0))))
set_option maxHeartbeats 8000000 in
set_option maxRecDepth 100000 in
theorem shadow_least.calls (a0 : Int) (a1 : Int) (r : Int) (w : World) (h : shadow_least.f a0 a1 = some r) :
  Calls Try.prog 59 #[.int .i64 a0, .int .i64 a1] w fun e w' => e = .returned (.int .i64 r) ∧ Drawn0 w w' := by
 have H : ((num_Neg.f a1).bind fun bt223 => (if bt223.2 = true then ((num_Ceil.f a0 bt223.1).bind fun bt225 => (some bt225.1)) else (if a0 > 0 then (some 1) else (if a0 = a1 then (some (-1)) else (some 0))))) = some r := h
 clear h; replace H := Option.bind_eq_some_iff.mp H
 obtain ⟨⟨t223, t224⟩, A30, H⟩ := H
 replace H : (if t224 = true then ((num_Ceil.f a0 t223).bind fun bt225 => (some bt225.1)) else (if a0 > 0 then (some 1) else (if a0 = a1 then (some (-1)) else (some 0)))) = some r := H
 have A3 := zK A30; clear A30
 by_cases c4 : t224 = true
 ·subst c4
  have H1 : ((num_Ceil.f a0 t223).bind fun bt225 => (some bt225.1)) = some r := by rw [if_pos rfl] at H; exact H
  clear H; have H := H1
  clear H1; replace H := Option.bind_eq_some_iff.mp H
  obtain ⟨⟨t225, t226⟩, A50, H⟩ := H; replace H : (some t225) = some r := H
  have A5 := zK A50; clear A50
  obtain rfl := Option.some.inj H
  go_enter Try.func59, Try.ntmps59
  go_wp2_with (first | ((with_reducible refine zC (f := 61) rfl ?_); refine goesL_ (some 11) rfl rfl Try.func61 (by kernel_rfl) rfl #[.int .i64 a1] rfl (by (try simp only [List.map_toArray, List.map_cons, List.map_nil]); first | done | rfl | (simp only [List.length_drop, List.length_take]; rfl)) ?_; (with_reducible refine (num_Neg.calls a1 t223 true _ A3.out).mono ?_); rintro e w' ⟨rfl, ⟨nd, rfl⟩⟩; refine ⟨_, rfl, ?_⟩) | ((with_reducible refine zC (f := 60) rfl ?_); refine goesL_ (some 18) rfl rfl Try.func60 (by kernel_rfl) rfl #[.int .i64 a0, .int .i64 t223] rfl (by (try simp only [List.map_toArray, List.map_cons, List.map_nil]); first | done | rfl | (simp only [List.length_drop, List.length_take]; rfl)) ?_; (with_reducible refine (num_Ceil.calls a0 t223 t225 t226 _ A5.out).mono ?_); rintro e w' ⟨rfl, ⟨nd, rfl⟩⟩; refine ⟨_, rfl, ?_⟩))
  go_ret
  exact ⟨by first | rfl | (simp; done) | (simp [*]; done), by repeat (first | exact Drawn0.refl _ | apply Drawn0.step)⟩
 ·replace c4 := Bool.eq_false_iff.mpr c4
  subst c4
  have H1 : (if a0 > 0 then (some 1) else (if a0 = a1 then (some (-1)) else (some 0))) = some r := by rw [if_neg (show ¬ (false = true) by decide)] at H; exact H
  clear H; have H := H1; clear H1
  by_cases c6 : a0 > 0
  ·rw [if_pos c6] at H
   have c6b0 : decide (0 < a0) = true := decide_eq_true c6; clear c6
   obtain rfl := Option.some.inj H
   go_enter Try.func59, Try.ntmps59
   go_wp2_with (first | ((with_reducible refine zC (f := 61) rfl ?_); refine goesL_ (some 11) rfl rfl Try.func61 (by kernel_rfl) rfl #[.int .i64 a1] rfl (by (try simp only [List.map_toArray, List.map_cons, List.map_nil]); first | done | rfl | (simp only [List.length_drop, List.length_take]; rfl)) ?_; (with_reducible refine (num_Neg.calls a1 t223 false _ A3.out).mono ?_); rintro e w' ⟨rfl, ⟨nd, rfl⟩⟩; refine ⟨_, rfl, ?_⟩))
   go_ret
   exact ⟨by first | rfl | (simp; done) | (simp [*]; done), by repeat (first | exact Drawn0.refl _ | apply Drawn0.step)⟩
  ·rw [if_neg c6] at H
   have c6b0 : decide (0 < a0) = false := decide_eq_false c6; clear c6
   by_cases c7 : a0 = a1
   ·rw [if_pos c7] at H
    have c7b0 : (a0 == a1) = true := beq_iff_eq.mpr c7
    have c7b1 : (a0 != a1) = false := bne_eq_false_iff_eq.mpr c7; clear c7
    obtain rfl := Option.some.inj H
    go_enter Try.func59, Try.ntmps59
    go_wp2_with (first | ((with_reducible refine zC (f := 61) rfl ?_); refine goesL_ (some 11) rfl rfl Try.func61 (by kernel_rfl) rfl #[.int .i64 a1] rfl (by (try simp only [List.map_toArray, List.map_cons, List.map_nil]); first | done | rfl | (simp only [List.length_drop, List.length_take]; rfl)) ?_; (with_reducible refine (num_Neg.calls a1 t223 false _ A3.out).mono ?_); rintro e w' ⟨rfl, ⟨nd, rfl⟩⟩; refine ⟨_, rfl, ?_⟩))
    go_ret
    exact ⟨by first | rfl | (simp; done) | (simp [*]; done), by repeat (first | exact Drawn0.refl _ | apply Drawn0.step)⟩
   ·rw [if_neg c7] at H
    have c7b0 : (a0 == a1) = false := beq_eq_false_iff_ne.mpr c7
    have c7b1 : (a0 != a1) = true := bne_iff_ne.mpr c7
    obtain rfl := Option.some.inj H
    go_enter Try.func59, Try.ntmps59
    go_wp2_with (first | ((with_reducible refine zC (f := 61) rfl ?_); refine goesL_ (some 11) rfl rfl Try.func61 (by kernel_rfl) rfl #[.int .i64 a1] rfl (by (try simp only [List.map_toArray, List.map_cons, List.map_nil]); first | done | rfl | (simp only [List.length_drop, List.length_take]; rfl)) ?_; (with_reducible refine (num_Neg.calls a1 t223 false _ A3.out).mono ?_); rintro e w' ⟨rfl, ⟨nd, rfl⟩⟩; refine ⟨_, rfl, ?_⟩))
    go_ret
    exact ⟨by first | rfl | (simp; done) | (simp [*]; done), by repeat (first | exact Drawn0.refl _ | apply Drawn0.step)⟩

/-! ### shadow_Between: function 29 -/
def shadow_Between.l0 : Nat → Int → List Int → Int → Int → Bool → Bool → List (S70) → Int → Int → Option (Int × Int × Bool × Bool × Int)
 | 0, _, _, _, _, _, _, _, _, _ => none
 | k + 1, x1, x2, x11, x12, x13, x14, x28, x29, x30 => if x30 < x29 then (if 0 ≤ x30 then (if x30 < (x28.length : Int) then ((lin_By.f k ((rd_T70 x28 x30).f0.f0) ((rd_T70 x28 x30).f0.f1) x1).bind fun t230 => (if t230 = 0 then (shadow_Between.l0 k x1 x2 x11 x12 x13 x14 x28 x29 (wrap64 (x30 + 1))) else ((shadow_rest.f k ((rd_T70 x28 x30).f0.f0) ((rd_T70 x28 x30).f0.f1) x1).bind fun bt231 => ((lin_Eval.f k bt231.1 bt231.2 x2).bind fun bt235 => (if bt235.2 = 0 then (if t230 < 0 then ((shadow_least.f bt235.1 t230).bind fun t237 => (if x13 = true then (if t237 > x11 then (shadow_Between.l0 k x1 x2 t237 x12 true x14 x28 x29 (wrap64 (x30 + 1))) else (shadow_Between.l0 k x1 x2 x11 x12 x13 x14 x28 x29 (wrap64 (x30 + 1)))) else (shadow_Between.l0 k x1 x2 t237 x12 true x14 x28 x29 (wrap64 (x30 + 1))))) else ((num_Ceil.f bt235.1 t230).bind fun bt238 => ((num_Neg.f bt238.1).bind fun bt240 => (if bt240.2 = true then (if x14 = true then (if bt240.1 < x12 then (shadow_Between.l0 k x1 x2 x11 bt240.1 x13 true x28 x29 (wrap64 (x30 + 1))) else (shadow_Between.l0 k x1 x2 x11 x12 x13 x14 x28 x29 (wrap64 (x30 + 1)))) else (shadow_Between.l0 k x1 x2 x11 bt240.1 x13 true x28 x29 (wrap64 (x30 + 1)))) else (some (0, 0, false, false, 5)))))) else (some (0, 0, false, false, bt235.2))))))) else (none)) else (none)) else (some (x11, x12, x13, x14, 0))
def shadow_Between.f (k : Nat) (l0 : List (S70)) (a1 : Int) (l2 : List Int) : Option (Int × Int × Bool × Bool × Int) := (shadow_wrong.f k l0 a1).bind fun t227 => (if t227 = true then (some (0, 0, false, false, 1)) else (shadow_Between.l0 k a1 l2 0 0 false false l0 (l0.length : Int) 0))
theorem shadow_Between.mono_l : ∀ k, (∀ y0 y1 y2 y3 y4 y5 y6 y7 y8, LeO (shadow_Between.l0 k y0 y1 y2 y3 y4 y5 y6 y7 y8) (shadow_Between.l0 (k + 1) y0 y1 y2 y3 y4 y5 y6 y7 y8))
 | 0 => fun _ _ _ _ _ _ _ _ _ r h => by simp [shadow_Between.l0] at h
 | k + 1 => by
  have ih0 := shadow_Between.mono_l k
  ·intro y0 y1 y2 y3 y4 y5 y6 y7 y8
   unfold shadow_Between.l0
   repeat' first
   | (with_reducible exact ih0 _ _ _ _ _ _ _ _ _)
   | (with_reducible exact lin_By.mono _ _ _ _)
   | (with_reducible exact lin_Eval.mono _ _ _ _)
   | (with_reducible exact shadow_rest.mono _ _ _ _)
   | (with_reducible exact shadow_wrong.mono _ _ _)
   | (with_reducible exact LeO.refl _)
   | (with_reducible exact LeO.none _)
   | (with_reducible refine LeO.ite ?_ ?_)
   | (with_reducible refine LeO.bind ?_ (fun _ => ?_))
   | exact ih0 _ _ _ _ _ _ _ _ _
   | exact lin_By.mono _ _ _ _
   | exact lin_Eval.mono _ _ _ _
   | exact shadow_rest.mono _ _ _ _
   | exact shadow_wrong.mono _ _ _
   | exact LeO.none _
   | refine LeO.ite ?_ ?_
   | refine LeO.bind ?_ (fun _ => ?_)
theorem shadow_Between.mono : ∀ a0 a1 a2 k, LeO (shadow_Between.f k a0 a1 a2) (shadow_Between.f (k + 1) a0 a1 a2) := by
 intro a0 a1 a2 k
 have ih0 := shadow_Between.mono_l k
 unfold shadow_Between.f
 repeat' first
   | (with_reducible exact ih0 _ _ _ _ _ _ _ _ _)
   | (with_reducible exact lin_By.mono _ _ _ _)
   | (with_reducible exact lin_Eval.mono _ _ _ _)
   | (with_reducible exact shadow_rest.mono _ _ _ _)
   | (with_reducible exact shadow_wrong.mono _ _ _)
   | (with_reducible exact LeO.refl _)
   | (with_reducible exact LeO.none _)
   | (with_reducible refine LeO.ite ?_ ?_)
   | (with_reducible refine LeO.bind ?_ (fun _ => ?_))
   | exact ih0 _ _ _ _ _ _ _ _ _
   | exact lin_By.mono _ _ _ _
   | exact lin_Eval.mono _ _ _ _
   | exact shadow_rest.mono _ _ _ _
   | exact shadow_wrong.mono _ _ _
   | exact LeO.none _
   | refine LeO.ite ?_ ?_
   | refine LeO.bind ?_ (fun _ => ?_)
set_option maxHeartbeats 8000000 in
set_option maxRecDepth 100000 in
theorem shadow_Between.calls (k : Nat) (A0 : Option Addr) (c0 : Nat) (l0 : List (S70)) (a1 : Int) (A2 : Option Addr) (c2 : Nat) (l2 : List Int) (r1 : Int) (r2 : Int) (r3 : Bool) (r4 : Bool) (r5 : Int) (w : World) (hr0 : Kd.C k70 w A0 l0.length l0) (hc0 : l0.length ≤ c0) (hr2 : Kd.C (Kd.int .i64) w A2 l2.length l2) (hc2 : l2.length ≤ c2) (h : shadow_Between.f k l0 a1 l2 = some (r1, r2, r3, r4, r5)) :
  Calls Try.prog 29 #[.slice A0 l0.length c0, .int .i64 a1, .slice A2 l2.length c2] w fun e w' => e = .returned (.tuple #[.int .i64 r1, .int .i64 r2, .bool r3, .bool r4, .int .i64 r5]) ∧ Below w.heap.size w w' := by
 have hu70 := Try.underlying70
 have hu62 := Try.underlying62
 have HR0 := zK hr0
 have HC0 := zK hc0; clear hr0 hc0
 have HR2 := zK hr2
 have HC2 := zK hc2; clear hr2 hc2
 have HB := zK (Below.refl w.heap.size w)
 have H : ((shadow_wrong.f k l0 a1).bind fun t227 => (if t227 = true then (some (0, 0, false, false, 1)) else (shadow_Between.l0 k a1 l2 0 0 false false l0 (l0.length : Int) 0))) = some (r1, r2, r3, r4, r5) := h
 clear h; replace H := Option.bind_eq_some_iff.mp H
 obtain ⟨t227, A40, H⟩ := H
 replace H : (if t227 = true then (some (0, 0, false, false, 1)) else (shadow_Between.l0 k a1 l2 0 0 false false l0 (l0.length : Int) 0)) = some (r1, r2, r3, r4, r5) := H
 have A4 := zK A40; clear A40
 by_cases c5 : t227 = true
 ·subst c5
  have H1 : (some (0, 0, false, false, 1)) = some (r1, r2, r3, r4, r5) := by rw [if_pos rfl] at H; exact H
  clear H; have H := H1; clear H1
  simp only [Option.some.injEq, Prod.mk.injEq] at H
  obtain ⟨rfl, rfl, rfl, rfl, rfl⟩ := H
  go_enter Try.func29, Try.ntmps29
  go_wp2_with (first | ((with_reducible refine zC (f := 56) rfl ?_); refine goesL_ (some 27) rfl rfl Try.func56 (by kernel_rfl) rfl #[.slice A0 l0.length c0, .int .i64 a1] rfl (by (try simp only [List.map_toArray, List.map_cons, List.map_nil]); first | done | rfl | (simp only [List.length_drop, List.length_take]; rfl)) ?_; (with_reducible refine (shadow_wrong.calls k _ _ l0 a1 true _ ?side1 ?side2 A4.out).mono ?_); (case side1 => repeat (first | exact HR0.out | (with_reducible refine cA ?_ _) | (with_reducible refine cN ?_ _) | (with_reducible refine cD ?_))); (case side2 => exact HC0.out); rintro e w6 ⟨rfl, hb⟩; refine ⟨_, rfl, ?_⟩; replace HB := zK (below_step (zo HB) hb); (try clear hb); (try clear hb2); (try clear hk); (try clear hi)))
  refine bodyPost_ret (results_list (rs := [.tmp 6, .tmp 7, .tmp 8, .tmp 9, .tmp 10]) rfl (by simp) (.tmp (.tmp (.tmp (.tmp (.tmp .nil)))))) rfl ?_
  exact ⟨by first | rfl | (simp [errW_none, errW_some] <;> rfl) | (simp [*, errW_none, errW_some] <;> rfl), zo HB⟩
 ·replace c5 := Bool.eq_false_iff.mpr c5
  subst c5
  have H1 : (shadow_Between.l0 k a1 l2 0 0 false false l0 (l0.length : Int) 0) = some (r1, r2, r3, r4, r5) := by rw [if_neg (show ¬ (false = true) by decide)] at H; exact H
  clear H; have H := H1; clear H1
  have H' := zK H; clear H
  go_enter Try.func29, Try.ntmps29
  go_wp2_with (first | ((with_reducible refine zC (f := 56) rfl ?_); refine goesL_ (some 27) rfl rfl Try.func56 (by kernel_rfl) rfl #[.slice A0 l0.length c0, .int .i64 a1] rfl (by (try simp only [List.map_toArray, List.map_cons, List.map_nil]); first | done | rfl | (simp only [List.length_drop, List.length_take]; rfl)) ?_; (with_reducible refine (shadow_wrong.calls k _ _ l0 a1 false _ ?side1 ?side2 A4.out).mono ?_); (case side1 => repeat (first | exact HR0.out | (with_reducible refine cA ?_ _) | (with_reducible refine cN ?_ _) | (with_reducible refine cD ?_))); (case side2 => exact HC0.out); rintro e w7 ⟨rfl, hb⟩; refine ⟨_, rfl, ?_⟩; replace HB := zK (below_step (zo HB) hb); (try clear hb); (try clear hb2); (try clear hk); (try clear hi)))
  go_loopg [11, 12, 13, 14, 30] k (fun kq v11 v12 v13 v14 v30 w' => ∃ (x11_1 : Int) (x12_1 : Int) (x13_1 : Bool) (x14_1 : Bool) (x30_1 : Int), v11 = .int .i64 x11_1 ∧ v12 = .int .i64 x12_1 ∧ v13 = .bool x13_1 ∧ v14 = .bool x14_1 ∧ v30 = .int .i64 x30_1 ∧ Aside0 (shadow_Between.l0 kq a1 l2 x11_1 x12_1 x13_1 x14_1 l0 (l0.length : Int) x30_1 = some (r1, r2, r3, r4, r5)) ∧ Aside0 (kq ≤ k) ∧ Aside0 (Below w.heap.size w w'))
  case atStart => exact ⟨(0), (0), (false), (false), (0), (by first | rfl | (simp; done) | (simp [*]; done)), (by first | rfl | (simp; done) | (simp [*]; done)), (by first | rfl | (simp; done) | (simp [*]; done)), (by first | rfl | (simp; done) | (simp [*]; done)), (by first | rfl | (simp; done) | (simp [*]; done)), H', ⟨Nat.le_refl _⟩, ⟨zo HB⟩⟩
  case round =>
   clear H'; try clear c2; try clear p2; try clear c5
   obtain ⟨x11_1, x12_1, x13_1, x14_1, x30_1, rfl, rfl, rfl, rfl, rfl, HA, HK1, HB⟩ := hrel
   cases gk with
   | zero => exact absurd HA.out (by simp [shadow_Between.l0])
   | succ k1 =>
    have H := HA.out; clear HA
    simp only [shadow_Between.l0] at H
    by_cases c8 : x30_1 < (l0.length : Int)
    ·rw [if_pos c8] at H
     have c8b0 : decide (x30_1 < (l0.length : Int)) = true := decide_eq_true c8
     clear c8
     by_cases c9 : 0 ≤ x30_1
     ·rw [if_pos c9] at H
      have c9b0 : decide (0 ≤ x30_1) = true := decide_eq_true c9; clear c9
      by_cases c10 : x30_1 < (l0.length : Int)
      ·rw [if_pos c10] at H
       have c10b0 : decide (x30_1 < (l0.length : Int)) = true := decide_eq_true c10
       clear c10; replace H := Option.bind_eq_some_iff.mp H
       obtain ⟨t230, A110, H⟩ := H
       replace H : (if t230 = 0 then (shadow_Between.l0 k1 a1 l2 x11_1 x12_1 x13_1 x14_1 l0 (l0.length : Int) (wrap64 (x30_1 + 1))) else ((shadow_rest.f k1 ((rd_T70 l0 x30_1).f0.f0) ((rd_T70 l0 x30_1).f0.f1) a1).bind fun bt231 => ((lin_Eval.f k1 bt231.1 bt231.2 l2).bind fun bt235 => (if bt235.2 = 0 then (if t230 < 0 then ((shadow_least.f bt235.1 t230).bind fun t237 => (if x13_1 = true then (if t237 > x11_1 then (shadow_Between.l0 k1 a1 l2 t237 x12_1 true x14_1 l0 (l0.length : Int) (wrap64 (x30_1 + 1))) else (shadow_Between.l0 k1 a1 l2 x11_1 x12_1 x13_1 x14_1 l0 (l0.length : Int) (wrap64 (x30_1 + 1)))) else (shadow_Between.l0 k1 a1 l2 t237 x12_1 true x14_1 l0 (l0.length : Int) (wrap64 (x30_1 + 1))))) else ((num_Ceil.f bt235.1 t230).bind fun bt238 => ((num_Neg.f bt238.1).bind fun bt240 => (if bt240.2 = true then (if x14_1 = true then (if bt240.1 < x12_1 then (shadow_Between.l0 k1 a1 l2 x11_1 bt240.1 x13_1 true l0 (l0.length : Int) (wrap64 (x30_1 + 1))) else (shadow_Between.l0 k1 a1 l2 x11_1 x12_1 x13_1 x14_1 l0 (l0.length : Int) (wrap64 (x30_1 + 1)))) else (shadow_Between.l0 k1 a1 l2 x11_1 bt240.1 x13_1 true l0 (l0.length : Int) (wrap64 (x30_1 + 1)))) else (some (0, 0, false, false, 5)))))) else (some (0, 0, false, false, bt235.2)))))) = some (r1, r2, r3, r4, r5) := H
       have A11 := zK A110; clear A110
       by_cases c12 : t230 = 0
       ·rw [if_pos c12] at H
        have c12b0 : (t230 == 0) = true := beq_iff_eq.mpr c12
        have c12b1 : (t230 != 0) = false := bne_eq_false_iff_eq.mpr c12; clear c12
        have H' := zK H; clear H
        have p228 : 0 ≤ (x30_1 : Int) := of_decide_eq_true (by first | (with_reducible assumption) | assumption)
        have q228 : x30_1 < (l0.length : Int) := of_decide_eq_true (by first | (with_reducible assumption) | assumption)
        obtain ⟨ad228, A228_1, c228_1, e228, hx228_0, hx228_1, hx228_2, hl228_1, hi228_1⟩ := at_T70 HR0.out x30_1 p228 q228
        cases e228
        replace hx228_0 := (HB.out.cell (World.block_lt_of_cell? w _ hx228_0)).trans hx228_0
        replace hx228_1 := (HB.out.cell (World.block_lt_of_cell? w _ hx228_1)).trans hx228_1
        replace hx228_2 := (HB.out.cell (World.block_lt_of_cell? w _ hx228_2)).trans hx228_2
        have HR228_1 := zK hi228_1
        have HC228_1 := zK hl228_1; clear hi228_1 hl228_1
        replace p228 := eq_true p228
        replace q228 := eq_true q228
        go_wp2_with (first | ((with_reducible refine gate_dst (N := 16) rfl ?_); refine box_event ?hg (N := 16) ?hd (cs := #[.int .i64 0, .slice none 0 0, .bool false]) (t := 70) ?hr ?_; (case hd => rfl); (case hg => rfl); (case hr => first | (go_simp; done) | (go_simp; rfl)); intro gb229 hg w13 hbox hb; have BK229 := zK (hbox); have GW229 := zK ((by rw [hg]; exact (below_size (zo HB)) : w.heap.size ≤ gb229)); have GE229 := zK ((by rw [hg]; exact (below_size (zo HB)) : w.heap.size ≤ gb229)); replace HB := zK (below_step (zo HB) hb); clear hb hbox hg; have hcz14_0 : w13.cell? ⟨gb229, 0, none⟩ = some (.int .i64 0) := (blk_cell BK229.out 0).trans rfl; have hcz14_1 : w13.cell? ⟨gb229, 1, none⟩ = some (.slice none 0 0) := (blk_cell BK229.out 1).trans rfl; have hcz14_2 : w13.cell? ⟨gb229, 2, none⟩ = some (.bool false) := (blk_cell BK229.out 2).trans rfl; have hfz14_0 := blk_frozen BK229.out 0; have hfz14_1 := blk_frozen BK229.out 1; have hfz14_2 := blk_frozen BK229.out 2) | ((with_reducible refine zC (f := 46) rfl ?_); refine goesL_ (some 37) rfl rfl Try.func46 (by kernel_rfl) rfl #[.agg #[.int .i64 ((rd_T70 l0 x30_1).f0.f0), .slice A228_1 ((rd_T70 l0 x30_1).f0.f1).length c228_1], .int .i64 a1] rfl (by (try simp only [List.map_toArray, List.map_cons, List.map_nil]); first | done | rfl | (simp only [List.length_drop, List.length_take]; rfl)) ?_; (with_reducible refine (lin_By.calls k1 ((rd_T70 l0 x30_1).f0.f0) _ _ ((rd_T70 l0 x30_1).f0.f1) a1 t230 _ ?side1 ?side2 A11.out).mono ?_); (case side1 => exact Kd.C_below HR228_1.out (zo HB)); (case side2 => exact HC228_1.out); rintro e w15 ⟨rfl, hb⟩; refine ⟨_, rfl, ?_⟩; replace BK229 := zK (blk_below (g := gb229) (o := .cells #[.int .i64 ((rd_T70 l0 x30_1).f0.f0), .slice A228_1 ((rd_T70 l0 x30_1).f0.f1).length c228_1, .bool ((rd_T70 l0 x30_1).f1)] 70 (0, 0)) (by refine zM ?_; refine blk_put (cs := #[.int .i64 ((rd_T70 l0 x30_1).f0.f0), .slice A228_1 ((rd_T70 l0 x30_1).f0.f1).length c228_1, .bool false]) ?_ 2 _ rfl; refine zM ?_; refine blk_put (cs := #[.int .i64 ((rd_T70 l0 x30_1).f0.f0), .slice none 0 0, .bool false]) ?_ 1 _ rfl; refine zM ?_; refine blk_put (cs := #[.int .i64 0, .slice none 0 0, .bool false]) ?_ 0 _ rfl; refine zM ?_; exact BK229.out) hb); replace HB := zK (below_step (zo HB) hb); (try clear hb); (try clear hb2); (try clear hk); (try clear hi)))
        go_roundg k1
        case measure => have := HK1.out; omega
        case rel => exact ⟨(x11_1), (x12_1), (x13_1), (x14_1), (wrap64 (x30_1 + 1)), (by first | rfl | (simp; done) | (simp [*]; done)), (by first | rfl | (simp; done) | (simp [*]; done)), (by first | rfl | (simp; done) | (simp [*]; done)), (by first | rfl | (simp; done) | (simp [*]; done)), (by first | rfl | (simp; done) | (simp [*]; done)), H', ⟨by have := HK1.out; omega⟩, ⟨zo HB⟩⟩
       ·rw [if_neg c12] at H
        have c12b0 : (t230 == 0) = false := beq_eq_false_iff_ne.mpr c12
        have c12b1 : (t230 != 0) = true := bne_iff_ne.mpr c12; replace H := Option.bind_eq_some_iff.mp H
        obtain ⟨⟨t231, t232⟩, A160, H⟩ := H
        replace H : ((lin_Eval.f k1 t231 t232 l2).bind fun bt235 => (if bt235.2 = 0 then (if t230 < 0 then ((shadow_least.f bt235.1 t230).bind fun t237 => (if x13_1 = true then (if t237 > x11_1 then (shadow_Between.l0 k1 a1 l2 t237 x12_1 true x14_1 l0 (l0.length : Int) (wrap64 (x30_1 + 1))) else (shadow_Between.l0 k1 a1 l2 x11_1 x12_1 x13_1 x14_1 l0 (l0.length : Int) (wrap64 (x30_1 + 1)))) else (shadow_Between.l0 k1 a1 l2 t237 x12_1 true x14_1 l0 (l0.length : Int) (wrap64 (x30_1 + 1))))) else ((num_Ceil.f bt235.1 t230).bind fun bt238 => ((num_Neg.f bt238.1).bind fun bt240 => (if bt240.2 = true then (if x14_1 = true then (if bt240.1 < x12_1 then (shadow_Between.l0 k1 a1 l2 x11_1 bt240.1 x13_1 true l0 (l0.length : Int) (wrap64 (x30_1 + 1))) else (shadow_Between.l0 k1 a1 l2 x11_1 x12_1 x13_1 x14_1 l0 (l0.length : Int) (wrap64 (x30_1 + 1)))) else (shadow_Between.l0 k1 a1 l2 x11_1 bt240.1 x13_1 true l0 (l0.length : Int) (wrap64 (x30_1 + 1)))) else (some (0, 0, false, false, 5)))))) else (some (0, 0, false, false, bt235.2)))) = some (r1, r2, r3, r4, r5) := H
        have A16 := zK A160; clear A160; replace H := Option.bind_eq_some_iff.mp H
        obtain ⟨⟨t235, t236⟩, A170, H⟩ := H
        replace H : (if t236 = 0 then (if t230 < 0 then ((shadow_least.f t235 t230).bind fun t237 => (if x13_1 = true then (if t237 > x11_1 then (shadow_Between.l0 k1 a1 l2 t237 x12_1 true x14_1 l0 (l0.length : Int) (wrap64 (x30_1 + 1))) else (shadow_Between.l0 k1 a1 l2 x11_1 x12_1 x13_1 x14_1 l0 (l0.length : Int) (wrap64 (x30_1 + 1)))) else (shadow_Between.l0 k1 a1 l2 t237 x12_1 true x14_1 l0 (l0.length : Int) (wrap64 (x30_1 + 1))))) else ((num_Ceil.f t235 t230).bind fun bt238 => ((num_Neg.f bt238.1).bind fun bt240 => (if bt240.2 = true then (if x14_1 = true then (if bt240.1 < x12_1 then (shadow_Between.l0 k1 a1 l2 x11_1 bt240.1 x13_1 true l0 (l0.length : Int) (wrap64 (x30_1 + 1))) else (shadow_Between.l0 k1 a1 l2 x11_1 x12_1 x13_1 x14_1 l0 (l0.length : Int) (wrap64 (x30_1 + 1)))) else (shadow_Between.l0 k1 a1 l2 x11_1 bt240.1 x13_1 true l0 (l0.length : Int) (wrap64 (x30_1 + 1)))) else (some (0, 0, false, false, 5)))))) else (some (0, 0, false, false, t236))) = some (r1, r2, r3, r4, r5) := H
        have A17 := zK A170; clear A170
        by_cases c18 : t236 = 0
        ·rw [if_pos c18] at H
         have c18b0 : (t236 == 0) = true := beq_iff_eq.mpr c18
         have c18b1 : (t236 != 0) = false := bne_eq_false_iff_eq.mpr c18; clear c18
         by_cases c19 : t230 < 0
         ·rw [if_pos c19] at H
          have c19b0 : decide (t230 < 0) = true := decide_eq_true c19; clear c19
          replace H := Option.bind_eq_some_iff.mp H
          obtain ⟨t237, A200, H⟩ := H
          replace H : (if x13_1 = true then (if t237 > x11_1 then (shadow_Between.l0 k1 a1 l2 t237 x12_1 true x14_1 l0 (l0.length : Int) (wrap64 (x30_1 + 1))) else (shadow_Between.l0 k1 a1 l2 x11_1 x12_1 x13_1 x14_1 l0 (l0.length : Int) (wrap64 (x30_1 + 1)))) else (shadow_Between.l0 k1 a1 l2 t237 x12_1 true x14_1 l0 (l0.length : Int) (wrap64 (x30_1 + 1)))) = some (r1, r2, r3, r4, r5) := H
          have A20 := zK A200; clear A200
          by_cases c21 : x13_1 = true
          ·subst c21
           have H1 : (if t237 > x11_1 then (shadow_Between.l0 k1 a1 l2 t237 x12_1 true x14_1 l0 (l0.length : Int) (wrap64 (x30_1 + 1))) else (shadow_Between.l0 k1 a1 l2 x11_1 x12_1 true x14_1 l0 (l0.length : Int) (wrap64 (x30_1 + 1)))) = some (r1, r2, r3, r4, r5) := by rw [if_pos rfl] at H; exact H
           clear H; have H := H1; clear H1
           by_cases c22 : t237 > x11_1
           ·rw [if_pos c22] at H
            have c22b0 : decide (x11_1 < t237) = true := decide_eq_true c22; clear c22
            have H' := zK H; clear H
            have p228 : 0 ≤ (x30_1 : Int) := of_decide_eq_true (by first | (with_reducible assumption) | assumption)
            have q228 : x30_1 < (l0.length : Int) := of_decide_eq_true (by first | (with_reducible assumption) | assumption)
            obtain ⟨ad228, A228_1, c228_1, e228, hx228_0, hx228_1, hx228_2, hl228_1, hi228_1⟩ := at_T70 HR0.out x30_1 p228 q228
            cases e228
            replace hx228_0 := (HB.out.cell (World.block_lt_of_cell? w _ hx228_0)).trans hx228_0
            replace hx228_1 := (HB.out.cell (World.block_lt_of_cell? w _ hx228_1)).trans hx228_1
            replace hx228_2 := (HB.out.cell (World.block_lt_of_cell? w _ hx228_2)).trans hx228_2
            have HR228_1 := zK hi228_1
            have HC228_1 := zK hl228_1; clear hi228_1 hl228_1
            replace p228 := eq_true p228
            replace q228 := eq_true q228
            go_wp2_with (first | ((with_reducible refine gate_dst (N := 16) rfl ?_); refine box_event ?hg (N := 16) ?hd (cs := #[.int .i64 0, .slice none 0 0, .bool false]) (t := 70) ?hr ?_; (case hd => rfl); (case hg => rfl); (case hr => first | (go_simp; done) | (go_simp; rfl)); intro gb229 hg w23 hbox hb; have BK229 := zK (hbox); have GW229 := zK ((by rw [hg]; exact (below_size (zo HB)) : w.heap.size ≤ gb229)); have GE229 := zK ((by rw [hg]; exact (below_size (zo HB)) : w.heap.size ≤ gb229)); replace HB := zK (below_step (zo HB) hb); clear hb hbox hg; have hcz24_0 : w23.cell? ⟨gb229, 0, none⟩ = some (.int .i64 0) := (blk_cell BK229.out 0).trans rfl; have hcz24_1 : w23.cell? ⟨gb229, 1, none⟩ = some (.slice none 0 0) := (blk_cell BK229.out 1).trans rfl; have hcz24_2 : w23.cell? ⟨gb229, 2, none⟩ = some (.bool false) := (blk_cell BK229.out 2).trans rfl; have hfz24_0 := blk_frozen BK229.out 0; have hfz24_1 := blk_frozen BK229.out 1; have hfz24_2 := blk_frozen BK229.out 2) | ((with_reducible refine zC (f := 46) rfl ?_); refine goesL_ (some 37) rfl rfl Try.func46 (by kernel_rfl) rfl #[.agg #[.int .i64 ((rd_T70 l0 x30_1).f0.f0), .slice A228_1 ((rd_T70 l0 x30_1).f0.f1).length c228_1], .int .i64 a1] rfl (by (try simp only [List.map_toArray, List.map_cons, List.map_nil]); first | done | rfl | (simp only [List.length_drop, List.length_take]; rfl)) ?_; (with_reducible refine (lin_By.calls k1 ((rd_T70 l0 x30_1).f0.f0) _ _ ((rd_T70 l0 x30_1).f0.f1) a1 t230 _ ?side1 ?side2 A11.out).mono ?_); (case side1 => exact Kd.C_below HR228_1.out (zo HB)); (case side2 => exact HC228_1.out); rintro e w25 ⟨rfl, hb⟩; refine ⟨_, rfl, ?_⟩; replace BK229 := zK (blk_below (g := gb229) (o := .cells #[.int .i64 ((rd_T70 l0 x30_1).f0.f0), .slice A228_1 ((rd_T70 l0 x30_1).f0.f1).length c228_1, .bool ((rd_T70 l0 x30_1).f1)] 70 (0, 0)) (by refine zM ?_; refine blk_put (cs := #[.int .i64 ((rd_T70 l0 x30_1).f0.f0), .slice A228_1 ((rd_T70 l0 x30_1).f0.f1).length c228_1, .bool false]) ?_ 2 _ rfl; refine zM ?_; refine blk_put (cs := #[.int .i64 ((rd_T70 l0 x30_1).f0.f0), .slice none 0 0, .bool false]) ?_ 1 _ rfl; refine zM ?_; refine blk_put (cs := #[.int .i64 0, .slice none 0 0, .bool false]) ?_ 0 _ rfl; refine zM ?_; exact BK229.out) hb); replace HB := zK (below_step (zo HB) hb); (try clear hb); (try clear hb2); (try clear hk); (try clear hi); have hcz26_0 : w25.cell? ⟨gb229, 0, none⟩ = some (.int .i64 ((rd_T70 l0 x30_1).f0.f0)) := (blk_cell BK229.out 0).trans rfl; have hcz26_1 : w25.cell? ⟨gb229, 1, none⟩ = some (.slice A228_1 ((rd_T70 l0 x30_1).f0.f1).length c228_1) := (blk_cell BK229.out 1).trans rfl; have hcz26_2 : w25.cell? ⟨gb229, 2, none⟩ = some (.bool ((rd_T70 l0 x30_1).f1)) := (blk_cell BK229.out 2).trans rfl; have hfz26_0 := blk_frozen BK229.out 0; have hfz26_1 := blk_frozen BK229.out 1; have hfz26_2 := blk_frozen BK229.out 2) | ((with_reducible refine zC (f := 58) rfl ?_); refine goesL_ (some 44) rfl rfl Try.func58 (by kernel_rfl) rfl #[.agg #[.int .i64 ((rd_T70 l0 x30_1).f0.f0), .slice A228_1 ((rd_T70 l0 x30_1).f0.f1).length c228_1], .int .i64 a1] rfl (by (try simp only [List.map_toArray, List.map_cons, List.map_nil]); first | done | rfl | (simp only [List.length_drop, List.length_take]; rfl)) ?_; (with_reducible refine (shadow_rest.calls k1 ((rd_T70 l0 x30_1).f0.f0) _ _ ((rd_T70 l0 x30_1).f0.f1) a1 t231 t232 _ ?side1 ?side2 A16.out).mono ?_); (case side1 => repeat (first | exact (Kd.C_below HR228_1.out HB.out) | (with_reducible refine cA ?_ _) | (with_reducible refine cN ?_ _) | (with_reducible refine cD ?_))); (case side2 => exact HC228_1.out); rintro e w27 ⟨v233, rfl, ho0, hb⟩; refine ⟨_, rfl, ?_⟩; have HO234 := zK (Kd.R_lower ho0 (below_size (zo HB))); replace BK229 := zK (blk_below (g := gb229) (o := .cells #[.int .i64 ((rd_T70 l0 x30_1).f0.f0), .slice A228_1 ((rd_T70 l0 x30_1).f0.f1).length c228_1, .bool ((rd_T70 l0 x30_1).f1)] 70 (0, 0)) (zb BK229) hb); replace HB := zK (below_step (zo HB) hb); (try clear hb); (try clear hb2); (try clear hk); (try clear hi); (try clear ho0); obtain ⟨Ao28, co28, eo28⟩ := Kd.R_slice HO234.out; subst eo28) | ((with_reducible refine zC (f := 57) rfl ?_); refine goesL_ (some 46) rfl rfl Try.func57 (by kernel_rfl) rfl #[.agg #[.int .i64 t231, .slice Ao28 t232.length co28], .slice A2 l2.length c2] rfl (by (try simp only [List.map_toArray, List.map_cons, List.map_nil]); first | done | rfl | (simp only [List.length_drop, List.length_take]; rfl)) ?_; (with_reducible refine (lin_Eval.calls k1 t231 _ _ t232 _ _ l2 t235 t236 _ ?side1 ?side2 ?side3 ?side4 A17.out).mono ?_); (case side1 => repeat (first | exact (Kd.R_reads' HO234.out).2.2 | (with_reducible refine cA ?_ _) | (with_reducible refine cN ?_ _) | (with_reducible refine cD ?_))); (case side2 => exact (Kd.R_reads' HO234.out).2.1); (case side3 => repeat (first | exact (Kd.C_below HR2.out HB.out) | (with_reducible refine cA ?_ _) | (with_reducible refine cN ?_ _) | (with_reducible refine cD ?_))); (case side4 => exact HC2.out); rintro e w29 ⟨rfl, hb⟩; refine ⟨_, rfl, ?_⟩; replace HO234 := zK (Kd.R_below (zr HO234) hb); replace BK229 := zK (blk_below (g := gb229) (o := .cells #[.int .i64 ((rd_T70 l0 x30_1).f0.f0), .slice A228_1 ((rd_T70 l0 x30_1).f0.f1).length c228_1, .bool ((rd_T70 l0 x30_1).f1)] 70 (0, 0)) (zb BK229) hb); replace HB := zK (below_step (zo HB) hb); (try clear hb); (try clear hb2); (try clear hk); (try clear hi)) | ((with_reducible refine zC (f := 59) rfl ?_); refine goesL_ (some 56) rfl rfl Try.func59 (by kernel_rfl) rfl #[.int .i64 t235, .int .i64 t230] rfl (by (try simp only [List.map_toArray, List.map_cons, List.map_nil]); first | done | rfl | (simp only [List.length_drop, List.length_take]; rfl)) ?_; (with_reducible refine (shadow_least.calls t235 t230 t237 _ A20.out).mono ?_); rintro e w' ⟨rfl, ⟨nd, rfl⟩⟩; refine ⟨_, rfl, ?_⟩))
            go_roundg k1
            case measure => have := HK1.out; omega
            case rel => exact ⟨(t237), (x12_1), (true), (x14_1), (wrap64 (x30_1 + 1)), (by first | rfl | (simp; done) | (simp [*]; done)), (by first | rfl | (simp; done) | (simp [*]; done)), (by first | rfl | (simp; done) | (simp [*]; done)), (by first | rfl | (simp; done) | (simp [*]; done)), (by first | rfl | (simp; done) | (simp [*]; done)), H', ⟨by have := HK1.out; omega⟩, ⟨zo HB⟩⟩
           ·rw [if_neg c22] at H
            have c22b0 : decide (x11_1 < t237) = false := decide_eq_false c22; clear c22
            have H' := zK H; clear H
            have p228 : 0 ≤ (x30_1 : Int) := of_decide_eq_true (by first | (with_reducible assumption) | assumption)
            have q228 : x30_1 < (l0.length : Int) := of_decide_eq_true (by first | (with_reducible assumption) | assumption)
            obtain ⟨ad228, A228_1, c228_1, e228, hx228_0, hx228_1, hx228_2, hl228_1, hi228_1⟩ := at_T70 HR0.out x30_1 p228 q228
            cases e228
            replace hx228_0 := (HB.out.cell (World.block_lt_of_cell? w _ hx228_0)).trans hx228_0
            replace hx228_1 := (HB.out.cell (World.block_lt_of_cell? w _ hx228_1)).trans hx228_1
            replace hx228_2 := (HB.out.cell (World.block_lt_of_cell? w _ hx228_2)).trans hx228_2
            have HR228_1 := zK hi228_1
            have HC228_1 := zK hl228_1; clear hi228_1 hl228_1
            replace p228 := eq_true p228
            replace q228 := eq_true q228
            go_wp2_with (first | ((with_reducible refine gate_dst (N := 16) rfl ?_); refine box_event ?hg (N := 16) ?hd (cs := #[.int .i64 0, .slice none 0 0, .bool false]) (t := 70) ?hr ?_; (case hd => rfl); (case hg => rfl); (case hr => first | (go_simp; done) | (go_simp; rfl)); intro gb229 hg w30 hbox hb; have BK229 := zK (hbox); have GW229 := zK ((by rw [hg]; exact (below_size (zo HB)) : w.heap.size ≤ gb229)); have GE229 := zK ((by rw [hg]; exact (below_size (zo HB)) : w.heap.size ≤ gb229)); replace HB := zK (below_step (zo HB) hb); clear hb hbox hg; have hcz31_0 : w30.cell? ⟨gb229, 0, none⟩ = some (.int .i64 0) := (blk_cell BK229.out 0).trans rfl; have hcz31_1 : w30.cell? ⟨gb229, 1, none⟩ = some (.slice none 0 0) := (blk_cell BK229.out 1).trans rfl; have hcz31_2 : w30.cell? ⟨gb229, 2, none⟩ = some (.bool false) := (blk_cell BK229.out 2).trans rfl; have hfz31_0 := blk_frozen BK229.out 0; have hfz31_1 := blk_frozen BK229.out 1; have hfz31_2 := blk_frozen BK229.out 2) | ((with_reducible refine zC (f := 46) rfl ?_); refine goesL_ (some 37) rfl rfl Try.func46 (by kernel_rfl) rfl #[.agg #[.int .i64 ((rd_T70 l0 x30_1).f0.f0), .slice A228_1 ((rd_T70 l0 x30_1).f0.f1).length c228_1], .int .i64 a1] rfl (by (try simp only [List.map_toArray, List.map_cons, List.map_nil]); first | done | rfl | (simp only [List.length_drop, List.length_take]; rfl)) ?_; (with_reducible refine (lin_By.calls k1 ((rd_T70 l0 x30_1).f0.f0) _ _ ((rd_T70 l0 x30_1).f0.f1) a1 t230 _ ?side1 ?side2 A11.out).mono ?_); (case side1 => exact Kd.C_below HR228_1.out (zo HB)); (case side2 => exact HC228_1.out); rintro e w32 ⟨rfl, hb⟩; refine ⟨_, rfl, ?_⟩; replace BK229 := zK (blk_below (g := gb229) (o := .cells #[.int .i64 ((rd_T70 l0 x30_1).f0.f0), .slice A228_1 ((rd_T70 l0 x30_1).f0.f1).length c228_1, .bool ((rd_T70 l0 x30_1).f1)] 70 (0, 0)) (by refine zM ?_; refine blk_put (cs := #[.int .i64 ((rd_T70 l0 x30_1).f0.f0), .slice A228_1 ((rd_T70 l0 x30_1).f0.f1).length c228_1, .bool false]) ?_ 2 _ rfl; refine zM ?_; refine blk_put (cs := #[.int .i64 ((rd_T70 l0 x30_1).f0.f0), .slice none 0 0, .bool false]) ?_ 1 _ rfl; refine zM ?_; refine blk_put (cs := #[.int .i64 0, .slice none 0 0, .bool false]) ?_ 0 _ rfl; refine zM ?_; exact BK229.out) hb); replace HB := zK (below_step (zo HB) hb); (try clear hb); (try clear hb2); (try clear hk); (try clear hi); have hcz33_0 : w32.cell? ⟨gb229, 0, none⟩ = some (.int .i64 ((rd_T70 l0 x30_1).f0.f0)) := (blk_cell BK229.out 0).trans rfl; have hcz33_1 : w32.cell? ⟨gb229, 1, none⟩ = some (.slice A228_1 ((rd_T70 l0 x30_1).f0.f1).length c228_1) := (blk_cell BK229.out 1).trans rfl; have hcz33_2 : w32.cell? ⟨gb229, 2, none⟩ = some (.bool ((rd_T70 l0 x30_1).f1)) := (blk_cell BK229.out 2).trans rfl; have hfz33_0 := blk_frozen BK229.out 0; have hfz33_1 := blk_frozen BK229.out 1; have hfz33_2 := blk_frozen BK229.out 2) | ((with_reducible refine zC (f := 58) rfl ?_); refine goesL_ (some 44) rfl rfl Try.func58 (by kernel_rfl) rfl #[.agg #[.int .i64 ((rd_T70 l0 x30_1).f0.f0), .slice A228_1 ((rd_T70 l0 x30_1).f0.f1).length c228_1], .int .i64 a1] rfl (by (try simp only [List.map_toArray, List.map_cons, List.map_nil]); first | done | rfl | (simp only [List.length_drop, List.length_take]; rfl)) ?_; (with_reducible refine (shadow_rest.calls k1 ((rd_T70 l0 x30_1).f0.f0) _ _ ((rd_T70 l0 x30_1).f0.f1) a1 t231 t232 _ ?side1 ?side2 A16.out).mono ?_); (case side1 => repeat (first | exact (Kd.C_below HR228_1.out HB.out) | (with_reducible refine cA ?_ _) | (with_reducible refine cN ?_ _) | (with_reducible refine cD ?_))); (case side2 => exact HC228_1.out); rintro e w34 ⟨v233, rfl, ho0, hb⟩; refine ⟨_, rfl, ?_⟩; have HO234 := zK (Kd.R_lower ho0 (below_size (zo HB))); replace BK229 := zK (blk_below (g := gb229) (o := .cells #[.int .i64 ((rd_T70 l0 x30_1).f0.f0), .slice A228_1 ((rd_T70 l0 x30_1).f0.f1).length c228_1, .bool ((rd_T70 l0 x30_1).f1)] 70 (0, 0)) (zb BK229) hb); replace HB := zK (below_step (zo HB) hb); (try clear hb); (try clear hb2); (try clear hk); (try clear hi); (try clear ho0); obtain ⟨Ao35, co35, eo35⟩ := Kd.R_slice HO234.out; subst eo35) | ((with_reducible refine zC (f := 57) rfl ?_); refine goesL_ (some 46) rfl rfl Try.func57 (by kernel_rfl) rfl #[.agg #[.int .i64 t231, .slice Ao35 t232.length co35], .slice A2 l2.length c2] rfl (by (try simp only [List.map_toArray, List.map_cons, List.map_nil]); first | done | rfl | (simp only [List.length_drop, List.length_take]; rfl)) ?_; (with_reducible refine (lin_Eval.calls k1 t231 _ _ t232 _ _ l2 t235 t236 _ ?side1 ?side2 ?side3 ?side4 A17.out).mono ?_); (case side1 => repeat (first | exact (Kd.R_reads' HO234.out).2.2 | (with_reducible refine cA ?_ _) | (with_reducible refine cN ?_ _) | (with_reducible refine cD ?_))); (case side2 => exact (Kd.R_reads' HO234.out).2.1); (case side3 => repeat (first | exact (Kd.C_below HR2.out HB.out) | (with_reducible refine cA ?_ _) | (with_reducible refine cN ?_ _) | (with_reducible refine cD ?_))); (case side4 => exact HC2.out); rintro e w36 ⟨rfl, hb⟩; refine ⟨_, rfl, ?_⟩; replace HO234 := zK (Kd.R_below (zr HO234) hb); replace BK229 := zK (blk_below (g := gb229) (o := .cells #[.int .i64 ((rd_T70 l0 x30_1).f0.f0), .slice A228_1 ((rd_T70 l0 x30_1).f0.f1).length c228_1, .bool ((rd_T70 l0 x30_1).f1)] 70 (0, 0)) (zb BK229) hb); replace HB := zK (below_step (zo HB) hb); (try clear hb); (try clear hb2); (try clear hk); (try clear hi)) | ((with_reducible refine zC (f := 59) rfl ?_); refine goesL_ (some 56) rfl rfl Try.func59 (by kernel_rfl) rfl #[.int .i64 t235, .int .i64 t230] rfl (by (try simp only [List.map_toArray, List.map_cons, List.map_nil]); first | done | rfl | (simp only [List.length_drop, List.length_take]; rfl)) ?_; (with_reducible refine (shadow_least.calls t235 t230 t237 _ A20.out).mono ?_); rintro e w' ⟨rfl, ⟨nd, rfl⟩⟩; refine ⟨_, rfl, ?_⟩))
            go_roundg k1
            case measure => have := HK1.out; omega
            case rel => exact ⟨(x11_1), (x12_1), (true), (x14_1), (wrap64 (x30_1 + 1)), (by first | rfl | (simp; done) | (simp [*]; done)), (by first | rfl | (simp; done) | (simp [*]; done)), (by first | rfl | (simp; done) | (simp [*]; done)), (by first | rfl | (simp; done) | (simp [*]; done)), (by first | rfl | (simp; done) | (simp [*]; done)), H', ⟨by have := HK1.out; omega⟩, ⟨zo HB⟩⟩
          ·replace c21 := Bool.eq_false_iff.mpr c21
           subst c21
           have H1 : (shadow_Between.l0 k1 a1 l2 t237 x12_1 true x14_1 l0 (l0.length : Int) (wrap64 (x30_1 + 1))) = some (r1, r2, r3, r4, r5) := by rw [if_neg (show ¬ (false = true) by decide)] at H; exact H
           clear H; have H := H1; clear H1
           have H' := zK H; clear H
           have p228 : 0 ≤ (x30_1 : Int) := of_decide_eq_true (by first | (with_reducible assumption) | assumption)
           have q228 : x30_1 < (l0.length : Int) := of_decide_eq_true (by first | (with_reducible assumption) | assumption)
           obtain ⟨ad228, A228_1, c228_1, e228, hx228_0, hx228_1, hx228_2, hl228_1, hi228_1⟩ := at_T70 HR0.out x30_1 p228 q228
           cases e228
           replace hx228_0 := (HB.out.cell (World.block_lt_of_cell? w _ hx228_0)).trans hx228_0
           replace hx228_1 := (HB.out.cell (World.block_lt_of_cell? w _ hx228_1)).trans hx228_1
           replace hx228_2 := (HB.out.cell (World.block_lt_of_cell? w _ hx228_2)).trans hx228_2
           have HR228_1 := zK hi228_1
           have HC228_1 := zK hl228_1; clear hi228_1 hl228_1
           replace p228 := eq_true p228
           replace q228 := eq_true q228
           go_wp2_with (first | ((with_reducible refine gate_dst (N := 16) rfl ?_); refine box_event ?hg (N := 16) ?hd (cs := #[.int .i64 0, .slice none 0 0, .bool false]) (t := 70) ?hr ?_; (case hd => rfl); (case hg => rfl); (case hr => first | (go_simp; done) | (go_simp; rfl)); intro gb229 hg w37 hbox hb; have BK229 := zK (hbox); have GW229 := zK ((by rw [hg]; exact (below_size (zo HB)) : w.heap.size ≤ gb229)); have GE229 := zK ((by rw [hg]; exact (below_size (zo HB)) : w.heap.size ≤ gb229)); replace HB := zK (below_step (zo HB) hb); clear hb hbox hg; have hcz38_0 : w37.cell? ⟨gb229, 0, none⟩ = some (.int .i64 0) := (blk_cell BK229.out 0).trans rfl; have hcz38_1 : w37.cell? ⟨gb229, 1, none⟩ = some (.slice none 0 0) := (blk_cell BK229.out 1).trans rfl; have hcz38_2 : w37.cell? ⟨gb229, 2, none⟩ = some (.bool false) := (blk_cell BK229.out 2).trans rfl; have hfz38_0 := blk_frozen BK229.out 0; have hfz38_1 := blk_frozen BK229.out 1; have hfz38_2 := blk_frozen BK229.out 2) | ((with_reducible refine zC (f := 46) rfl ?_); refine goesL_ (some 37) rfl rfl Try.func46 (by kernel_rfl) rfl #[.agg #[.int .i64 ((rd_T70 l0 x30_1).f0.f0), .slice A228_1 ((rd_T70 l0 x30_1).f0.f1).length c228_1], .int .i64 a1] rfl (by (try simp only [List.map_toArray, List.map_cons, List.map_nil]); first | done | rfl | (simp only [List.length_drop, List.length_take]; rfl)) ?_; (with_reducible refine (lin_By.calls k1 ((rd_T70 l0 x30_1).f0.f0) _ _ ((rd_T70 l0 x30_1).f0.f1) a1 t230 _ ?side1 ?side2 A11.out).mono ?_); (case side1 => exact Kd.C_below HR228_1.out (zo HB)); (case side2 => exact HC228_1.out); rintro e w39 ⟨rfl, hb⟩; refine ⟨_, rfl, ?_⟩; replace BK229 := zK (blk_below (g := gb229) (o := .cells #[.int .i64 ((rd_T70 l0 x30_1).f0.f0), .slice A228_1 ((rd_T70 l0 x30_1).f0.f1).length c228_1, .bool ((rd_T70 l0 x30_1).f1)] 70 (0, 0)) (by refine zM ?_; refine blk_put (cs := #[.int .i64 ((rd_T70 l0 x30_1).f0.f0), .slice A228_1 ((rd_T70 l0 x30_1).f0.f1).length c228_1, .bool false]) ?_ 2 _ rfl; refine zM ?_; refine blk_put (cs := #[.int .i64 ((rd_T70 l0 x30_1).f0.f0), .slice none 0 0, .bool false]) ?_ 1 _ rfl; refine zM ?_; refine blk_put (cs := #[.int .i64 0, .slice none 0 0, .bool false]) ?_ 0 _ rfl; refine zM ?_; exact BK229.out) hb); replace HB := zK (below_step (zo HB) hb); (try clear hb); (try clear hb2); (try clear hk); (try clear hi); have hcz40_0 : w39.cell? ⟨gb229, 0, none⟩ = some (.int .i64 ((rd_T70 l0 x30_1).f0.f0)) := (blk_cell BK229.out 0).trans rfl; have hcz40_1 : w39.cell? ⟨gb229, 1, none⟩ = some (.slice A228_1 ((rd_T70 l0 x30_1).f0.f1).length c228_1) := (blk_cell BK229.out 1).trans rfl; have hcz40_2 : w39.cell? ⟨gb229, 2, none⟩ = some (.bool ((rd_T70 l0 x30_1).f1)) := (blk_cell BK229.out 2).trans rfl; have hfz40_0 := blk_frozen BK229.out 0; have hfz40_1 := blk_frozen BK229.out 1; have hfz40_2 := blk_frozen BK229.out 2) | ((with_reducible refine zC (f := 58) rfl ?_); refine goesL_ (some 44) rfl rfl Try.func58 (by kernel_rfl) rfl #[.agg #[.int .i64 ((rd_T70 l0 x30_1).f0.f0), .slice A228_1 ((rd_T70 l0 x30_1).f0.f1).length c228_1], .int .i64 a1] rfl (by (try simp only [List.map_toArray, List.map_cons, List.map_nil]); first | done | rfl | (simp only [List.length_drop, List.length_take]; rfl)) ?_; (with_reducible refine (shadow_rest.calls k1 ((rd_T70 l0 x30_1).f0.f0) _ _ ((rd_T70 l0 x30_1).f0.f1) a1 t231 t232 _ ?side1 ?side2 A16.out).mono ?_); (case side1 => repeat (first | exact (Kd.C_below HR228_1.out HB.out) | (with_reducible refine cA ?_ _) | (with_reducible refine cN ?_ _) | (with_reducible refine cD ?_))); (case side2 => exact HC228_1.out); rintro e w41 ⟨v233, rfl, ho0, hb⟩; refine ⟨_, rfl, ?_⟩; have HO234 := zK (Kd.R_lower ho0 (below_size (zo HB))); replace BK229 := zK (blk_below (g := gb229) (o := .cells #[.int .i64 ((rd_T70 l0 x30_1).f0.f0), .slice A228_1 ((rd_T70 l0 x30_1).f0.f1).length c228_1, .bool ((rd_T70 l0 x30_1).f1)] 70 (0, 0)) (zb BK229) hb); replace HB := zK (below_step (zo HB) hb); (try clear hb); (try clear hb2); (try clear hk); (try clear hi); (try clear ho0); obtain ⟨Ao42, co42, eo42⟩ := Kd.R_slice HO234.out; subst eo42) | ((with_reducible refine zC (f := 57) rfl ?_); refine goesL_ (some 46) rfl rfl Try.func57 (by kernel_rfl) rfl #[.agg #[.int .i64 t231, .slice Ao42 t232.length co42], .slice A2 l2.length c2] rfl (by (try simp only [List.map_toArray, List.map_cons, List.map_nil]); first | done | rfl | (simp only [List.length_drop, List.length_take]; rfl)) ?_; (with_reducible refine (lin_Eval.calls k1 t231 _ _ t232 _ _ l2 t235 t236 _ ?side1 ?side2 ?side3 ?side4 A17.out).mono ?_); (case side1 => repeat (first | exact (Kd.R_reads' HO234.out).2.2 | (with_reducible refine cA ?_ _) | (with_reducible refine cN ?_ _) | (with_reducible refine cD ?_))); (case side2 => exact (Kd.R_reads' HO234.out).2.1); (case side3 => repeat (first | exact (Kd.C_below HR2.out HB.out) | (with_reducible refine cA ?_ _) | (with_reducible refine cN ?_ _) | (with_reducible refine cD ?_))); (case side4 => exact HC2.out); rintro e w43 ⟨rfl, hb⟩; refine ⟨_, rfl, ?_⟩; replace HO234 := zK (Kd.R_below (zr HO234) hb); replace BK229 := zK (blk_below (g := gb229) (o := .cells #[.int .i64 ((rd_T70 l0 x30_1).f0.f0), .slice A228_1 ((rd_T70 l0 x30_1).f0.f1).length c228_1, .bool ((rd_T70 l0 x30_1).f1)] 70 (0, 0)) (zb BK229) hb); replace HB := zK (below_step (zo HB) hb); (try clear hb); (try clear hb2); (try clear hk); (try clear hi)) | ((with_reducible refine zC (f := 59) rfl ?_); refine goesL_ (some 56) rfl rfl Try.func59 (by kernel_rfl) rfl #[.int .i64 t235, .int .i64 t230] rfl (by (try simp only [List.map_toArray, List.map_cons, List.map_nil]); first | done | rfl | (simp only [List.length_drop, List.length_take]; rfl)) ?_; (with_reducible refine (shadow_least.calls t235 t230 t237 _ A20.out).mono ?_); rintro e w' ⟨rfl, ⟨nd, rfl⟩⟩; refine ⟨_, rfl, ?_⟩))
           go_roundg k1
           case measure => have := HK1.out; omega
           case rel => exact ⟨(t237), (x12_1), (true), (x14_1), (wrap64 (x30_1 + 1)), (by first | rfl | (simp; done) | (simp [*]; done)), (by first | rfl | (simp; done) | (simp [*]; done)), (by first | rfl | (simp; done) | (simp [*]; done)), (by first | rfl | (simp; done) | (simp [*]; done)), (by first | rfl | (simp; done) | (simp [*]; done)), H', ⟨by have := HK1.out; omega⟩, ⟨zo HB⟩⟩
         ·rw [if_neg c19] at H
          have c19b0 : decide (t230 < 0) = false := decide_eq_false c19; clear c19
          replace H := Option.bind_eq_some_iff.mp H
          obtain ⟨⟨t238, t239⟩, A440, H⟩ := H
          replace H : ((num_Neg.f t238).bind fun bt240 => (if bt240.2 = true then (if x14_1 = true then (if bt240.1 < x12_1 then (shadow_Between.l0 k1 a1 l2 x11_1 bt240.1 x13_1 true l0 (l0.length : Int) (wrap64 (x30_1 + 1))) else (shadow_Between.l0 k1 a1 l2 x11_1 x12_1 x13_1 x14_1 l0 (l0.length : Int) (wrap64 (x30_1 + 1)))) else (shadow_Between.l0 k1 a1 l2 x11_1 bt240.1 x13_1 true l0 (l0.length : Int) (wrap64 (x30_1 + 1)))) else (some (0, 0, false, false, 5)))) = some (r1, r2, r3, r4, r5) := H
          have A44 := zK A440; clear A440; replace H := Option.bind_eq_some_iff.mp H
          obtain ⟨⟨t240, t241⟩, A450, H⟩ := H
          replace H : (if t241 = true then (if x14_1 = true then (if t240 < x12_1 then (shadow_Between.l0 k1 a1 l2 x11_1 t240 x13_1 true l0 (l0.length : Int) (wrap64 (x30_1 + 1))) else (shadow_Between.l0 k1 a1 l2 x11_1 x12_1 x13_1 x14_1 l0 (l0.length : Int) (wrap64 (x30_1 + 1)))) else (shadow_Between.l0 k1 a1 l2 x11_1 t240 x13_1 true l0 (l0.length : Int) (wrap64 (x30_1 + 1)))) else (some (0, 0, false, false, 5))) = some (r1, r2, r3, r4, r5) := H
          have A45 := zK A450; clear A450
          by_cases c46 : t241 = true
          ·subst c46
           have H1 : (if x14_1 = true then (if t240 < x12_1 then (shadow_Between.l0 k1 a1 l2 x11_1 t240 x13_1 true l0 (l0.length : Int) (wrap64 (x30_1 + 1))) else (shadow_Between.l0 k1 a1 l2 x11_1 x12_1 x13_1 x14_1 l0 (l0.length : Int) (wrap64 (x30_1 + 1)))) else (shadow_Between.l0 k1 a1 l2 x11_1 t240 x13_1 true l0 (l0.length : Int) (wrap64 (x30_1 + 1)))) = some (r1, r2, r3, r4, r5) := by rw [if_pos rfl] at H; exact H
           clear H; have H := H1; clear H1
           by_cases c47 : x14_1 = true
           ·subst c47
            have H1 : (if t240 < x12_1 then (shadow_Between.l0 k1 a1 l2 x11_1 t240 x13_1 true l0 (l0.length : Int) (wrap64 (x30_1 + 1))) else (shadow_Between.l0 k1 a1 l2 x11_1 x12_1 x13_1 true l0 (l0.length : Int) (wrap64 (x30_1 + 1)))) = some (r1, r2, r3, r4, r5) := by rw [if_pos rfl] at H; exact H
            clear H; have H := H1; clear H1
            by_cases c48 : t240 < x12_1
            ·rw [if_pos c48] at H
             have c48b0 : decide (t240 < x12_1) = true := decide_eq_true c48; clear c48
             have H' := zK H; clear H
             have p228 : 0 ≤ (x30_1 : Int) := of_decide_eq_true (by first | (with_reducible assumption) | assumption)
             have q228 : x30_1 < (l0.length : Int) := of_decide_eq_true (by first | (with_reducible assumption) | assumption)
             obtain ⟨ad228, A228_1, c228_1, e228, hx228_0, hx228_1, hx228_2, hl228_1, hi228_1⟩ := at_T70 HR0.out x30_1 p228 q228
             cases e228
             replace hx228_0 := (HB.out.cell (World.block_lt_of_cell? w _ hx228_0)).trans hx228_0
             replace hx228_1 := (HB.out.cell (World.block_lt_of_cell? w _ hx228_1)).trans hx228_1
             replace hx228_2 := (HB.out.cell (World.block_lt_of_cell? w _ hx228_2)).trans hx228_2
             have HR228_1 := zK hi228_1
             have HC228_1 := zK hl228_1; clear hi228_1 hl228_1
             replace p228 := eq_true p228
             replace q228 := eq_true q228
             go_wp2_with (first | ((with_reducible refine gate_dst (N := 16) rfl ?_); refine box_event ?hg (N := 16) ?hd (cs := #[.int .i64 0, .slice none 0 0, .bool false]) (t := 70) ?hr ?_; (case hd => rfl); (case hg => rfl); (case hr => first | (go_simp; done) | (go_simp; rfl)); intro gb229 hg w49 hbox hb; have BK229 := zK (hbox); have GW229 := zK ((by rw [hg]; exact (below_size (zo HB)) : w.heap.size ≤ gb229)); have GE229 := zK ((by rw [hg]; exact (below_size (zo HB)) : w.heap.size ≤ gb229)); replace HB := zK (below_step (zo HB) hb); clear hb hbox hg; have hcz50_0 : w49.cell? ⟨gb229, 0, none⟩ = some (.int .i64 0) := (blk_cell BK229.out 0).trans rfl; have hcz50_1 : w49.cell? ⟨gb229, 1, none⟩ = some (.slice none 0 0) := (blk_cell BK229.out 1).trans rfl; have hcz50_2 : w49.cell? ⟨gb229, 2, none⟩ = some (.bool false) := (blk_cell BK229.out 2).trans rfl; have hfz50_0 := blk_frozen BK229.out 0; have hfz50_1 := blk_frozen BK229.out 1; have hfz50_2 := blk_frozen BK229.out 2) | ((with_reducible refine zC (f := 46) rfl ?_); refine goesL_ (some 37) rfl rfl Try.func46 (by kernel_rfl) rfl #[.agg #[.int .i64 ((rd_T70 l0 x30_1).f0.f0), .slice A228_1 ((rd_T70 l0 x30_1).f0.f1).length c228_1], .int .i64 a1] rfl (by (try simp only [List.map_toArray, List.map_cons, List.map_nil]); first | done | rfl | (simp only [List.length_drop, List.length_take]; rfl)) ?_; (with_reducible refine (lin_By.calls k1 ((rd_T70 l0 x30_1).f0.f0) _ _ ((rd_T70 l0 x30_1).f0.f1) a1 t230 _ ?side1 ?side2 A11.out).mono ?_); (case side1 => exact Kd.C_below HR228_1.out (zo HB)); (case side2 => exact HC228_1.out); rintro e w51 ⟨rfl, hb⟩; refine ⟨_, rfl, ?_⟩; replace BK229 := zK (blk_below (g := gb229) (o := .cells #[.int .i64 ((rd_T70 l0 x30_1).f0.f0), .slice A228_1 ((rd_T70 l0 x30_1).f0.f1).length c228_1, .bool ((rd_T70 l0 x30_1).f1)] 70 (0, 0)) (by refine zM ?_; refine blk_put (cs := #[.int .i64 ((rd_T70 l0 x30_1).f0.f0), .slice A228_1 ((rd_T70 l0 x30_1).f0.f1).length c228_1, .bool false]) ?_ 2 _ rfl; refine zM ?_; refine blk_put (cs := #[.int .i64 ((rd_T70 l0 x30_1).f0.f0), .slice none 0 0, .bool false]) ?_ 1 _ rfl; refine zM ?_; refine blk_put (cs := #[.int .i64 0, .slice none 0 0, .bool false]) ?_ 0 _ rfl; refine zM ?_; exact BK229.out) hb); replace HB := zK (below_step (zo HB) hb); (try clear hb); (try clear hb2); (try clear hk); (try clear hi); have hcz52_0 : w51.cell? ⟨gb229, 0, none⟩ = some (.int .i64 ((rd_T70 l0 x30_1).f0.f0)) := (blk_cell BK229.out 0).trans rfl; have hcz52_1 : w51.cell? ⟨gb229, 1, none⟩ = some (.slice A228_1 ((rd_T70 l0 x30_1).f0.f1).length c228_1) := (blk_cell BK229.out 1).trans rfl; have hcz52_2 : w51.cell? ⟨gb229, 2, none⟩ = some (.bool ((rd_T70 l0 x30_1).f1)) := (blk_cell BK229.out 2).trans rfl; have hfz52_0 := blk_frozen BK229.out 0; have hfz52_1 := blk_frozen BK229.out 1; have hfz52_2 := blk_frozen BK229.out 2) | ((with_reducible refine zC (f := 58) rfl ?_); refine goesL_ (some 44) rfl rfl Try.func58 (by kernel_rfl) rfl #[.agg #[.int .i64 ((rd_T70 l0 x30_1).f0.f0), .slice A228_1 ((rd_T70 l0 x30_1).f0.f1).length c228_1], .int .i64 a1] rfl (by (try simp only [List.map_toArray, List.map_cons, List.map_nil]); first | done | rfl | (simp only [List.length_drop, List.length_take]; rfl)) ?_; (with_reducible refine (shadow_rest.calls k1 ((rd_T70 l0 x30_1).f0.f0) _ _ ((rd_T70 l0 x30_1).f0.f1) a1 t231 t232 _ ?side1 ?side2 A16.out).mono ?_); (case side1 => repeat (first | exact (Kd.C_below HR228_1.out HB.out) | (with_reducible refine cA ?_ _) | (with_reducible refine cN ?_ _) | (with_reducible refine cD ?_))); (case side2 => exact HC228_1.out); rintro e w53 ⟨v233, rfl, ho0, hb⟩; refine ⟨_, rfl, ?_⟩; have HO234 := zK (Kd.R_lower ho0 (below_size (zo HB))); replace BK229 := zK (blk_below (g := gb229) (o := .cells #[.int .i64 ((rd_T70 l0 x30_1).f0.f0), .slice A228_1 ((rd_T70 l0 x30_1).f0.f1).length c228_1, .bool ((rd_T70 l0 x30_1).f1)] 70 (0, 0)) (zb BK229) hb); replace HB := zK (below_step (zo HB) hb); (try clear hb); (try clear hb2); (try clear hk); (try clear hi); (try clear ho0); obtain ⟨Ao54, co54, eo54⟩ := Kd.R_slice HO234.out; subst eo54) | ((with_reducible refine zC (f := 57) rfl ?_); refine goesL_ (some 46) rfl rfl Try.func57 (by kernel_rfl) rfl #[.agg #[.int .i64 t231, .slice Ao54 t232.length co54], .slice A2 l2.length c2] rfl (by (try simp only [List.map_toArray, List.map_cons, List.map_nil]); first | done | rfl | (simp only [List.length_drop, List.length_take]; rfl)) ?_; (with_reducible refine (lin_Eval.calls k1 t231 _ _ t232 _ _ l2 t235 t236 _ ?side1 ?side2 ?side3 ?side4 A17.out).mono ?_); (case side1 => repeat (first | exact (Kd.R_reads' HO234.out).2.2 | (with_reducible refine cA ?_ _) | (with_reducible refine cN ?_ _) | (with_reducible refine cD ?_))); (case side2 => exact (Kd.R_reads' HO234.out).2.1); (case side3 => repeat (first | exact (Kd.C_below HR2.out HB.out) | (with_reducible refine cA ?_ _) | (with_reducible refine cN ?_ _) | (with_reducible refine cD ?_))); (case side4 => exact HC2.out); rintro e w55 ⟨rfl, hb⟩; refine ⟨_, rfl, ?_⟩; replace HO234 := zK (Kd.R_below (zr HO234) hb); replace BK229 := zK (blk_below (g := gb229) (o := .cells #[.int .i64 ((rd_T70 l0 x30_1).f0.f0), .slice A228_1 ((rd_T70 l0 x30_1).f0.f1).length c228_1, .bool ((rd_T70 l0 x30_1).f1)] 70 (0, 0)) (zb BK229) hb); replace HB := zK (below_step (zo HB) hb); (try clear hb); (try clear hb2); (try clear hk); (try clear hi)) | ((with_reducible refine zC (f := 60) rfl ?_); refine goesL_ (some 68) rfl rfl Try.func60 (by kernel_rfl) rfl #[.int .i64 t235, .int .i64 t230] rfl (by (try simp only [List.map_toArray, List.map_cons, List.map_nil]); first | done | rfl | (simp only [List.length_drop, List.length_take]; rfl)) ?_; (with_reducible refine (num_Ceil.calls t235 t230 t238 t239 _ A44.out).mono ?_); rintro e w' ⟨rfl, ⟨nd, rfl⟩⟩; refine ⟨_, rfl, ?_⟩) | ((with_reducible refine zC (f := 61) rfl ?_); refine goesL_ (some 73) rfl rfl Try.func61 (by kernel_rfl) rfl #[.int .i64 t238] rfl (by (try simp only [List.map_toArray, List.map_cons, List.map_nil]); first | done | rfl | (simp only [List.length_drop, List.length_take]; rfl)) ?_; (with_reducible refine (num_Neg.calls t238 t240 true _ A45.out).mono ?_); rintro e w' ⟨rfl, ⟨nd, rfl⟩⟩; refine ⟨_, rfl, ?_⟩))
             go_roundg k1
             case measure => have := HK1.out; omega
             case rel => exact ⟨(x11_1), (t240), (x13_1), (true), (wrap64 (x30_1 + 1)), (by first | rfl | (simp; done) | (simp [*]; done)), (by first | rfl | (simp; done) | (simp [*]; done)), (by first | rfl | (simp; done) | (simp [*]; done)), (by first | rfl | (simp; done) | (simp [*]; done)), (by first | rfl | (simp; done) | (simp [*]; done)), H', ⟨by have := HK1.out; omega⟩, ⟨zo HB⟩⟩
            ·rw [if_neg c48] at H
             have c48b0 : decide (t240 < x12_1) = false := decide_eq_false c48; clear c48
             have H' := zK H; clear H
             have p228 : 0 ≤ (x30_1 : Int) := of_decide_eq_true (by first | (with_reducible assumption) | assumption)
             have q228 : x30_1 < (l0.length : Int) := of_decide_eq_true (by first | (with_reducible assumption) | assumption)
             obtain ⟨ad228, A228_1, c228_1, e228, hx228_0, hx228_1, hx228_2, hl228_1, hi228_1⟩ := at_T70 HR0.out x30_1 p228 q228
             cases e228
             replace hx228_0 := (HB.out.cell (World.block_lt_of_cell? w _ hx228_0)).trans hx228_0
             replace hx228_1 := (HB.out.cell (World.block_lt_of_cell? w _ hx228_1)).trans hx228_1
             replace hx228_2 := (HB.out.cell (World.block_lt_of_cell? w _ hx228_2)).trans hx228_2
             have HR228_1 := zK hi228_1
             have HC228_1 := zK hl228_1; clear hi228_1 hl228_1
             replace p228 := eq_true p228
             replace q228 := eq_true q228
             go_wp2_with (first | ((with_reducible refine gate_dst (N := 16) rfl ?_); refine box_event ?hg (N := 16) ?hd (cs := #[.int .i64 0, .slice none 0 0, .bool false]) (t := 70) ?hr ?_; (case hd => rfl); (case hg => rfl); (case hr => first | (go_simp; done) | (go_simp; rfl)); intro gb229 hg w56 hbox hb; have BK229 := zK (hbox); have GW229 := zK ((by rw [hg]; exact (below_size (zo HB)) : w.heap.size ≤ gb229)); have GE229 := zK ((by rw [hg]; exact (below_size (zo HB)) : w.heap.size ≤ gb229)); replace HB := zK (below_step (zo HB) hb); clear hb hbox hg; have hcz57_0 : w56.cell? ⟨gb229, 0, none⟩ = some (.int .i64 0) := (blk_cell BK229.out 0).trans rfl; have hcz57_1 : w56.cell? ⟨gb229, 1, none⟩ = some (.slice none 0 0) := (blk_cell BK229.out 1).trans rfl; have hcz57_2 : w56.cell? ⟨gb229, 2, none⟩ = some (.bool false) := (blk_cell BK229.out 2).trans rfl; have hfz57_0 := blk_frozen BK229.out 0; have hfz57_1 := blk_frozen BK229.out 1; have hfz57_2 := blk_frozen BK229.out 2) | ((with_reducible refine zC (f := 46) rfl ?_); refine goesL_ (some 37) rfl rfl Try.func46 (by kernel_rfl) rfl #[.agg #[.int .i64 ((rd_T70 l0 x30_1).f0.f0), .slice A228_1 ((rd_T70 l0 x30_1).f0.f1).length c228_1], .int .i64 a1] rfl (by (try simp only [List.map_toArray, List.map_cons, List.map_nil]); first | done | rfl | (simp only [List.length_drop, List.length_take]; rfl)) ?_; (with_reducible refine (lin_By.calls k1 ((rd_T70 l0 x30_1).f0.f0) _ _ ((rd_T70 l0 x30_1).f0.f1) a1 t230 _ ?side1 ?side2 A11.out).mono ?_); (case side1 => exact Kd.C_below HR228_1.out (zo HB)); (case side2 => exact HC228_1.out); rintro e w58 ⟨rfl, hb⟩; refine ⟨_, rfl, ?_⟩; replace BK229 := zK (blk_below (g := gb229) (o := .cells #[.int .i64 ((rd_T70 l0 x30_1).f0.f0), .slice A228_1 ((rd_T70 l0 x30_1).f0.f1).length c228_1, .bool ((rd_T70 l0 x30_1).f1)] 70 (0, 0)) (by refine zM ?_; refine blk_put (cs := #[.int .i64 ((rd_T70 l0 x30_1).f0.f0), .slice A228_1 ((rd_T70 l0 x30_1).f0.f1).length c228_1, .bool false]) ?_ 2 _ rfl; refine zM ?_; refine blk_put (cs := #[.int .i64 ((rd_T70 l0 x30_1).f0.f0), .slice none 0 0, .bool false]) ?_ 1 _ rfl; refine zM ?_; refine blk_put (cs := #[.int .i64 0, .slice none 0 0, .bool false]) ?_ 0 _ rfl; refine zM ?_; exact BK229.out) hb); replace HB := zK (below_step (zo HB) hb); (try clear hb); (try clear hb2); (try clear hk); (try clear hi); have hcz59_0 : w58.cell? ⟨gb229, 0, none⟩ = some (.int .i64 ((rd_T70 l0 x30_1).f0.f0)) := (blk_cell BK229.out 0).trans rfl; have hcz59_1 : w58.cell? ⟨gb229, 1, none⟩ = some (.slice A228_1 ((rd_T70 l0 x30_1).f0.f1).length c228_1) := (blk_cell BK229.out 1).trans rfl; have hcz59_2 : w58.cell? ⟨gb229, 2, none⟩ = some (.bool ((rd_T70 l0 x30_1).f1)) := (blk_cell BK229.out 2).trans rfl; have hfz59_0 := blk_frozen BK229.out 0; have hfz59_1 := blk_frozen BK229.out 1; have hfz59_2 := blk_frozen BK229.out 2) | ((with_reducible refine zC (f := 58) rfl ?_); refine goesL_ (some 44) rfl rfl Try.func58 (by kernel_rfl) rfl #[.agg #[.int .i64 ((rd_T70 l0 x30_1).f0.f0), .slice A228_1 ((rd_T70 l0 x30_1).f0.f1).length c228_1], .int .i64 a1] rfl (by (try simp only [List.map_toArray, List.map_cons, List.map_nil]); first | done | rfl | (simp only [List.length_drop, List.length_take]; rfl)) ?_; (with_reducible refine (shadow_rest.calls k1 ((rd_T70 l0 x30_1).f0.f0) _ _ ((rd_T70 l0 x30_1).f0.f1) a1 t231 t232 _ ?side1 ?side2 A16.out).mono ?_); (case side1 => repeat (first | exact (Kd.C_below HR228_1.out HB.out) | (with_reducible refine cA ?_ _) | (with_reducible refine cN ?_ _) | (with_reducible refine cD ?_))); (case side2 => exact HC228_1.out); rintro e w60 ⟨v233, rfl, ho0, hb⟩; refine ⟨_, rfl, ?_⟩; have HO234 := zK (Kd.R_lower ho0 (below_size (zo HB))); replace BK229 := zK (blk_below (g := gb229) (o := .cells #[.int .i64 ((rd_T70 l0 x30_1).f0.f0), .slice A228_1 ((rd_T70 l0 x30_1).f0.f1).length c228_1, .bool ((rd_T70 l0 x30_1).f1)] 70 (0, 0)) (zb BK229) hb); replace HB := zK (below_step (zo HB) hb); (try clear hb); (try clear hb2); (try clear hk); (try clear hi); (try clear ho0); obtain ⟨Ao61, co61, eo61⟩ := Kd.R_slice HO234.out; subst eo61) | ((with_reducible refine zC (f := 57) rfl ?_); refine goesL_ (some 46) rfl rfl Try.func57 (by kernel_rfl) rfl #[.agg #[.int .i64 t231, .slice Ao61 t232.length co61], .slice A2 l2.length c2] rfl (by (try simp only [List.map_toArray, List.map_cons, List.map_nil]); first | done | rfl | (simp only [List.length_drop, List.length_take]; rfl)) ?_; (with_reducible refine (lin_Eval.calls k1 t231 _ _ t232 _ _ l2 t235 t236 _ ?side1 ?side2 ?side3 ?side4 A17.out).mono ?_); (case side1 => repeat (first | exact (Kd.R_reads' HO234.out).2.2 | (with_reducible refine cA ?_ _) | (with_reducible refine cN ?_ _) | (with_reducible refine cD ?_))); (case side2 => exact (Kd.R_reads' HO234.out).2.1); (case side3 => repeat (first | exact (Kd.C_below HR2.out HB.out) | (with_reducible refine cA ?_ _) | (with_reducible refine cN ?_ _) | (with_reducible refine cD ?_))); (case side4 => exact HC2.out); rintro e w62 ⟨rfl, hb⟩; refine ⟨_, rfl, ?_⟩; replace HO234 := zK (Kd.R_below (zr HO234) hb); replace BK229 := zK (blk_below (g := gb229) (o := .cells #[.int .i64 ((rd_T70 l0 x30_1).f0.f0), .slice A228_1 ((rd_T70 l0 x30_1).f0.f1).length c228_1, .bool ((rd_T70 l0 x30_1).f1)] 70 (0, 0)) (zb BK229) hb); replace HB := zK (below_step (zo HB) hb); (try clear hb); (try clear hb2); (try clear hk); (try clear hi)) | ((with_reducible refine zC (f := 60) rfl ?_); refine goesL_ (some 68) rfl rfl Try.func60 (by kernel_rfl) rfl #[.int .i64 t235, .int .i64 t230] rfl (by (try simp only [List.map_toArray, List.map_cons, List.map_nil]); first | done | rfl | (simp only [List.length_drop, List.length_take]; rfl)) ?_; (with_reducible refine (num_Ceil.calls t235 t230 t238 t239 _ A44.out).mono ?_); rintro e w' ⟨rfl, ⟨nd, rfl⟩⟩; refine ⟨_, rfl, ?_⟩) | ((with_reducible refine zC (f := 61) rfl ?_); refine goesL_ (some 73) rfl rfl Try.func61 (by kernel_rfl) rfl #[.int .i64 t238] rfl (by (try simp only [List.map_toArray, List.map_cons, List.map_nil]); first | done | rfl | (simp only [List.length_drop, List.length_take]; rfl)) ?_; (with_reducible refine (num_Neg.calls t238 t240 true _ A45.out).mono ?_); rintro e w' ⟨rfl, ⟨nd, rfl⟩⟩; refine ⟨_, rfl, ?_⟩))
             go_roundg k1
             case measure => have := HK1.out; omega
             case rel => exact ⟨(x11_1), (x12_1), (x13_1), (true), (wrap64 (x30_1 + 1)), (by first | rfl | (simp; done) | (simp [*]; done)), (by first | rfl | (simp; done) | (simp [*]; done)), (by first | rfl | (simp; done) | (simp [*]; done)), (by first | rfl | (simp; done) | (simp [*]; done)), (by first | rfl | (simp; done) | (simp [*]; done)), H', ⟨by have := HK1.out; omega⟩, ⟨zo HB⟩⟩
           ·replace c47 := Bool.eq_false_iff.mpr c47
            subst c47
            have H1 : (shadow_Between.l0 k1 a1 l2 x11_1 t240 x13_1 true l0 (l0.length : Int) (wrap64 (x30_1 + 1))) = some (r1, r2, r3, r4, r5) := by rw [if_neg (show ¬ (false = true) by decide)] at H; exact H
            clear H; have H := H1; clear H1
            have H' := zK H; clear H
            have p228 : 0 ≤ (x30_1 : Int) := of_decide_eq_true (by first | (with_reducible assumption) | assumption)
            have q228 : x30_1 < (l0.length : Int) := of_decide_eq_true (by first | (with_reducible assumption) | assumption)
            obtain ⟨ad228, A228_1, c228_1, e228, hx228_0, hx228_1, hx228_2, hl228_1, hi228_1⟩ := at_T70 HR0.out x30_1 p228 q228
            cases e228
            replace hx228_0 := (HB.out.cell (World.block_lt_of_cell? w _ hx228_0)).trans hx228_0
            replace hx228_1 := (HB.out.cell (World.block_lt_of_cell? w _ hx228_1)).trans hx228_1
            replace hx228_2 := (HB.out.cell (World.block_lt_of_cell? w _ hx228_2)).trans hx228_2
            have HR228_1 := zK hi228_1
            have HC228_1 := zK hl228_1; clear hi228_1 hl228_1
            replace p228 := eq_true p228
            replace q228 := eq_true q228
            go_wp2_with (first | ((with_reducible refine gate_dst (N := 16) rfl ?_); refine box_event ?hg (N := 16) ?hd (cs := #[.int .i64 0, .slice none 0 0, .bool false]) (t := 70) ?hr ?_; (case hd => rfl); (case hg => rfl); (case hr => first | (go_simp; done) | (go_simp; rfl)); intro gb229 hg w63 hbox hb; have BK229 := zK (hbox); have GW229 := zK ((by rw [hg]; exact (below_size (zo HB)) : w.heap.size ≤ gb229)); have GE229 := zK ((by rw [hg]; exact (below_size (zo HB)) : w.heap.size ≤ gb229)); replace HB := zK (below_step (zo HB) hb); clear hb hbox hg; have hcz64_0 : w63.cell? ⟨gb229, 0, none⟩ = some (.int .i64 0) := (blk_cell BK229.out 0).trans rfl; have hcz64_1 : w63.cell? ⟨gb229, 1, none⟩ = some (.slice none 0 0) := (blk_cell BK229.out 1).trans rfl; have hcz64_2 : w63.cell? ⟨gb229, 2, none⟩ = some (.bool false) := (blk_cell BK229.out 2).trans rfl; have hfz64_0 := blk_frozen BK229.out 0; have hfz64_1 := blk_frozen BK229.out 1; have hfz64_2 := blk_frozen BK229.out 2) | ((with_reducible refine zC (f := 46) rfl ?_); refine goesL_ (some 37) rfl rfl Try.func46 (by kernel_rfl) rfl #[.agg #[.int .i64 ((rd_T70 l0 x30_1).f0.f0), .slice A228_1 ((rd_T70 l0 x30_1).f0.f1).length c228_1], .int .i64 a1] rfl (by (try simp only [List.map_toArray, List.map_cons, List.map_nil]); first | done | rfl | (simp only [List.length_drop, List.length_take]; rfl)) ?_; (with_reducible refine (lin_By.calls k1 ((rd_T70 l0 x30_1).f0.f0) _ _ ((rd_T70 l0 x30_1).f0.f1) a1 t230 _ ?side1 ?side2 A11.out).mono ?_); (case side1 => exact Kd.C_below HR228_1.out (zo HB)); (case side2 => exact HC228_1.out); rintro e w65 ⟨rfl, hb⟩; refine ⟨_, rfl, ?_⟩; replace BK229 := zK (blk_below (g := gb229) (o := .cells #[.int .i64 ((rd_T70 l0 x30_1).f0.f0), .slice A228_1 ((rd_T70 l0 x30_1).f0.f1).length c228_1, .bool ((rd_T70 l0 x30_1).f1)] 70 (0, 0)) (by refine zM ?_; refine blk_put (cs := #[.int .i64 ((rd_T70 l0 x30_1).f0.f0), .slice A228_1 ((rd_T70 l0 x30_1).f0.f1).length c228_1, .bool false]) ?_ 2 _ rfl; refine zM ?_; refine blk_put (cs := #[.int .i64 ((rd_T70 l0 x30_1).f0.f0), .slice none 0 0, .bool false]) ?_ 1 _ rfl; refine zM ?_; refine blk_put (cs := #[.int .i64 0, .slice none 0 0, .bool false]) ?_ 0 _ rfl; refine zM ?_; exact BK229.out) hb); replace HB := zK (below_step (zo HB) hb); (try clear hb); (try clear hb2); (try clear hk); (try clear hi); have hcz66_0 : w65.cell? ⟨gb229, 0, none⟩ = some (.int .i64 ((rd_T70 l0 x30_1).f0.f0)) := (blk_cell BK229.out 0).trans rfl; have hcz66_1 : w65.cell? ⟨gb229, 1, none⟩ = some (.slice A228_1 ((rd_T70 l0 x30_1).f0.f1).length c228_1) := (blk_cell BK229.out 1).trans rfl; have hcz66_2 : w65.cell? ⟨gb229, 2, none⟩ = some (.bool ((rd_T70 l0 x30_1).f1)) := (blk_cell BK229.out 2).trans rfl; have hfz66_0 := blk_frozen BK229.out 0; have hfz66_1 := blk_frozen BK229.out 1; have hfz66_2 := blk_frozen BK229.out 2) | ((with_reducible refine zC (f := 58) rfl ?_); refine goesL_ (some 44) rfl rfl Try.func58 (by kernel_rfl) rfl #[.agg #[.int .i64 ((rd_T70 l0 x30_1).f0.f0), .slice A228_1 ((rd_T70 l0 x30_1).f0.f1).length c228_1], .int .i64 a1] rfl (by (try simp only [List.map_toArray, List.map_cons, List.map_nil]); first | done | rfl | (simp only [List.length_drop, List.length_take]; rfl)) ?_; (with_reducible refine (shadow_rest.calls k1 ((rd_T70 l0 x30_1).f0.f0) _ _ ((rd_T70 l0 x30_1).f0.f1) a1 t231 t232 _ ?side1 ?side2 A16.out).mono ?_); (case side1 => repeat (first | exact (Kd.C_below HR228_1.out HB.out) | (with_reducible refine cA ?_ _) | (with_reducible refine cN ?_ _) | (with_reducible refine cD ?_))); (case side2 => exact HC228_1.out); rintro e w67 ⟨v233, rfl, ho0, hb⟩; refine ⟨_, rfl, ?_⟩; have HO234 := zK (Kd.R_lower ho0 (below_size (zo HB))); replace BK229 := zK (blk_below (g := gb229) (o := .cells #[.int .i64 ((rd_T70 l0 x30_1).f0.f0), .slice A228_1 ((rd_T70 l0 x30_1).f0.f1).length c228_1, .bool ((rd_T70 l0 x30_1).f1)] 70 (0, 0)) (zb BK229) hb); replace HB := zK (below_step (zo HB) hb); (try clear hb); (try clear hb2); (try clear hk); (try clear hi); (try clear ho0); obtain ⟨Ao68, co68, eo68⟩ := Kd.R_slice HO234.out; subst eo68) | ((with_reducible refine zC (f := 57) rfl ?_); refine goesL_ (some 46) rfl rfl Try.func57 (by kernel_rfl) rfl #[.agg #[.int .i64 t231, .slice Ao68 t232.length co68], .slice A2 l2.length c2] rfl (by (try simp only [List.map_toArray, List.map_cons, List.map_nil]); first | done | rfl | (simp only [List.length_drop, List.length_take]; rfl)) ?_; (with_reducible refine (lin_Eval.calls k1 t231 _ _ t232 _ _ l2 t235 t236 _ ?side1 ?side2 ?side3 ?side4 A17.out).mono ?_); (case side1 => repeat (first | exact (Kd.R_reads' HO234.out).2.2 | (with_reducible refine cA ?_ _) | (with_reducible refine cN ?_ _) | (with_reducible refine cD ?_))); (case side2 => exact (Kd.R_reads' HO234.out).2.1); (case side3 => repeat (first | exact (Kd.C_below HR2.out HB.out) | (with_reducible refine cA ?_ _) | (with_reducible refine cN ?_ _) | (with_reducible refine cD ?_))); (case side4 => exact HC2.out); rintro e w69 ⟨rfl, hb⟩; refine ⟨_, rfl, ?_⟩; replace HO234 := zK (Kd.R_below (zr HO234) hb); replace BK229 := zK (blk_below (g := gb229) (o := .cells #[.int .i64 ((rd_T70 l0 x30_1).f0.f0), .slice A228_1 ((rd_T70 l0 x30_1).f0.f1).length c228_1, .bool ((rd_T70 l0 x30_1).f1)] 70 (0, 0)) (zb BK229) hb); replace HB := zK (below_step (zo HB) hb); (try clear hb); (try clear hb2); (try clear hk); (try clear hi)) | ((with_reducible refine zC (f := 60) rfl ?_); refine goesL_ (some 68) rfl rfl Try.func60 (by kernel_rfl) rfl #[.int .i64 t235, .int .i64 t230] rfl (by (try simp only [List.map_toArray, List.map_cons, List.map_nil]); first | done | rfl | (simp only [List.length_drop, List.length_take]; rfl)) ?_; (with_reducible refine (num_Ceil.calls t235 t230 t238 t239 _ A44.out).mono ?_); rintro e w' ⟨rfl, ⟨nd, rfl⟩⟩; refine ⟨_, rfl, ?_⟩) | ((with_reducible refine zC (f := 61) rfl ?_); refine goesL_ (some 73) rfl rfl Try.func61 (by kernel_rfl) rfl #[.int .i64 t238] rfl (by (try simp only [List.map_toArray, List.map_cons, List.map_nil]); first | done | rfl | (simp only [List.length_drop, List.length_take]; rfl)) ?_; (with_reducible refine (num_Neg.calls t238 t240 true _ A45.out).mono ?_); rintro e w' ⟨rfl, ⟨nd, rfl⟩⟩; refine ⟨_, rfl, ?_⟩))
            go_roundg k1
            case measure => have := HK1.out; omega
            case rel => exact ⟨(x11_1), (t240), (x13_1), (true), (wrap64 (x30_1 + 1)), (by first | rfl | (simp; done) | (simp [*]; done)), (by first | rfl | (simp; done) | (simp [*]; done)), (by first | rfl | (simp; done) | (simp [*]; done)), (by first | rfl | (simp; done) | (simp [*]; done)), (by first | rfl | (simp; done) | (simp [*]; done)), H', ⟨by have := HK1.out; omega⟩, ⟨zo HB⟩⟩
          ·replace c46 := Bool.eq_false_iff.mpr c46
           subst c46
           have H1 : (some (0, 0, false, false, 5)) = some (r1, r2, r3, r4, r5) := by rw [if_neg (show ¬ (false = true) by decide)] at H; exact H
           clear H; have H := H1; clear H1
           simp only [Option.some.injEq, Prod.mk.injEq] at H
           obtain ⟨rfl, rfl, rfl, rfl, rfl⟩ := H
           have p228 : 0 ≤ (x30_1 : Int) := of_decide_eq_true (by first | (with_reducible assumption) | assumption)
           have q228 : x30_1 < (l0.length : Int) := of_decide_eq_true (by first | (with_reducible assumption) | assumption)
           obtain ⟨ad228, A228_1, c228_1, e228, hx228_0, hx228_1, hx228_2, hl228_1, hi228_1⟩ := at_T70 HR0.out x30_1 p228 q228
           cases e228
           replace hx228_0 := (HB.out.cell (World.block_lt_of_cell? w _ hx228_0)).trans hx228_0
           replace hx228_1 := (HB.out.cell (World.block_lt_of_cell? w _ hx228_1)).trans hx228_1
           replace hx228_2 := (HB.out.cell (World.block_lt_of_cell? w _ hx228_2)).trans hx228_2
           have HR228_1 := zK hi228_1
           have HC228_1 := zK hl228_1; clear hi228_1 hl228_1
           replace p228 := eq_true p228
           replace q228 := eq_true q228
           go_wp2_with (first | ((with_reducible refine gate_dst (N := 16) rfl ?_); refine box_event ?hg (N := 16) ?hd (cs := #[.int .i64 0, .slice none 0 0, .bool false]) (t := 70) ?hr ?_; (case hd => rfl); (case hg => rfl); (case hr => first | (go_simp; done) | (go_simp; rfl)); intro gb229 hg w70 hbox hb; have BK229 := zK (hbox); have GW229 := zK ((by rw [hg]; exact (below_size (zo HB)) : w.heap.size ≤ gb229)); have GE229 := zK ((by rw [hg]; exact (below_size (zo HB)) : w.heap.size ≤ gb229)); replace HB := zK (below_step (zo HB) hb); clear hb hbox hg; have hcz71_0 : w70.cell? ⟨gb229, 0, none⟩ = some (.int .i64 0) := (blk_cell BK229.out 0).trans rfl; have hcz71_1 : w70.cell? ⟨gb229, 1, none⟩ = some (.slice none 0 0) := (blk_cell BK229.out 1).trans rfl; have hcz71_2 : w70.cell? ⟨gb229, 2, none⟩ = some (.bool false) := (blk_cell BK229.out 2).trans rfl; have hfz71_0 := blk_frozen BK229.out 0; have hfz71_1 := blk_frozen BK229.out 1; have hfz71_2 := blk_frozen BK229.out 2) | ((with_reducible refine zC (f := 46) rfl ?_); refine goesL_ (some 37) rfl rfl Try.func46 (by kernel_rfl) rfl #[.agg #[.int .i64 ((rd_T70 l0 x30_1).f0.f0), .slice A228_1 ((rd_T70 l0 x30_1).f0.f1).length c228_1], .int .i64 a1] rfl (by (try simp only [List.map_toArray, List.map_cons, List.map_nil]); first | done | rfl | (simp only [List.length_drop, List.length_take]; rfl)) ?_; (with_reducible refine (lin_By.calls k1 ((rd_T70 l0 x30_1).f0.f0) _ _ ((rd_T70 l0 x30_1).f0.f1) a1 t230 _ ?side1 ?side2 A11.out).mono ?_); (case side1 => exact Kd.C_below HR228_1.out (zo HB)); (case side2 => exact HC228_1.out); rintro e w72 ⟨rfl, hb⟩; refine ⟨_, rfl, ?_⟩; replace BK229 := zK (blk_below (g := gb229) (o := .cells #[.int .i64 ((rd_T70 l0 x30_1).f0.f0), .slice A228_1 ((rd_T70 l0 x30_1).f0.f1).length c228_1, .bool ((rd_T70 l0 x30_1).f1)] 70 (0, 0)) (by refine zM ?_; refine blk_put (cs := #[.int .i64 ((rd_T70 l0 x30_1).f0.f0), .slice A228_1 ((rd_T70 l0 x30_1).f0.f1).length c228_1, .bool false]) ?_ 2 _ rfl; refine zM ?_; refine blk_put (cs := #[.int .i64 ((rd_T70 l0 x30_1).f0.f0), .slice none 0 0, .bool false]) ?_ 1 _ rfl; refine zM ?_; refine blk_put (cs := #[.int .i64 0, .slice none 0 0, .bool false]) ?_ 0 _ rfl; refine zM ?_; exact BK229.out) hb); replace HB := zK (below_step (zo HB) hb); (try clear hb); (try clear hb2); (try clear hk); (try clear hi); have hcz73_0 : w72.cell? ⟨gb229, 0, none⟩ = some (.int .i64 ((rd_T70 l0 x30_1).f0.f0)) := (blk_cell BK229.out 0).trans rfl; have hcz73_1 : w72.cell? ⟨gb229, 1, none⟩ = some (.slice A228_1 ((rd_T70 l0 x30_1).f0.f1).length c228_1) := (blk_cell BK229.out 1).trans rfl; have hcz73_2 : w72.cell? ⟨gb229, 2, none⟩ = some (.bool ((rd_T70 l0 x30_1).f1)) := (blk_cell BK229.out 2).trans rfl; have hfz73_0 := blk_frozen BK229.out 0; have hfz73_1 := blk_frozen BK229.out 1; have hfz73_2 := blk_frozen BK229.out 2) | ((with_reducible refine zC (f := 58) rfl ?_); refine goesL_ (some 44) rfl rfl Try.func58 (by kernel_rfl) rfl #[.agg #[.int .i64 ((rd_T70 l0 x30_1).f0.f0), .slice A228_1 ((rd_T70 l0 x30_1).f0.f1).length c228_1], .int .i64 a1] rfl (by (try simp only [List.map_toArray, List.map_cons, List.map_nil]); first | done | rfl | (simp only [List.length_drop, List.length_take]; rfl)) ?_; (with_reducible refine (shadow_rest.calls k1 ((rd_T70 l0 x30_1).f0.f0) _ _ ((rd_T70 l0 x30_1).f0.f1) a1 t231 t232 _ ?side1 ?side2 A16.out).mono ?_); (case side1 => repeat (first | exact (Kd.C_below HR228_1.out HB.out) | (with_reducible refine cA ?_ _) | (with_reducible refine cN ?_ _) | (with_reducible refine cD ?_))); (case side2 => exact HC228_1.out); rintro e w74 ⟨v233, rfl, ho0, hb⟩; refine ⟨_, rfl, ?_⟩; have HO234 := zK (Kd.R_lower ho0 (below_size (zo HB))); replace BK229 := zK (blk_below (g := gb229) (o := .cells #[.int .i64 ((rd_T70 l0 x30_1).f0.f0), .slice A228_1 ((rd_T70 l0 x30_1).f0.f1).length c228_1, .bool ((rd_T70 l0 x30_1).f1)] 70 (0, 0)) (zb BK229) hb); replace HB := zK (below_step (zo HB) hb); (try clear hb); (try clear hb2); (try clear hk); (try clear hi); (try clear ho0); obtain ⟨Ao75, co75, eo75⟩ := Kd.R_slice HO234.out; subst eo75) | ((with_reducible refine zC (f := 57) rfl ?_); refine goesL_ (some 46) rfl rfl Try.func57 (by kernel_rfl) rfl #[.agg #[.int .i64 t231, .slice Ao75 t232.length co75], .slice A2 l2.length c2] rfl (by (try simp only [List.map_toArray, List.map_cons, List.map_nil]); first | done | rfl | (simp only [List.length_drop, List.length_take]; rfl)) ?_; (with_reducible refine (lin_Eval.calls k1 t231 _ _ t232 _ _ l2 t235 t236 _ ?side1 ?side2 ?side3 ?side4 A17.out).mono ?_); (case side1 => repeat (first | exact (Kd.R_reads' HO234.out).2.2 | (with_reducible refine cA ?_ _) | (with_reducible refine cN ?_ _) | (with_reducible refine cD ?_))); (case side2 => exact (Kd.R_reads' HO234.out).2.1); (case side3 => repeat (first | exact (Kd.C_below HR2.out HB.out) | (with_reducible refine cA ?_ _) | (with_reducible refine cN ?_ _) | (with_reducible refine cD ?_))); (case side4 => exact HC2.out); rintro e w76 ⟨rfl, hb⟩; refine ⟨_, rfl, ?_⟩; replace HO234 := zK (Kd.R_below (zr HO234) hb); replace BK229 := zK (blk_below (g := gb229) (o := .cells #[.int .i64 ((rd_T70 l0 x30_1).f0.f0), .slice A228_1 ((rd_T70 l0 x30_1).f0.f1).length c228_1, .bool ((rd_T70 l0 x30_1).f1)] 70 (0, 0)) (zb BK229) hb); replace HB := zK (below_step (zo HB) hb); (try clear hb); (try clear hb2); (try clear hk); (try clear hi)) | ((with_reducible refine zC (f := 60) rfl ?_); refine goesL_ (some 68) rfl rfl Try.func60 (by kernel_rfl) rfl #[.int .i64 t235, .int .i64 t230] rfl (by (try simp only [List.map_toArray, List.map_cons, List.map_nil]); first | done | rfl | (simp only [List.length_drop, List.length_take]; rfl)) ?_; (with_reducible refine (num_Ceil.calls t235 t230 t238 t239 _ A44.out).mono ?_); rintro e w' ⟨rfl, ⟨nd, rfl⟩⟩; refine ⟨_, rfl, ?_⟩) | ((with_reducible refine zC (f := 61) rfl ?_); refine goesL_ (some 73) rfl rfl Try.func61 (by kernel_rfl) rfl #[.int .i64 t238] rfl (by (try simp only [List.map_toArray, List.map_cons, List.map_nil]); first | done | rfl | (simp only [List.length_drop, List.length_take]; rfl)) ?_; (with_reducible refine (num_Neg.calls t238 t240 false _ A45.out).mono ?_); rintro e w' ⟨rfl, ⟨nd, rfl⟩⟩; refine ⟨_, rfl, ?_⟩))
           refine bodyPost_ret (results_list (rs := [.tmp 6, .tmp 7, .tmp 8, .tmp 9, .tmp 10]) rfl (by simp) (.tmp (.tmp (.tmp (.tmp (.tmp .nil)))))) rfl ?_
           exact ⟨by first | rfl | (simp [errW_none, errW_some] <;> rfl) | (simp [*, errW_none, errW_some] <;> rfl), zo HB⟩
        ·rw [if_neg c18] at H
         have c18b0 : (t236 == 0) = false := beq_eq_false_iff_ne.mpr c18
         have c18b1 : (t236 != 0) = true := bne_iff_ne.mpr c18
         simp only [Option.some.injEq, Prod.mk.injEq] at H
         obtain ⟨rfl, rfl, rfl, rfl, rfl⟩ := H
         have p228 : 0 ≤ (x30_1 : Int) := of_decide_eq_true (by first | (with_reducible assumption) | assumption)
         have q228 : x30_1 < (l0.length : Int) := of_decide_eq_true (by first | (with_reducible assumption) | assumption)
         obtain ⟨ad228, A228_1, c228_1, e228, hx228_0, hx228_1, hx228_2, hl228_1, hi228_1⟩ := at_T70 HR0.out x30_1 p228 q228
         cases e228
         replace hx228_0 := (HB.out.cell (World.block_lt_of_cell? w _ hx228_0)).trans hx228_0
         replace hx228_1 := (HB.out.cell (World.block_lt_of_cell? w _ hx228_1)).trans hx228_1
         replace hx228_2 := (HB.out.cell (World.block_lt_of_cell? w _ hx228_2)).trans hx228_2
         have HR228_1 := zK hi228_1
         have HC228_1 := zK hl228_1; clear hi228_1 hl228_1
         replace p228 := eq_true p228
         replace q228 := eq_true q228
         go_wp2_with (first | ((with_reducible refine gate_dst (N := 16) rfl ?_); refine box_event ?hg (N := 16) ?hd (cs := #[.int .i64 0, .slice none 0 0, .bool false]) (t := 70) ?hr ?_; (case hd => rfl); (case hg => rfl); (case hr => first | (go_simp; done) | (go_simp; rfl)); intro gb229 hg w77 hbox hb; have BK229 := zK (hbox); have GW229 := zK ((by rw [hg]; exact (below_size (zo HB)) : w.heap.size ≤ gb229)); have GE229 := zK ((by rw [hg]; exact (below_size (zo HB)) : w.heap.size ≤ gb229)); replace HB := zK (below_step (zo HB) hb); clear hb hbox hg; have hcz78_0 : w77.cell? ⟨gb229, 0, none⟩ = some (.int .i64 0) := (blk_cell BK229.out 0).trans rfl; have hcz78_1 : w77.cell? ⟨gb229, 1, none⟩ = some (.slice none 0 0) := (blk_cell BK229.out 1).trans rfl; have hcz78_2 : w77.cell? ⟨gb229, 2, none⟩ = some (.bool false) := (blk_cell BK229.out 2).trans rfl; have hfz78_0 := blk_frozen BK229.out 0; have hfz78_1 := blk_frozen BK229.out 1; have hfz78_2 := blk_frozen BK229.out 2) | ((with_reducible refine zC (f := 46) rfl ?_); refine goesL_ (some 37) rfl rfl Try.func46 (by kernel_rfl) rfl #[.agg #[.int .i64 ((rd_T70 l0 x30_1).f0.f0), .slice A228_1 ((rd_T70 l0 x30_1).f0.f1).length c228_1], .int .i64 a1] rfl (by (try simp only [List.map_toArray, List.map_cons, List.map_nil]); first | done | rfl | (simp only [List.length_drop, List.length_take]; rfl)) ?_; (with_reducible refine (lin_By.calls k1 ((rd_T70 l0 x30_1).f0.f0) _ _ ((rd_T70 l0 x30_1).f0.f1) a1 t230 _ ?side1 ?side2 A11.out).mono ?_); (case side1 => exact Kd.C_below HR228_1.out (zo HB)); (case side2 => exact HC228_1.out); rintro e w79 ⟨rfl, hb⟩; refine ⟨_, rfl, ?_⟩; replace BK229 := zK (blk_below (g := gb229) (o := .cells #[.int .i64 ((rd_T70 l0 x30_1).f0.f0), .slice A228_1 ((rd_T70 l0 x30_1).f0.f1).length c228_1, .bool ((rd_T70 l0 x30_1).f1)] 70 (0, 0)) (by refine zM ?_; refine blk_put (cs := #[.int .i64 ((rd_T70 l0 x30_1).f0.f0), .slice A228_1 ((rd_T70 l0 x30_1).f0.f1).length c228_1, .bool false]) ?_ 2 _ rfl; refine zM ?_; refine blk_put (cs := #[.int .i64 ((rd_T70 l0 x30_1).f0.f0), .slice none 0 0, .bool false]) ?_ 1 _ rfl; refine zM ?_; refine blk_put (cs := #[.int .i64 0, .slice none 0 0, .bool false]) ?_ 0 _ rfl; refine zM ?_; exact BK229.out) hb); replace HB := zK (below_step (zo HB) hb); (try clear hb); (try clear hb2); (try clear hk); (try clear hi); have hcz80_0 : w79.cell? ⟨gb229, 0, none⟩ = some (.int .i64 ((rd_T70 l0 x30_1).f0.f0)) := (blk_cell BK229.out 0).trans rfl; have hcz80_1 : w79.cell? ⟨gb229, 1, none⟩ = some (.slice A228_1 ((rd_T70 l0 x30_1).f0.f1).length c228_1) := (blk_cell BK229.out 1).trans rfl; have hcz80_2 : w79.cell? ⟨gb229, 2, none⟩ = some (.bool ((rd_T70 l0 x30_1).f1)) := (blk_cell BK229.out 2).trans rfl; have hfz80_0 := blk_frozen BK229.out 0; have hfz80_1 := blk_frozen BK229.out 1; have hfz80_2 := blk_frozen BK229.out 2) | ((with_reducible refine zC (f := 58) rfl ?_); refine goesL_ (some 44) rfl rfl Try.func58 (by kernel_rfl) rfl #[.agg #[.int .i64 ((rd_T70 l0 x30_1).f0.f0), .slice A228_1 ((rd_T70 l0 x30_1).f0.f1).length c228_1], .int .i64 a1] rfl (by (try simp only [List.map_toArray, List.map_cons, List.map_nil]); first | done | rfl | (simp only [List.length_drop, List.length_take]; rfl)) ?_; (with_reducible refine (shadow_rest.calls k1 ((rd_T70 l0 x30_1).f0.f0) _ _ ((rd_T70 l0 x30_1).f0.f1) a1 t231 t232 _ ?side1 ?side2 A16.out).mono ?_); (case side1 => repeat (first | exact (Kd.C_below HR228_1.out HB.out) | (with_reducible refine cA ?_ _) | (with_reducible refine cN ?_ _) | (with_reducible refine cD ?_))); (case side2 => exact HC228_1.out); rintro e w81 ⟨v233, rfl, ho0, hb⟩; refine ⟨_, rfl, ?_⟩; have HO234 := zK (Kd.R_lower ho0 (below_size (zo HB))); replace BK229 := zK (blk_below (g := gb229) (o := .cells #[.int .i64 ((rd_T70 l0 x30_1).f0.f0), .slice A228_1 ((rd_T70 l0 x30_1).f0.f1).length c228_1, .bool ((rd_T70 l0 x30_1).f1)] 70 (0, 0)) (zb BK229) hb); replace HB := zK (below_step (zo HB) hb); (try clear hb); (try clear hb2); (try clear hk); (try clear hi); (try clear ho0); obtain ⟨Ao82, co82, eo82⟩ := Kd.R_slice HO234.out; subst eo82) | ((with_reducible refine zC (f := 57) rfl ?_); refine goesL_ (some 46) rfl rfl Try.func57 (by kernel_rfl) rfl #[.agg #[.int .i64 t231, .slice Ao82 t232.length co82], .slice A2 l2.length c2] rfl (by (try simp only [List.map_toArray, List.map_cons, List.map_nil]); first | done | rfl | (simp only [List.length_drop, List.length_take]; rfl)) ?_; (with_reducible refine (lin_Eval.calls k1 t231 _ _ t232 _ _ l2 t235 t236 _ ?side1 ?side2 ?side3 ?side4 A17.out).mono ?_); (case side1 => repeat (first | exact (Kd.R_reads' HO234.out).2.2 | (with_reducible refine cA ?_ _) | (with_reducible refine cN ?_ _) | (with_reducible refine cD ?_))); (case side2 => exact (Kd.R_reads' HO234.out).2.1); (case side3 => repeat (first | exact (Kd.C_below HR2.out HB.out) | (with_reducible refine cA ?_ _) | (with_reducible refine cN ?_ _) | (with_reducible refine cD ?_))); (case side4 => exact HC2.out); rintro e w83 ⟨rfl, hb⟩; refine ⟨_, rfl, ?_⟩; replace HO234 := zK (Kd.R_below (zr HO234) hb); replace BK229 := zK (blk_below (g := gb229) (o := .cells #[.int .i64 ((rd_T70 l0 x30_1).f0.f0), .slice A228_1 ((rd_T70 l0 x30_1).f0.f1).length c228_1, .bool ((rd_T70 l0 x30_1).f1)] 70 (0, 0)) (zb BK229) hb); replace HB := zK (below_step (zo HB) hb); (try clear hb); (try clear hb2); (try clear hk); (try clear hi)))
         refine bodyPost_ret (results_list (rs := [.tmp 6, .tmp 7, .tmp 8, .tmp 9, .tmp 10]) rfl (by simp) (.tmp (.tmp (.tmp (.tmp (.tmp .nil)))))) rfl ?_
         exact ⟨by first | rfl | (simp [errW_none, errW_some] <;> rfl) | (simp [*, errW_none, errW_some] <;> rfl), zo HB⟩
      ·rw [if_neg c10] at H
       exact absurd H (by simp)
     ·rw [if_neg c9] at H
      exact absurd H (by simp)
    ·rw [if_neg c8] at H
     have c8b0 : decide (x30_1 < (l0.length : Int)) = false := decide_eq_false c8
     clear c8
     simp only [Option.some.injEq, Prod.mk.injEq] at H
     obtain ⟨rfl, rfl, rfl, rfl, rfl⟩ := H
     go_wp2
     refine bodyPost_ret (results_list (rs := [.tmp 6, .tmp 7, .tmp 8, .tmp 9, .tmp 10]) rfl (by simp) (.tmp (.tmp (.tmp (.tmp (.tmp .nil)))))) rfl ?_
     exact ⟨by first | rfl | (simp [errW_none, errW_some] <;> rfl) | (simp [*, errW_none, errW_some] <;> rfl), zo HB⟩

end Go.Proofs.Ytkfbfgkdabljiaa.PShadowBetween
