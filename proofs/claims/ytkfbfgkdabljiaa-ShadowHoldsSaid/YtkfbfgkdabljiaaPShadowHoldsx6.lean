/- What the call of each function that the law reaches comes to: it answers as the plain function of the same name does, wherever that one answers; and the law itself out of its plain form. Written by a program of this session (an extended copy of the printer); no condition but what stands in each theorem. -/
import Derived.Test.YtkfbfgkdabljiaaPShadowHoldsx0
import Derived.Test.YtkfbfgkdabljiaaPShadowHoldsx3
import Derived.Test.YtkfbfgkdabljiaaPShadowHoldsx5
namespace Go.Proofs.Ytkfbfgkdabljiaa.PShadowHolds
open Go.RowKit Go.Proofs.YtkfbfgkdabljiaaW.PrintWords Go.Proofs.YtkfbfgkdabljiaaW.PrintLast Go.Proofs.YtkfbfgkdabljiaaW.PrintMore
open Go.Proofs.YtkfbfgkdabljiaaW.PrintWords renaming blk_drewN → zN, blk_drew → zD, blk_alloc → zA, below_alloc → yA, pw_below_drewN → yN, below_drew1 → yD, below_set → yS, gate_callee → zC, gate_guard → zG
open Go.Proofs.YtkfbfgkdabljiaaW.PrintWords.Kd renaming V_alloc → vA, V_drewN → vN, V_drew → vD, N_alloc → nA, N_drewN → nN, N_drew → nD, C_alloc → cA, C_drewN → cN, C_drew → cD, V_mono → vM, V_far → vF
open Go.Proofs.YtkfbfgkdabljiaaW.PrintWords.Aside0 renaming mk → zK
open Bool renaming true → T_, false → F_
open List renaming setIfInBounds_toArray → zt, set_cons_zero → zz, set_cons_succ → zs
attribute [local go_sem] max2_int min2_int max_two min_two max_three min_three max_four min_four   -- for this text's walks alone
set_option linter.unusedVariables false
set_option linter.unusedSimpArgs false

/-! ### lin_Sum: function 112 -/
mutual
def lin_Sum.j0 : Nat → List (S62) → List Int → Bool → Option (Int × (List (S68)) × Int)
 | 0, _, _, _ => none
 | k + 1, x0, x1, x18 => if x18 = true then (some (0, ([] : List (S68)), 1)) else (lin_Sum.l0 k x1 ([] : List (S158)) x0 (x0.length : Int) 0)
def lin_Sum.l0 : Nat → List Int → List (S158) → List (S62) → Int → Int → Option (Int × (List (S68)) × Int)
 | 0, _, _, _, _, _ => none
 | k + 1, x1, x6, x20, x21, x22 => if x22 < x21 then (if 0 ≤ x22 then (if x22 < (x20.length : Int) then (if x22 < (x1.length : Int) then (if x6.length < 3518437208883 then (lin_Sum.l0 k x1 (x6 ++ [(⟨(⟨(rd_T62 x20 x22).f0, (rd_T62 x20 x22).f1⟩ : S62), rd x1 x22⟩ : S158)]) x20 x21 (wrap64 (x22 + 1))) else (none)) else (none)) else (none)) else (none)) else ((lin_sum.f x6).bind fun bt219 => (some (bt219.1, bt219.2.1, bt219.2.2)))
end
def lin_Sum.f (k : Nat) (l0 : List (S62)) (l1 : List Int) : Option (Int × (List (S68)) × Int) := (lin_right.f k l0).bind fun t212 => (if t212 = true then (lin_Sum.j0 k l0 l1 ((l0.length : Int) != (l1.length : Int))) else (lin_Sum.j0 k l0 l1 true))
theorem lin_Sum.mono_l : ∀ k, (∀ y0 y1 y2, LeO (lin_Sum.j0 k y0 y1 y2) (lin_Sum.j0 (k + 1) y0 y1 y2)) ∧ (∀ y0 y1 y2 y3 y4, LeO (lin_Sum.l0 k y0 y1 y2 y3 y4) (lin_Sum.l0 (k + 1) y0 y1 y2 y3 y4))
 | 0 => ⟨fun _ _ _ r h => by simp [lin_Sum.j0] at h, fun _ _ _ _ _ r h => by simp [lin_Sum.l0] at h⟩
 | k + 1 => by
  obtain ⟨ih0, ih1⟩ := lin_Sum.mono_l k
  refine ⟨?_, ?_⟩
  ·intro y0 y1 y2
   unfold lin_Sum.j0
   repeat' first
   | (with_reducible exact ih0 _ _ _)
   | (with_reducible exact ih1 _ _ _ _ _)
   | (with_reducible exact lin_right.mono _ _)
   | (with_reducible exact LeO.refl _)
   | (with_reducible exact LeO.none _)
   | (with_reducible refine LeO.ite ?_ ?_)
   | (with_reducible refine LeO.bind ?_ (fun _ => ?_))
   | exact ih0 _ _ _
   | exact ih1 _ _ _ _ _
   | exact lin_right.mono _ _
   | exact LeO.none _
   | refine LeO.ite ?_ ?_
   | refine LeO.bind ?_ (fun _ => ?_)
  ·intro y0 y1 y2 y3 y4
   unfold lin_Sum.l0
   repeat' first
   | (with_reducible exact ih0 _ _ _)
   | (with_reducible exact ih1 _ _ _ _ _)
   | (with_reducible exact lin_right.mono _ _)
   | (with_reducible exact LeO.refl _)
   | (with_reducible exact LeO.none _)
   | (with_reducible refine LeO.ite ?_ ?_)
   | (with_reducible refine LeO.bind ?_ (fun _ => ?_))
   | exact ih0 _ _ _
   | exact ih1 _ _ _ _ _
   | exact lin_right.mono _ _
   | exact LeO.none _
   | refine LeO.ite ?_ ?_
   | refine LeO.bind ?_ (fun _ => ?_)
theorem lin_Sum.mono : ∀ a0 a1 k, LeO (lin_Sum.f k a0 a1) (lin_Sum.f (k + 1) a0 a1) := by
 intro a0 a1 k
 obtain ⟨ih0, ih1⟩ := lin_Sum.mono_l k
 unfold lin_Sum.f
 repeat' first
   | (with_reducible exact ih0 _ _ _)
   | (with_reducible exact ih1 _ _ _ _ _)
   | (with_reducible exact lin_right.mono _ _)
   | (with_reducible exact LeO.refl _)
   | (with_reducible exact LeO.none _)
   | (with_reducible refine LeO.ite ?_ ?_)
   | (with_reducible refine LeO.bind ?_ (fun _ => ?_))
   | exact ih0 _ _ _
   | exact ih1 _ _ _ _ _
   | exact lin_right.mono _ _
   | exact LeO.none _
   | refine LeO.ite ?_ ?_
   | refine LeO.bind ?_ (fun _ => ?_)
def lin_Sum.T7 : Bool × List (List Nat × List Nat) := (true, [([], []), ([], []), ([], []), ([], []), ([2, 3], [2, 3]), ([4], [4]), ([1, 5], [1, 5]), ([6], [6]), ([0, 7], [0, 7]), ([8, 8, 0, 1, 2, 3, 4, 5, 6, 7, 8], [0, 8])])
def lin_Sum.B7 : List Nat := [0, 0, 0, 0, 12, 28, 62, 126, 255, 511]
theorem lin_Sum.tab7 : rtab .any (opsOf Try.f112 7) = lin_Sum.T7 := by kernel_rfl
theorem lin_Sum.bits7 : waitsOk lin_Sum.T7.2 lin_Sum.B7 = true := by kernel_rfl
set_option maxHeartbeats 8000000 in
set_option maxRecDepth 100000 in
theorem lin_Sum.calls (k : Nat) (P0_ : Nat → Prop) (A0 : Option Addr) (c0 : Nat) (l0 : List (S62)) (A1 : Option Addr) (c1 : Nat) (l1 : List Int) (r1 : Int) (r2 : List (S68)) (r3 : Int) (w : World) (hs0 : Kd.V k62 62 w w.heap.size (fun k_ => P0_ k_) (.slice A0 l0.length c0) l0) (hr1 : Kd.C (Kd.int .i64) w A1 l1.length l1) (hc1 : l1.length ≤ c1) (h : lin_Sum.f k l0 l1 = some (r1, r2, r3)) :
  Calls Try.prog 112 #[.slice A0 l0.length c0, .slice A1 l1.length c1] w fun e w' => ∃ v1_ : Value, e = .returned (.tuple #[.agg #[.int .i64 r1, v1_], .int .i64 r3]) ∧ Kd.R k68 68 w' w.heap.size (fun k_ => (w.heap.size ≤ k_)) v1_ r2 ∧ Below w.heap.size w w' := by
 have hu62 := Try.underlying62
 have hu158 := Try.underlying158
 have HO0 := zK (show Kd.V k62 62 w w.heap.size (fun k_ => (P0_ k_ ∨ w.heap.size ≤ k_)) (.slice A0 l0.length c0) l0 from vM hs0 (fun k_ hk => .inl hk))
 have HR1 := zK hr1
 have HC1 := zK hc1; clear hr1 hc1
 have HB := zK (Below.refl w.heap.size w)
 have H : ((lin_right.f k l0).bind fun t212 => (if t212 = true then (lin_Sum.j0 k l0 l1 ((l0.length : Int) != (l1.length : Int))) else (lin_Sum.j0 k l0 l1 true))) = some (r1, r2, r3) := h
 clear h
 have HC3 := zK H; clear H
 go_enter Try.func112, Try.ntmps112
 go_upto_region 1 with (first | ((with_reducible refine gate_dst (N := 4) rfl ?_); (try (refine zG (by rfl) ?_; dsimp only)); refine box_event ?hg (N := 4) ?hd (cs := #[.int .i64 0, .slice none 0 0]) (t := 62) ?hr ?_; (case hd => rfl); (case hg => rfl); (case hr => first | (go_simp; done) | (go_simp; rfl)); intro gb211 hg w4 hbox hb; replace HO0 := zK (Kd.V_below (Kd.V_elderB (zv HO0) gb211 (Nat.le_of_eq hg.symm)) hb); have BK211 := zK (hbox); have GW211 := zK ((by rw [hg]; exact (below_size (zo HB)) : w.heap.size ≤ gb211)); have GE211 := zK ((by rw [hg]; exact (below_size (zo HB)) : w.heap.size ≤ gb211)); replace HB := zK (below_step (zo HB) hb); clear hb hbox hg))
 (try simp only [Act.put, zt, zz, zs])
 go_cut [18] (fun v18 wc => ∃ (kq : Nat) (x18_2 : Bool), v18 = .bool x18_2 ∧ Aside0 (lin_Sum.j0 kq l0 l1 x18_2 = some (r1, r2, r3)) ∧ Aside0 (kq ≤ k) ∧ Aside0 (Kd.V k62 62 wc w.heap.size (fun k_ => (P0_ k_ ∨ w.heap.size ≤ k_) ∧ k_ ≠ gb211) (.slice A0 l0.length c0) l0) ∧ Aside0 (wc.heap[gb211]? = some (.cells #[.int .i64 0, (.slice none 0 0)] 62 (0, 0))) ∧ Aside0 (Below w.heap.size w wc))
 case first =>
  have H := HC3.out; clear HC3; replace H := Option.bind_eq_some_iff.mp H
  obtain ⟨t212, A50, H⟩ := H
  replace H : (if t212 = true then (lin_Sum.j0 k l0 l1 ((l0.length : Int) != (l1.length : Int))) else (lin_Sum.j0 k l0 l1 true)) = some (r1, r2, r3) := H
  have A5 := zK A50; clear A50
  by_cases c6 : t212 = true
  ·subst c6
   have H1 : (lin_Sum.j0 k l0 l1 ((l0.length : Int) != (l1.length : Int))) = some (r1, r2, r3) := by rw [if_pos rfl] at H; exact H
   clear H; have H := H1; clear H1
   have H' := zK H; clear H
   go_wp2_with (first | ((with_reducible refine zC (f := 87) rfl ?_); refine goesL_ (some 10) rfl rfl Try.func87 (by kernel_rfl) rfl #[.slice A0 l0.length c0] rfl (by (try simp only [List.map_toArray, List.map_cons, List.map_nil]); first | done | rfl | (simp only [List.length_drop, List.length_take]; rfl)) ?_; (with_reducible refine (lin_right.calls k _ _ l0 true _ ?side1 ?side2 A5.out).mono ?_); (case side1 => repeat (first | exact (Kd.V_reads' HO0.out).2.2 | (with_reducible refine cA ?_ _) | (with_reducible refine cN ?_ _) | (with_reducible refine cD ?_))); (case side2 => exact (Kd.V_reads' HO0.out).2.1); rintro e w7 ⟨rfl, hb⟩; refine ⟨_, rfl, ?_⟩; replace HO0 := zK (Kd.V_below (zv HO0) hb); replace BK211 := zK (blk_below (g := gb211) (o := .cells #[.int .i64 0, .slice none 0 0] 62 (0, 0)) (zb BK211) hb); replace HB := zK (below_step (zo HB) hb); (try clear hb); (try clear hb2); (try clear hk); (try clear hi)))
   go_meet
   case rel => exact ⟨_, (((l0.length : Int) != (l1.length : Int))), (by first | rfl | (simp; done) | (simp [*]; done)), H', ⟨by first | omega | exact Nat.le_refl _⟩, ⟨zv HO0⟩, ⟨zb BK211⟩, ⟨zo HB⟩⟩
  ·replace c6 := Bool.eq_false_iff.mpr c6
   subst c6
   have H1 : (lin_Sum.j0 k l0 l1 true) = some (r1, r2, r3) := by rw [if_neg (show ¬ (false = true) by decide)] at H; exact H
   clear H; have H := H1; clear H1
   have H' := zK H; clear H
   go_wp2_with (first | ((with_reducible refine zC (f := 87) rfl ?_); refine goesL_ (some 10) rfl rfl Try.func87 (by kernel_rfl) rfl #[.slice A0 l0.length c0] rfl (by (try simp only [List.map_toArray, List.map_cons, List.map_nil]); first | done | rfl | (simp only [List.length_drop, List.length_take]; rfl)) ?_; (with_reducible refine (lin_right.calls k _ _ l0 false _ ?side1 ?side2 A5.out).mono ?_); (case side1 => repeat (first | exact (Kd.V_reads' HO0.out).2.2 | (with_reducible refine cA ?_ _) | (with_reducible refine cN ?_ _) | (with_reducible refine cD ?_))); (case side2 => exact (Kd.V_reads' HO0.out).2.1); rintro e w8 ⟨rfl, hb⟩; refine ⟨_, rfl, ?_⟩; replace HO0 := zK (Kd.V_below (zv HO0) hb); replace BK211 := zK (blk_below (g := gb211) (o := .cells #[.int .i64 0, .slice none 0 0] 62 (0, 0)) (zb BK211) hb); replace HB := zK (below_step (zo HB) hb); (try clear hb); (try clear hb2); (try clear hk); (try clear hi)))
   go_meet
   case rel => exact ⟨_, (true), (by first | rfl | (simp; done) | (simp [*]; done)), H', ⟨by first | omega | exact Nat.le_refl _⟩, ⟨zv HO0⟩, ⟨zb BK211⟩, ⟨zo HB⟩⟩
 case rest =>
  clear HC3; try clear c1; try clear p2; try clear c6; try clear c8
  obtain ⟨kq, x18_2, rfl, HA, HJ2, HO_0, BK211, HB⟩ := hcut
  cases kq with
  | zero => exact absurd HA.out (by simp [lin_Sum.j0])
  | succ kj2 =>
   have H := HA.out; clear HA
   simp only [lin_Sum.j0] at H
   by_cases c9 : x18_2 = true
   ·subst c9
    have H1 : (some (0, ([] : List (S68)), 1)) = some (r1, r2, r3) := by rw [if_pos rfl] at H; exact H
    clear H; have H := H1; clear H1
    simp only [Option.some.injEq, Prod.mk.injEq] at H
    obtain ⟨rfl, rfl, rfl⟩ := H
    have hcz10_0 : wc.cell? ⟨gb211, 0, none⟩ = some (.int .i64 0) := (blk_cell BK211.out 0).trans rfl
    have hcz10_1 : wc.cell? ⟨gb211, 1, none⟩ = some (.slice none 0 0) := (blk_cell BK211.out 1).trans rfl
    have hfz10_0 := blk_frozen BK211.out 0
    have hfz10_1 := blk_frozen BK211.out 1
    go_wp2
    refine bodyPost_ret (results_ct rfl _ _ gb211 62 #[.int .i64 0, .slice none 0 0] (0, 0) _ rfl (by refine zM ?_; refine blk_put (cs := #[.int .i64 0, .slice none 0 0]) ?_ 1 _ rfl; refine zM ?_; refine blk_put (cs := #[.int .i64 0, .slice none 0 0]) ?_ 0 _ rfl; refine zM ?_; exact BK211.out) Try.underlying62 rfl (by kernel_rfl)) rfl ?_
    exact ⟨_, by first | rfl | (simp [errW_none, errW_some] <;> rfl) | (simp [*, errW_none, errW_some] <;> rfl), by first | exact Kd.R_nil _ _ _ _ _ | exact Kd.N_nil _ _ _ _ _ | exact Kd.V_nil _ _ _ _ _ | exact Kd.Q_nil _ _ _ _ _ | exact Kd.S_nil _ _ _ _ _, zo HB⟩
   ·replace c9 := Bool.eq_false_iff.mpr c9
    subst c9
    have H1 : (lin_Sum.l0 kj2 l1 ([] : List (S158)) l0 (l0.length : Int) 0) = some (r1, r2, r3) := by rw [if_neg (show ¬ (false = true) by decide)] at H; exact H
    clear H; have H := H1; clear H1
    have H' := zK H; clear H
    go_wp2
    go_loopg [6, 22] kj2 (fun kq v6 v22 w' => ∃ (x6_2 : List (S158)) (x22_2 : Int), v22 = .int .i64 x22_2 ∧ Aside0 (lin_Sum.l0 kq l1 x6_2 l0 (l0.length : Int) x22_2 = some (r1, r2, r3)) ∧ Aside0 (kq ≤ kj2) ∧ Aside0 (Kd.N k158 158 w' w.heap.size (fun k_ => (P0_ k_ ∨ w.heap.size ≤ k_) ∧ k_ ≠ gb211) v6 x6_2) ∧ Aside0 (Kd.V k62 62 w' w.heap.size (fun k_ => (P0_ k_ ∨ w.heap.size ≤ k_) ∧ some k_ ≠ (v6 : Value).ownBlock ∧ k_ ≠ gb211) (.slice A0 l0.length c0) l0) ∧ Aside0 (w'.heap[gb211]? = some (.cells #[.int .i64 0, (.slice none 0 0)] 62 (0, 0))) ∧ Aside0 (Below w.heap.size w w'))
    case atStart => exact ⟨(([] : List (S158))), (0), (by first | rfl | (simp; done) | (simp [*]; done)), H', ⟨Nat.le_refl _⟩, ⟨by first | exact Kd.S_nil _ _ _ _ _ | exact Kd.N_nil _ _ _ _ _ | exact Kd.V_nil _ _ _ _ _ | exact Kd.Q_nil _ _ _ _ _ | exact Kd.R_nil _ _ _ _ _⟩, ⟨by (with_reducible repeat (first | apply vA | apply vN | apply vD)); exact vM HO_0.out (fun _ hk => ⟨hk.1, ⟨(by simp [Value.ownBlock]), hk.2⟩⟩)⟩, ⟨zb BK211⟩, ⟨zo HB⟩⟩
    case round =>
     clear H'; try clear c1; try clear p2; try clear c6
     try clear c8; try clear c9; try clear hcz10_0; try clear hcz10_1; try clear hfz10_0; try clear hfz10_1; try clear p2
     obtain ⟨x6_2, x22_2, rfl, HA, HK2, HO_6, HO_20, BK211, HB⟩ := hrel
     cases gk with
     | zero => exact absurd HA.out (by simp [lin_Sum.l0])
     | succ k2 =>
      have H := HA.out; clear HA
      simp only [lin_Sum.l0] at H
      by_cases c11 : x22_2 < (l0.length : Int)
      ·rw [if_pos c11] at H
       have c11b0 : decide (x22_2 < (l0.length : Int)) = true := decide_eq_true c11
       clear c11
       by_cases c12 : 0 ≤ x22_2
       ·rw [if_pos c12] at H
        have c12b0 : decide (0 ≤ x22_2) = true := decide_eq_true c12; clear c12
        by_cases c13 : x22_2 < (l0.length : Int)
        ·rw [if_pos c13] at H
         have c13b0 : decide (x22_2 < (l0.length : Int)) = true := decide_eq_true c13
         clear c13
         by_cases c14 : x22_2 < (l1.length : Int)
         ·rw [if_pos c14] at H
          have c14b0 : decide (x22_2 < (l1.length : Int)) = true := decide_eq_true c14
          clear c14
          by_cases c15 : x6_2.length < 3518437208883
          ·rw [if_pos c15] at H
           have LMc15 := zK c15; clear c15
           obtain ⟨y216, hy216⟩ : ∃ y_ : List (S158), y_ = (x6_2 ++ [(⟨(⟨(rd_T62 l0 x22_2).f0, (rd_T62 l0 x22_2).f1⟩ : S62), rd l1 x22_2⟩ : S158)]) := ⟨_, rfl⟩
           replace H : (lin_Sum.l0 k2 l1 y216 l0 (l0.length : Int) (wrap64 (x22_2 + 1))) = some (r1, r2, r3) := by first | (rw [hy216]; with_reducible exact H) | (have H2_ := (Option.bind_some _ _).symm.trans H; rw [hy216]; with_reducible exact H2_) | (have H2_ := (Option.bind_some _ _).symm.trans H; with_reducible exact H2_) | with_reducible exact H | (rw [hy216]; exact H) | exact H
           have Ny216 := zK hy216; clear hy216
           have H' := zK H; clear H
           have p213 : 0 ≤ (x22_2 : Int) := of_decide_eq_true (by first | (with_reducible assumption) | assumption)
           have q213 : x22_2 < (l0.length : Int) := of_decide_eq_true (by first | (with_reducible assumption) | assumption)
           obtain ⟨ad213, A213_1, c213_1, e213, hx213_0, hx213_1, hl213_1, hi213_1⟩ := at_T62 (Kd.V_reads' HO_20.out).2.2 x22_2 p213 q213
           cases e213
           obtain ⟨ce213, hce213, hMe213, hcc213⟩ := Kd.V_get HO_20.out z62 x22_2 p213 (by first | exact q213 | exact of_decide_eq_true (by first | (with_reducible assumption) | assumption) | (have e_ := (Kd.V_reads' HO_20.out).1; omega))
           obtain ⟨ua213_1, uc213_1, rfl, ul213_1, ge213_1⟩ := k62_openF hMe213
           have hv213_1 := hcc213 1 _ rfl
           rw [add_field _ _ 1 (by omega)] at hv213_1
           replace hv213_1 := Option.some.inj (hv213_1.symm.trans hx213_1)
           injection hv213_1 with hva_ hvn_ hvc_
           rw [hva_] at ge213_1
           rw [hvc_] at ul213_1
           have HL213_1 := zK (show Kd.V k68 68 _ w.heap.size _ _ ((rd_T62 l0 x22_2).f1) from Kd.V_mk ul213_1 ge213_1)
           clear hva_ hvn_ hvc_ ge213_1 ul213_1 hcc213 hce213
           have HR213_1 := zK hi213_1
           have HC213_1 := zK hl213_1; clear hi213_1 hl213_1
           replace p213 := eq_true p213
           replace q213 := eq_true q213
           try go_wp2_with (first | ((with_reducible refine gate_dst (N := 8) rfl ?_); (try (refine zG (by rfl) ?_; dsimp only)); refine box_event ?hg (N := 8) ?hd (cs := #[.int .i64 0, .slice none 0 0]) (t := 62) ?hr ?_; (case hd => rfl); (case hg => rfl); (case hr => first | (go_simp; done) | (go_simp; rfl)); intro gb214 hg w16 hbox hb; replace HO_6 := zK (Kd.N_below (Kd.N_elderB (zn HO_6) gb214 (Nat.le_of_eq hg.symm)) hb); replace HO_20 := zK (Kd.V_below (Kd.V_elderB (zv HO_20) gb214 (Nat.le_of_eq hg.symm)) hb); replace HL213_1 := zK (Kd.V_below (Kd.V_elderB (zv HL213_1) gb214 (Nat.le_of_eq hg.symm)) hb); replace HR213_1 := zK (Kd.C_below (by repeat (first | (with_reducible exact HR213_1.out) | (with_reducible refine cA ?_ _) | (with_reducible refine cN ?_ _) | (with_reducible refine cD ?_) | exact HR213_1.out)) hb); have BK214 := zK (hbox); have GW214 := zK ((by rw [hg]; exact (below_size (zo HB)) : w.heap.size ≤ gb214)); have GE214 := zK ((by rw [hg]; exact (below_size (zo HB)) : w.heap.size ≤ gb214)); replace HB := zK (below_step (zo HB) hb); have NB211_214 := zK ((by rw [hg]; exact Nat.ne_of_lt (blk_lt (g := gb211) (o := .cells #[.int .i64 0, .slice none 0 0] 62 (0, 0)) (zb BK211)) : gb211 ≠ gb214)); have NB214_211 := zK ((by rw [hg]; exact Nat.ne_of_gt (blk_lt (g := gb211) (o := .cells #[.int .i64 0, .slice none 0 0] 62 (0, 0)) (zb BK211)) : gb214 ≠ gb211)); replace BK211 := zK (blk_below (g := gb211) (o := .cells #[.int .i64 0, .slice none 0 0] 62 (0, 0)) (zb BK211) hb); clear hb hbox hg; have hnb17 := NB214_211.out; have hnc17 := NB211_214.out; have hcz18_0 : w16.cell? ⟨gb214, 0, none⟩ = some (.int .i64 0) := (blk_cell BK214.out 0).trans rfl; have hcz18_1 : w16.cell? ⟨gb214, 1, none⟩ = some (.slice none 0 0) := (blk_cell BK214.out 1).trans rfl; have hfz18_0 := blk_frozen BK214.out 0; have hfz18_1 := blk_frozen BK214.out 1))
           have n0_ : Aside0 (Kd.N k158 158 ((w16.setCell ⟨gb214, 0, none⟩ (.int .i64 ((rd_T62 l0 x22_2).f0))).setCell ⟨gb214, 1, none⟩ (.slice A213_1 ((rd_T62 l0 x22_2).f1).length c213_1)) w.heap.size (fun k_ => (P0_ k_ ∨ w.heap.size ≤ k_) ∧ k_ ≠ gb211 ∧ k_ ≠ gb214) u6 x6_2) := ⟨by (with_reducible repeat (first | apply nA | apply nN | apply nD)); exact Kd.N_mono (Kd.N_far (p := ⟨gb214, 1, none⟩) (Kd.N_far (p := ⟨gb214, 0, none⟩) (Kd.N_mono HO_6.out (fun k_ hk => (⟨hk, hk.2⟩ : _ ∧ k_ ≠ gb214))) (fun _ hk => hk.2) (.int .i64 ((rd_T62 l0 x22_2).f0))) (fun _ hk => hk.2) (.slice A213_1 ((rd_T62 l0 x22_2).f1).length c213_1)) (fun _ hk => ⟨hk.1.1.1, ⟨hk.1.1.2, hk.1.2⟩⟩)⟩
           have n1_ : Aside0 (Kd.V k62 62 ((w16.setCell ⟨gb214, 0, none⟩ (.int .i64 ((rd_T62 l0 x22_2).f0))).setCell ⟨gb214, 1, none⟩ (.slice A213_1 ((rd_T62 l0 x22_2).f1).length c213_1)) w.heap.size (fun k_ => (P0_ k_ ∨ w.heap.size ≤ k_) ∧ some k_ ≠ (u6 : Value).ownBlock ∧ k_ ≠ gb211 ∧ k_ ≠ gb214) (.slice (some ad213) l0.length c0) l0) := ⟨by (with_reducible repeat (first | apply vA | apply vN | apply vD)); exact vM (vF (p := ⟨gb214, 1, none⟩) (vF (p := ⟨gb214, 0, none⟩) (vM HO_20.out (fun k_ hk => (⟨hk, hk.2⟩ : _ ∧ k_ ≠ gb214))) (fun _ hk => hk.2) (.int .i64 ((rd_T62 l0 x22_2).f0))) (fun _ hk => hk.2) (.slice A213_1 ((rd_T62 l0 x22_2).f1).length c213_1)) (fun _ hk => ⟨hk.1.1.1, ⟨hk.1.1.2.1, ⟨hk.1.1.2.2, hk.1.2⟩⟩⟩)⟩
           have n2_ : Aside0 (Kd.V k68 68 ((w16.setCell ⟨gb214, 0, none⟩ (.int .i64 ((rd_T62 l0 x22_2).f0))).setCell ⟨gb214, 1, none⟩ (.slice A213_1 ((rd_T62 l0 x22_2).f1).length c213_1)) w.heap.size (fun k_ => (P0_ k_ ∨ w.heap.size ≤ k_) ∧ some k_ ≠ (u6 : Value).ownBlock ∧ k_ ≠ gb211 ∧ k_ ≠ gb214) (.slice A213_1 ((rd_T62 l0 x22_2).f1).length c213_1) ((rd_T62 l0 x22_2).f1)) := ⟨by (with_reducible repeat (first | apply vA | apply vN | apply vD)); exact vM (vF (p := ⟨gb214, 1, none⟩) (vF (p := ⟨gb214, 0, none⟩) (vM HL213_1.out (fun k_ hk => (⟨hk, hk.2⟩ : _ ∧ k_ ≠ gb214))) (fun _ hk => hk.2) (.int .i64 ((rd_T62 l0 x22_2).f0))) (fun _ hk => hk.2) (.slice A213_1 ((rd_T62 l0 x22_2).f1).length c213_1)) (fun _ hk => ⟨hk.1.1.1, ⟨hk.1.1.2.1, ⟨hk.1.1.2.2, hk.1.2⟩⟩⟩)⟩
           have n3_ : Aside0 (((w16.setCell ⟨gb214, 0, none⟩ (.int .i64 ((rd_T62 l0 x22_2).f0))).setCell ⟨gb214, 1, none⟩ (.slice A213_1 ((rd_T62 l0 x22_2).f1).length c213_1)).heap[gb211]? = some (.cells #[.int .i64 0, .slice none 0 0] 62 (0, 0))) := ⟨zb BK211⟩
           have n4_ : Aside0 (((w16.setCell ⟨gb214, 0, none⟩ (.int .i64 ((rd_T62 l0 x22_2).f0))).setCell ⟨gb214, 1, none⟩ (.slice A213_1 ((rd_T62 l0 x22_2).f1).length c213_1)).heap[gb214]? = some (.cells #[.int .i64 ((rd_T62 l0 x22_2).f0), .slice A213_1 ((rd_T62 l0 x22_2).f1).length c213_1] 62 (0, 0))) := ⟨by refine zM ?_; refine blk_put (cs := #[.int .i64 ((rd_T62 l0 x22_2).f0), .slice none 0 0]) ?_ 1 _ rfl; refine zM ?_; refine blk_put (cs := #[.int .i64 0, .slice none 0 0]) ?_ 0 _ rfl; refine zM ?_; exact BK214.out⟩
           have n5_ : Aside0 (Below w.heap.size w ((w16.setCell ⟨gb214, 0, none⟩ (.int .i64 ((rd_T62 l0 x22_2).f0))).setCell ⟨gb214, 1, none⟩ (.slice A213_1 ((rd_T62 l0 x22_2).f1).length c213_1))) := ⟨zo HB⟩
           (try clear HO_6)
           (try clear HO_20)
           (try clear HL213_1)
           (try clear BK211)
           (try clear BK214)
           (try clear HB)
           generalize ((w16.setCell ⟨gb214, 0, none⟩ (.int .i64 ((rd_T62 l0 x22_2).f0))).setCell ⟨gb214, 1, none⟩ (.slice A213_1 ((rd_T62 l0 x22_2).f1).length c213_1)) = w19 at n0_ n1_ n2_ n3_ n4_ n5_ ⊢
           have HO_6 := n0_
           have HO_20 := n1_
           have HL213_1 := n2_
           have BK211 := n3_
           have BK214 := n4_
           have HB := n5_; clear n0_ n1_ n2_ n3_ n4_ n5_
           replace HO_6 := zK (nD HO_6.out)
           replace HO_20 := zK (vD HO_20.out)
           replace HL213_1 := zK (vD HL213_1.out)
           replace BK211 := zK (zD BK211.out)
           replace BK214 := zK (zD BK214.out)
           replace HB := zK (yD HB.out)
           have p215 : 0 ≤ (x22_2 : Int) := of_decide_eq_true (by first | (with_reducible assumption) | assumption)
           have q215 : x22_2 < (l1.length : Int) := of_decide_eq_true (by first | (with_reducible assumption) | assumption)
           obtain ⟨ad215, e215, hx215_0⟩ := Kd.at_int HR1.out x22_2 p215 q215
           have hw215_0 := hx215_0
           cases e215
           replace hx215_0 := (HB.out.cell (World.block_lt_of_cell? w _ hx215_0)).trans hx215_0
           replace p215 := eq_true p215
           replace q215 := eq_true q215
           refine start_ (n := 10) (S := fun w' => w'.cell? ⟨gb214, 0, none⟩ = some (.int .i64 ((rd_T62 l0 x22_2).f0)) ∧ w'.cell? ⟨gb214, 1, none⟩ = some (.slice A213_1 ((rd_T62 l0 x22_2).f1).length c213_1) ∧ w'.cell? (ad215.add (x22_2).toNat) = some (.int .i64 (rd l1 x22_2))) (ds := []) #[F_,F_,F_,F_,F_,F_,F_,F_,F_,F_] (by kernel_rfl) rfl rfl ⟨(blk_cell BK214.out 0).trans rfl, (blk_cell BK214.out 1).trans rfl, ((HB.out.cell (World.block_lt_of_cell? w _ hw215_0)).trans hw215_0)⟩ (fun hHeld => ?_); refine with_tabW lin_Sum.tab7 lin_Sum.bits7 (fun HT_ HW_ => ?_)
           generalize w19.drew = w20 at HO_6 HO_20 HL213_1 BK211 BK214 HB hx215_0 hHeld ⊢
           refine pure_ (i := 0) (N := some 27) (v := ?_) (a' := ?_) #[T_,F_,F_,F_,F_,F_,F_,F_,F_,F_] rfl rfl (any_of HT_.out (by kernel_rfl)) (fun _ _ _ h => h) (Or.inl ⟨by rfl, ?_⟩) ?_ ?_; rotate_left; (intro w'; go_simp; with_reducible rfl); rotate_left; (simp only [Act.put, zt, zz, zs, i64_w, i32_w]; rfl)
           refine pure_ (i := 2) (N := some 29) (v := ?_) (a' := ?_) #[T_,F_,T_,F_,F_,F_,F_,F_,F_,F_] rfl rfl (any_of HT_.out (by kernel_rfl)) (fun _ _ _ h => h) (Or.inl ⟨by rfl, ?_⟩) ?_ ?_; rotate_left; (intro w'; go_simp; with_reducible rfl); rotate_left; (simp only [Act.put, zt, zz, zs, i64_w, i32_w]; rfl)
           refine pure_ (i := 3) (N := some 30) (v := ?_) (a' := ?_) #[T_,F_,T_,T_,F_,F_,F_,F_,F_,F_] rfl rfl (any_of HT_.out (by kernel_rfl)) (fun _ _ _ h => h) (Or.inl ⟨by rfl, ?_⟩) ?_ ?_; rotate_left; (intro w'; go_simp; with_reducible rfl); rotate_left; (simp only [Act.put, zt, zz, zs, i64_w, i32_w]; rfl)
           refine pure_ (i := 4) (N := some 31) (v := ?_) (a' := ?_) #[T_,F_,T_,T_,T_,F_,F_,F_,F_,F_] rfl rfl (any_of HT_.out (by kernel_rfl)) (fun _ _ _ h => h) (Or.inl ⟨by rfl, ?_⟩) ?_ ?_; rotate_left; (intro w'; go_simp; with_reducible rfl); rotate_left; (simp only [Act.put, zt, zz, zs, i64_w, i32_w]; rfl)
           refine take_ (i := 1) (N := some 28) (v := ?_) (a' := ?_) #[T_,T_,T_,T_,T_,F_,F_,F_,F_,F_] rfl rfl (take_ofW HT_.out HW_.out (by kernel_rfl)) (fun _ _ _ h => h) (Or.inl ⟨by rfl, ?_⟩) hHeld ?_ ?_; rotate_left; (rintro w' ⟨s0, s1, s2⟩; go_simp; with_reducible rfl); rotate_left; (simp only [Act.put, zt, zz, zs, i64_w, i32_w]; rfl)
           refine take_ (i := 5) (N := some 32) (v := ?_) (a' := ?_) #[T_,T_,T_,T_,T_,T_,F_,F_,F_,F_] rfl rfl (take_ofW HT_.out HW_.out (by kernel_rfl)) (fun _ _ _ h => h) (Or.inl ⟨by rfl, ?_⟩) hHeld ?_ ?_; rotate_left; (rintro w' ⟨s0, s1, s2⟩; go_simp; with_reducible rfl); rotate_left; (simp only [Act.put, zt, zz, zs, i64_w, i32_w]; rfl)
           refine pure_ (i := 6) (N := some 33) (v := ?_) (a' := ?_) #[T_,T_,T_,T_,T_,T_,T_,F_,F_,F_] rfl rfl (any_of HT_.out (by kernel_rfl)) (fun _ _ _ h => h) (Or.inl ⟨by rfl, ?_⟩) ?_ ?_; rotate_left; (intro w'; go_simp; with_reducible rfl); rotate_left; (simp only [Act.put, zt, zz, zs, i64_w, i32_w]; rfl)
           refine one_ (i := 7) (N := some 34) #[T_,T_,T_,T_,T_,T_,T_,T_,F_,F_] rfl rfl (one_of HT_.out (by kernel_rfl)) (by decide) (fun K hK => ?_)
           refine value_ (w1 := ?_) (v := ?_) (by rfl) rfl ?_ ?_
           rotate_left 2
           ·go_simp
            constructor
            ·rfl
            ·rfl
           refine hK.out _ _ ⟨(blk_cell (zA BK214.out _) 0).trans rfl, (blk_cell (zA BK214.out _) 1).trans rfl, (World.cell?_alloc_lt _ _ _ (World.block_lt_of_cell? _ _ (((HB.out.cell (World.block_lt_of_cell? w _ hw215_0)).trans hw215_0)))).trans (((HB.out.cell (World.block_lt_of_cell? w _ hw215_0)).trans hw215_0))⟩ (fun hHeld => ?_)
           clear hK K
           refine norm_ (a' := ?_) ?_ ?_; rotate_left; (show Act.put _ (some 34) _ = _; simp only [Act.put, zt, zz, zs, i64_w, i32_w]; rfl)
           refine one_ (i := 8) (N := some 35) #[T_,T_,T_,T_,T_,T_,T_,T_,T_,F_] rfl rfl (one_of HT_.out (by kernel_rfl)) (by decide) (fun K hK => ?_)
           refine Kd.N_append_step k158 (w0 := w) w.heap.size (by rfl) (.tmp 27) (.tmp 34) 156 158 (.agg #[(.int .i64 0), (.slice none 0 0), (.int .i64 0)]) 40 rfl Try.underlying156 info158 rfl (by decide) (by omega) u6 x6_2 (⟨(⟨(rd_T62 l0 x22_2).f0, (rd_T62 l0 x22_2).f1⟩ : S62), rd l1 x22_2⟩ : S158) [.int .i64 ((rd_T62 l0 x22_2).f0), .slice A213_1 ((rd_T62 l0 x22_2).f1).length c213_1, .int .i64 (rd l1 x22_2)] (fun k_ => (P0_ k_ ∨ w.heap.size ≤ k_) ∧ k_ ≠ gb211 ∧ k_ ≠ gb214) (fun k_ => ((fun k_ => (P0_ k_ ∨ w.heap.size ≤ k_) ∧ k_ ≠ gb211 ∧ k_ ≠ gb214)) k_ ∧ some k_ ≠ (u6 : Value).ownBlock) rfl rfl ?aP (fun _ hk => hk) ?aF ?aO ?aB ?aS ?aL ?_
           (case aP => exact (k158_mkF _ _ (⟨(⟨(rd_T62 l0 x22_2).f0, (rd_T62 l0 x22_2).f1⟩ : S62), rd l1 x22_2⟩ : S158) (Kd.V_reads' (vM (ok' := (fun k_ => ((fun k_ => (P0_ k_ ∨ w.heap.size ≤ k_) ∧ k_ ≠ gb211 ∧ k_ ≠ gb214)) k_ ∧ some k_ ≠ (u6 : Value).ownBlock)) (HL213_1.out) (fun k_ hk => ⟨⟨hk.1, ⟨hk.2.2.1, hk.2.2.2⟩⟩, hk.2.1⟩))).2.1 (Kd.V_F (vM (ok' := (fun k_ => ((fun k_ => (P0_ k_ ∨ w.heap.size ≤ k_) ∧ k_ ≠ gb211 ∧ k_ ≠ gb214)) k_ ∧ some k_ ≠ (u6 : Value).ownBlock)) (HL213_1.out) (fun k_ hk => ⟨⟨hk.1, ⟨hk.2.2.1, hk.2.2.2⟩⟩, hk.2.1⟩)))))
           (case aB => exact (zo HB))
           (case aF => exact (fun k_ hk => ⟨(.inr (Nat.le_trans (below_size (zo HB)) hk)), Kd.freshB (g := gb211) (o := .cells #[.int .i64 0, .slice none 0 0] 62 (0, 0)) (zb BK211) k_ hk, Kd.freshB (g := gb214) (o := .cells #[.int .i64 ((rd_T62 l0 x22_2).f0), .slice A213_1 ((rd_T62 l0 x22_2).f1).length c213_1] 62 (0, 0)) (zb BK214) k_ hk⟩))
           (case aO => exact (zn HO_6))
           (case aS => exact (below_size (zo HB)))
           (case aL => have := LMc15.out; omega)
           intro v217 w21 ho hb hg hat
           rw [← Ny216.out] at ho
           replace HO_20 := zK (Kd.V_afterv (ok := (fun k_ => (P0_ k_ ∨ w.heap.size ≤ k_) ∧ k_ ≠ gb211 ∧ k_ ≠ gb214)) (by (with_reducible repeat (first | apply vA | apply vN | apply vD)); exact vM HO_20.out (fun _ hk => ⟨⟨hk.1, ⟨hk.2.2.1, hk.2.2.2⟩⟩, hk.2.1⟩)) hg hat)
           replace BK211 := zK (blk_grown (g := gb211) (o := .cells #[.int .i64 0, .slice none 0 0] 62 (0, 0)) (zb BK211) hg (Kd.N_ne HO_6.out BK211.out (by decide)))
           replace HL213_1 := zK (Kd.V_afterv (ok := (fun k_ => (P0_ k_ ∨ w.heap.size ≤ k_) ∧ k_ ≠ gb211 ∧ k_ ≠ gb214)) (by (with_reducible repeat (first | apply vA | apply vN | apply vD)); exact vM HL213_1.out (fun _ hk => ⟨⟨hk.1, ⟨hk.2.2.1, hk.2.2.2⟩⟩, hk.2.1⟩)) hg hat)
           replace BK214 := zK (blk_grown (g := gb214) (o := .cells #[.int .i64 ((rd_T62 l0 x22_2).f0), .slice A213_1 ((rd_T62 l0 x22_2).f1).length c213_1] 62 (0, 0)) (zb BK214) hg (Kd.N_ne HO_6.out BK214.out (by decide)))
           replace HB := zK (hb)
           have HO218 := zK (ho); clear HO_6 ho hb hg hat
           refine hK.out _ _ ⟨(blk_cell BK214.out 0).trans rfl, (blk_cell BK214.out 1).trans rfl, ((HB.out.cell (World.block_lt_of_cell? w _ hw215_0)).trans hw215_0)⟩ (fun hHeld => ?_)
           clear hK K
           refine norm_ (a' := ?_) ?_ ?_; rotate_left; (show Act.put _ (some 35) _ = _; simp only [Act.put, zt, zz, zs, i64_w, i32_w]; rfl)
           refine pure_ (i := 9) (N := some 6) (v := ?_) (a' := ?_) #[T_,T_,T_,T_,T_,T_,T_,T_,T_,T_] rfl rfl (any_of HT_.out (by kernel_rfl)) (fun _ _ _ h => h) (Or.inl ⟨by rfl, ?_⟩) ?_ ?_; rotate_left; (intro w'; go_simp; with_reducible rfl); rotate_left; (simp only [Act.put, zt, zz, zs, i64_w, i32_w]; rfl)
           refine done_ (done_of HT_.out (by kernel_rfl)) ?_
           try go_wp2
           go_roundg k2
           case measure => have := HJ2.out; have := HK2.out; omega
           case rel => exact ⟨(y216), (wrap64 (x22_2 + 1)), (by first | rfl | (simp; done) | (simp [*]; done)), H', ⟨by have := HJ2.out; have := HK2.out; omega⟩, ⟨by (with_reducible repeat (first | apply nA | apply nN | apply nD)); exact Kd.N_mono HO218.out (fun _ hk => ⟨hk.1, hk.2.1⟩)⟩, ⟨by (with_reducible repeat (first | apply vA | apply vN | apply vD)); exact vM HO_20.out (fun _ hk => ⟨hk.1.1, ⟨hk.2, hk.1.2.1⟩⟩)⟩, ⟨zb BK211⟩, ⟨zo HB⟩⟩
          ·rw [if_neg c15] at H
           exact absurd H (by simp)
         ·rw [if_neg c14] at H
          exact absurd H (by simp)
        ·rw [if_neg c13] at H
         exact absurd H (by simp)
       ·rw [if_neg c12] at H
        exact absurd H (by simp)
      ·rw [if_neg c11] at H
       have c11b0 : decide (x22_2 < (l0.length : Int)) = false := decide_eq_false c11
       clear c11; replace H := Option.bind_eq_some_iff.mp H
       obtain ⟨⟨t219, t220, t223⟩, A220, H⟩ := H
       replace H : (some (t219, t220, t223)) = some (r1, r2, r3) := H
       have A22 := zK A220; clear A220
       simp only [Option.some.injEq, Prod.mk.injEq] at H
       obtain ⟨rfl, rfl, rfl⟩ := H
       obtain ⟨Ao23, co23, eo23⟩ := Kd.N_slice HO_6.out
       subst eo23
       go_wp2_with (first | ((with_reducible refine zC (f := 119) rfl ?_); refine goesL_ (some 38) rfl rfl Try.func119 (by kernel_rfl) rfl #[.slice Ao23 x6_2.length co23] rfl (by (try simp only [List.map_toArray, List.map_cons, List.map_nil]); first | done | rfl | (simp only [List.length_drop, List.length_take]; rfl)) ?_; (with_reducible refine (lin_sum.calls _ _ x6_2 t219 t220 t223 _ ?side1 ?side2 A22.out).mono ?_); (case side1 => repeat (first | exact (Kd.N_reads' HO_6.out).2.2 | (with_reducible refine cA ?_ _) | (with_reducible refine cN ?_ _) | (with_reducible refine cD ?_))); (case side2 => exact (Kd.N_reads' HO_6.out).2.1); rintro e w24 ⟨v221, rfl, ho0, hb⟩; refine ⟨_, rfl, ?_⟩; replace HO_6 := zK (Kd.N_elder' (zn HO_6) (Kd.R_base ho0) hb); replace HO_20 := zK (Kd.V_elder' (zv HO_20) (Kd.R_base ho0) hb); have HO222 := zK (Kd.R_lower (Kd.R_newM (M := fun k_ => (w.heap.size ≤ k_)) ho0 (below_size (zo HB)) (fun k_ h_ => h_)) (below_size (zo HB))); replace BK211 := zK (blk_below (g := gb211) (o := .cells #[.int .i64 0, .slice none 0 0] 62 (0, 0)) (zb BK211) hb); replace HB := zK (below_step (zo HB) hb); (try clear hb); (try clear hb2); (try clear hk); (try clear hi); (try clear ho0); have hcz25_0 : w24.cell? ⟨gb211, 0, none⟩ = some (.int .i64 0) := (blk_cell BK211.out 0).trans rfl; have hcz25_1 : w24.cell? ⟨gb211, 1, none⟩ = some (.slice none 0 0) := (blk_cell BK211.out 1).trans rfl; have hfz25_0 := blk_frozen BK211.out 0; have hfz25_1 := blk_frozen BK211.out 1; obtain ⟨Ao26, co26, eo26⟩ := Kd.R_slice HO222.out; subst eo26))
       refine bodyPost_ret (results_ct rfl _ _ gb211 62 #[.int .i64 t219, .slice Ao26 t220.length co26] (0, 0) _ rfl (by refine zM ?_; refine blk_put (cs := #[.int .i64 t219, .slice none 0 0]) ?_ 1 _ rfl; refine zM ?_; refine blk_put (cs := #[.int .i64 0, .slice none 0 0]) ?_ 0 _ rfl; refine zM ?_; exact BK211.out) Try.underlying62 rfl (by kernel_rfl)) rfl ?_
       exact ⟨_, by first | rfl | (simp [errW_none, errW_some] <;> rfl) | (simp [*, errW_none, errW_some] <;> rfl), by (with_reducible repeat (first | apply Kd.R_alloc | apply Kd.R_drewN | apply Kd.R_drew)); exact Kd.R_mono (Kd.R_far (p := ⟨gb211, 1, none⟩) (Kd.R_far (p := ⟨gb211, 0, none⟩) (Kd.R_types HO222.out BK211.out (by decide)) (fun _ hk => hk.2) (.int .i64 t219)) (fun _ hk => hk.2) (.slice Ao26 t220.length co26)) (fun _ hk => hk.1.1), zo HB⟩

/-! ### lin_Scale: function 94 -/
def lin_Scale.f (k : Nat) (a0_0 : Int) (l0_1 : List (S68)) (a1 : Int) : Option (Int × (List (S68)) × Int) := (lin_Sum.f k (([(⟨a0_0, l0_1⟩ : S62)] : List (S62))) (([a1] : List Int))).bind fun bt232 => (some (bt232.1, bt232.2.1, bt232.2.2))
theorem lin_Scale.mono : ∀ a0 a1 a2 k, LeO (lin_Scale.f k a0 a1 a2) (lin_Scale.f (k + 1) a0 a1 a2) := by
 intro a0 a1 a2 k
 unfold lin_Scale.f
 repeat' first
   | (with_reducible exact lin_Sum.mono _ _ _)
   | (with_reducible exact LeO.refl _)
   | (with_reducible exact LeO.none _)
   | (with_reducible refine LeO.ite ?_ ?_)
   | (with_reducible refine LeO.bind ?_ (fun _ => ?_))
   | exact lin_Sum.mono _ _ _
   | exact LeO.none _
   | refine LeO.ite ?_ ?_
   | refine LeO.bind ?_ (fun _ => ?_)
set_option maxHeartbeats 8000000 in
set_option maxRecDepth 100000 in
theorem lin_Scale.calls (k : Nat) (a0_0 : Int) (P0_1_ : Nat → Prop) (A0_1 : Option Addr) (c0_1 : Nat) (l0_1 : List (S68)) (a1 : Int) (r1 : Int) (r2 : List (S68)) (r3 : Int) (w : World) (hs0_1 : Kd.V k68 68 w w.heap.size (fun k_ => P0_1_ k_) (.slice A0_1 l0_1.length c0_1) l0_1) (h : lin_Scale.f k a0_0 l0_1 a1 = some (r1, r2, r3)) :
  Calls Try.prog 94 #[.agg #[.int .i64 a0_0, .slice A0_1 l0_1.length c0_1], .int .i64 a1] w fun e w' => ∃ v1_ : Value, e = .returned (.tuple #[.agg #[.int .i64 r1, v1_], .int .i64 r3]) ∧ Kd.R k68 68 w' w.heap.size (fun k_ => (w.heap.size ≤ k_)) v1_ r2 ∧ Below w.heap.size w w' := by
 have hu62 := Try.underlying62
 have HO0_1 := zK (show Kd.V k68 68 w w.heap.size (fun k_ => (P0_1_ k_ ∨ w.heap.size ≤ k_)) (.slice A0_1 l0_1.length c0_1) l0_1 from vM hs0_1 (fun k_ hk => .inl hk))
 have HB := zK (Below.refl w.heap.size w)
 have H : ((lin_Sum.f k (([(⟨a0_0, l0_1⟩ : S62)] : List (S62))) (([a1] : List Int))).bind fun bt232 => (some (bt232.1, bt232.2.1, bt232.2.2))) = some (r1, r2, r3) := h
 clear h
 obtain ⟨y226, hy226⟩ : ∃ y_ : List (S62), y_ = (([(⟨a0_0, l0_1⟩ : S62)] : List (S62))) := ⟨_, rfl⟩
 replace H : ((lin_Sum.f k y226 (([a1] : List Int))).bind fun bt232 => (some (bt232.1, bt232.2.1, bt232.2.2))) = some (r1, r2, r3) := by first | (rw [hy226]; with_reducible exact H) | (have H2_ := (Option.bind_some _ _).symm.trans H; rw [hy226]; with_reducible exact H2_) | (have H2_ := (Option.bind_some _ _).symm.trans H; with_reducible exact H2_) | with_reducible exact H | (rw [hy226]; exact H) | exact H
 have Ny226 := zK hy226; clear hy226
 obtain ⟨y229, hy229⟩ : ∃ y_ : List Int, y_ = (([a1] : List Int)) := ⟨_, rfl⟩
 replace H : ((lin_Sum.f k y226 y229).bind fun bt232 => (some (bt232.1, bt232.2.1, bt232.2.2))) = some (r1, r2, r3) := by first | (rw [hy229]; with_reducible exact H) | (have H2_ := (Option.bind_some _ _).symm.trans H; rw [hy229]; with_reducible exact H2_) | (have H2_ := (Option.bind_some _ _).symm.trans H; with_reducible exact H2_) | with_reducible exact H | (rw [hy229]; exact H) | exact H
 have Ny229 := zK hy229; clear hy229; replace H := Option.bind_eq_some_iff.mp H
 obtain ⟨⟨t232, t233, t236⟩, A30, H⟩ := H
 replace H : (some (t232, t233, t236)) = some (r1, r2, r3) := H
 have A3 := zK A30; clear A30
 simp only [Option.some.injEq, Prod.mk.injEq] at H
 obtain ⟨rfl, rfl, rfl⟩ := H
 go_enter Try.func94, Try.ntmps94
 go_wp2_with (first | ((with_reducible refine gate_dst (N := 2) rfl ?_); refine box_event ?hg (N := 2) ?hd (cs := #[.int .i64 a0_0, .slice A0_1 l0_1.length c0_1]) (t := 62) ?hr ?_; (case hd => rfl); (case hg => rfl); (case hr => first | (go_simp; done) | (go_simp; rfl)); intro gb224 hg w4 hbox hb; replace HO0_1 := zK (Kd.V_below (Kd.V_elderB (zv HO0_1) gb224 (Nat.le_of_eq hg.symm)) hb); have BK224 := zK (hbox); have GW224 := zK ((by rw [hg]; exact (below_size (zo HB)) : w.heap.size ≤ gb224)); have GE224 := zK ((by rw [hg]; exact (below_size (zo HB)) : w.heap.size ≤ gb224)); replace HB := zK (below_step (zo HB) hb); clear hb hbox hg) | ((with_reducible refine gate_dst (N := 4) rfl ?_); refine box_event ?hg (N := 4) ?hd (cs := #[.int .i64 0, .slice none 0 0]) (t := 62) ?hr ?_; (case hd => rfl); (case hg => rfl); (case hr => first | (go_simp; done) | (go_simp; rfl)); intro gb225 hg w5 hbox hb; replace HO0_1 := zK (Kd.V_below (Kd.V_elderB (zv HO0_1) gb225 (Nat.le_of_eq hg.symm)) hb); have BK225 := zK (hbox); have GW225 := zK ((by rw [hg]; exact (below_size (zo HB)) : w.heap.size ≤ gb225)); have GE225 := zK ((by rw [hg]; exact (below_size (zo HB)) : w.heap.size ≤ gb225)); replace HB := zK (below_step (zo HB) hb); have NB224_225 := zK ((by rw [hg]; exact Nat.ne_of_lt (blk_lt (g := gb224) (o := .cells #[.int .i64 a0_0, .slice A0_1 l0_1.length c0_1] 62 (0, 0)) (zb BK224)) : gb224 ≠ gb225)); have NB225_224 := zK ((by rw [hg]; exact Nat.ne_of_gt (blk_lt (g := gb224) (o := .cells #[.int .i64 a0_0, .slice A0_1 l0_1.length c0_1] 62 (0, 0)) (zb BK224)) : gb225 ≠ gb224)); replace BK224 := zK (blk_below (g := gb224) (o := .cells #[.int .i64 a0_0, .slice A0_1 l0_1.length c0_1] 62 (0, 0)) (zb BK224) hb); clear hb hbox hg; have hnb6 := NB224_225.out; have hnc6 := NB225_224.out; have hcz7_0 : w5.cell? ⟨gb224, 0, none⟩ = some (.int .i64 a0_0) := (blk_cell BK224.out 0).trans rfl; have hcz7_1 : w5.cell? ⟨gb224, 1, none⟩ = some (.slice A0_1 l0_1.length c0_1) := (blk_cell BK224.out 1).trans rfl; have hfz7_0 := blk_frozen BK224.out 0; have hfz7_1 := blk_frozen BK224.out 1) | ((with_reducible refine gate_dst (N := 7) rfl ?_); refine Kd.N_lit k62 _ 62 ?hg (N' := 7) ?hd (xs := ([(⟨a0_0, l0_1⟩ : S62)] : List (S62))) (inner := [.int .i64 a0_0, .slice A0_1 l0_1.length c0_1]) (ok := (fun k_ => (P0_1_ k_ ∨ w.heap.size ≤ k_) ∧ k_ ≠ gb224 ∧ k_ ≠ gb225)) (okp := (fun k_ => (P0_1_ k_ ∨ w.heap.size ≤ k_) ∧ k_ ≠ gb224 ∧ k_ ≠ gb225)) ?hr ?hp (fun _ hk => hk) ((show ∀ k_, w5.heap.size ≤ k_ → (fun k_ => (P0_1_ k_ ∨ w.heap.size ≤ k_) ∧ k_ ≠ gb224 ∧ k_ ≠ gb225) k_ from fun k_ hk => ⟨(.inr (Nat.le_trans (below_size (zo HB)) hk)), Kd.freshB (g := gb224) (o := .cells #[.int .i64 a0_0, .slice A0_1 l0_1.length c0_1] 62 (0, 0)) (zb BK224) k_ hk, Kd.freshB (g := gb225) (o := .cells #[.int .i64 0, .slice none 0 0] 62 (0, 0)) (zb BK225) k_ hk⟩) _ (Nat.le_refl _)) (Below.refl _ _) (Nat.le_refl _) (by simp) ?_; (case hd => rfl); (case hg => rfl); (case hr => first | (go_simp; done) | (go_simp; rfl)); (case hp => exact (Reps.c2 (show Kd.FK k62 _ _ (⟨a0_0, l0_1⟩ : S62) [.int .i64 a0_0, .slice A0_1 l0_1.length c0_1] from (k62_mkF _ _ (⟨a0_0, l0_1⟩ : S62) (Kd.V_reads' (vM (ok' := (fun k_ => (P0_1_ k_ ∨ w.heap.size ≤ k_) ∧ k_ ≠ gb224 ∧ k_ ≠ gb225)) (HO0_1.out) (fun k_ hk => ⟨hk.1.1, ⟨hk.1.2, hk.2⟩⟩))).2.1 (Kd.V_F (vM (ok' := (fun k_ => (P0_1_ k_ ∨ w.heap.size ≤ k_) ∧ k_ ≠ gb224 ∧ k_ ≠ gb225)) (HO0_1.out) (fun k_ hk => ⟨hk.1.1, ⟨hk.1.2, hk.2⟩⟩))))) (Reps.none _ _))); intro v227 w8 ho9 hb hg_ hnew_; clear hg_ hnew_; (first | rw [← Ny226.out] at ho9 | (simp only [Int.reduceToNat] at ho9; rw [← Ny226.out] at ho9)); replace HO0_1 := zK (Kd.V_elder' (zv HO0_1) (Kd.N_base ho9) hb); have HO228 := zK (Kd.N_lower ho9 (below_size (zo HB))); replace BK224 := zK (blk_below (g := gb224) (o := .cells #[.int .i64 a0_0, .slice A0_1 l0_1.length c0_1] 62 (0, 0)) (zb BK224) hb); replace BK225 := zK (blk_below (g := gb225) (o := .cells #[.int .i64 0, .slice none 0 0] 62 (0, 0)) (zb BK225) hb); replace HB := zK (below_step (zo HB) hb); clear hb ho9) | ((with_reducible refine gate_dst (N := 9) rfl ?_); refine Kd.R_lit (Kd.int .i64) _ 2 ?hg (N := 9) ?hd (xs := ([a1] : List Int)) (inner := [.int .i64 a1]) (ok := fun _ => True) (okp := fun _ => True) ?hr ?hp (fun _ hk => hk) trivial (Below.refl _ _) (Nat.le_refl _) (by simp) ?_; (case hd => rfl); (case hg => rfl); (case hr => first | (go_simp; done) | (go_simp; rfl)); (case hp => exact (Reps.one (show Kd.M (Kd.int .i64) _ _ _ a1 [.int .i64 a1] from rfl) (Reps.none _ _))); intro v230 w10 ho11 hb hg_ hnew_; clear hg_ hnew_; (first | rw [← Ny229.out] at ho11 | (simp only [Int.reduceToNat] at ho11; rw [← Ny229.out] at ho11)); replace HO0_1 := zK (Kd.V_elder' (zv HO0_1) (Kd.R_base ho11) hb); replace HO228 := zK (Kd.N_elder' (zn HO228) (Kd.R_base ho11) hb); have HO231 := zK (Kd.R_lower (Kd.R_newM (M := fun k_ => (w.heap.size ≤ k_)) ho11 (below_size (zo HB)) (fun k_ h_ => h_)) (below_size (zo HB))); replace BK224 := zK (blk_below (g := gb224) (o := .cells #[.int .i64 a0_0, .slice A0_1 l0_1.length c0_1] 62 (0, 0)) (zb BK224) hb); replace BK225 := zK (blk_below (g := gb225) (o := .cells #[.int .i64 0, .slice none 0 0] 62 (0, 0)) (zb BK225) hb); replace HB := zK (below_step (zo HB) hb); clear hb ho11; obtain ⟨Ao12, co12, eo12⟩ := Kd.N_slice HO228.out; subst eo12; obtain ⟨Ao13, co13, eo13⟩ := Kd.R_slice HO231.out; subst eo13) | ((with_reducible refine zC (f := 112) rfl ?_); refine goesL_ (some 10) rfl rfl Try.func112 (by kernel_rfl) rfl #[.slice Ao12 y226.length co12, .slice Ao13 y229.length co13] rfl (by (try simp only [List.map_toArray, List.map_cons, List.map_nil]); first | done | rfl | (simp only [List.length_drop, List.length_take]; rfl)) ?_; (with_reducible refine (lin_Sum.calls k (fun k_ => (((P0_1_ k_ ∨ w.heap.size ≤ k_) ∧ (k_ ≠ gb224 ∧ k_ ≠ gb225)) ∧ some k_ ≠ (.slice Ao13 y229.length co13 : Value).ownBlock)) _ _ y226 _ _ y229 t232 t233 t236 _ ?side1 ?side2 ?side3 A3.out).mono ?_); (case side1 => exact Kd.N_V (HO228.out)); (case side2 => repeat (first | exact (Kd.R_reads' HO231.out).2.2 | (with_reducible refine cA ?_ _) | (with_reducible refine cN ?_ _) | (with_reducible refine cD ?_))); (case side3 => exact (Kd.R_reads' HO231.out).2.1); rintro e w14 ⟨v234, rfl, ho0, hb⟩; refine ⟨_, rfl, ?_⟩; replace HO0_1 := zK (Kd.V_elder' (zv HO0_1) (Kd.R_base ho0) hb); replace HO228 := zK (Kd.N_elder' (zn HO228) (Kd.R_base ho0) hb); replace HO231 := zK (Kd.R_below (zr HO231) hb); have HO235 := zK (Kd.R_lower (Kd.R_newM (M := fun k_ => (w.heap.size ≤ k_)) (Kd.R_mono (ok' := fun k_ => True) ho0 (fun _ hk_ => trivial)) (below_size (zo HB)) (fun k_ h_ => h_)) (below_size (zo HB))); replace BK224 := zK (blk_below (g := gb224) (o := .cells #[.int .i64 a0_0, .slice A0_1 l0_1.length c0_1] 62 (0, 0)) (zb BK224) hb); replace BK225 := zK (blk_below (g := gb225) (o := .cells #[.int .i64 0, .slice none 0 0] 62 (0, 0)) (zb BK225) hb); replace HB := zK (below_step (zo HB) hb); (try clear hb); (try clear hb2); (try clear hk); (try clear hi); (try clear ho0); have hcz15_0 : w14.cell? ⟨gb225, 0, none⟩ = some (.int .i64 0) := (blk_cell BK225.out 0).trans rfl; have hcz15_1 : w14.cell? ⟨gb225, 1, none⟩ = some (.slice none 0 0) := (blk_cell BK225.out 1).trans rfl; have hfz15_0 := blk_frozen BK225.out 0; have hfz15_1 := blk_frozen BK225.out 1; obtain ⟨Ao16, co16, eo16⟩ := Kd.R_slice HO235.out; subst eo16))
 refine bodyPost_ret (results_ct rfl _ _ gb225 62 #[.int .i64 t232, .slice Ao16 t233.length co16] (0, 0) _ rfl (by refine zM ?_; refine blk_put (cs := #[.int .i64 t232, .slice none 0 0]) ?_ 1 _ rfl; refine zM ?_; refine blk_put (cs := #[.int .i64 0, .slice none 0 0]) ?_ 0 _ rfl; refine zM ?_; exact BK225.out) Try.underlying62 rfl (by kernel_rfl)) rfl ?_
 exact ⟨_, by first | rfl | (simp [errW_none, errW_some] <;> rfl) | (simp [*, errW_none, errW_some] <;> rfl), by (with_reducible repeat (first | apply Kd.R_alloc | apply Kd.R_drewN | apply Kd.R_drew)); exact Kd.R_mono (Kd.R_far (p := ⟨gb225, 1, none⟩) (Kd.R_far (p := ⟨gb225, 0, none⟩) (Kd.R_types HO235.out BK225.out (by decide)) (fun _ hk => hk.2) (.int .i64 t232)) (fun _ hk => hk.2) (.slice Ao16 t233.length co16)) (fun _ hk => hk.1.1), zo HB⟩

/-! ### shadow_split: function 65 -/
def shadow_split.f (k : Nat) (a0_0 : Int) (l0_1 : List (S68)) (a1 : Int) (a2 : Int) : Option (Int × (List (S68)) × Bool) := (lin_Scale.f k a0_0 l0_1 (-1)).bind fun bt239 => (if bt239.2.2 = 0 then ((num_Sub.f bt239.1 a2).bind fun bt245 => (some (bt245.1, bt239.2.1, bt245.2))) else (some (0, ([] : List (S68)), false)))
theorem shadow_split.mono : ∀ a0 a1 a2 a3 k, LeO (shadow_split.f k a0 a1 a2 a3) (shadow_split.f (k + 1) a0 a1 a2 a3) := by
 intro a0 a1 a2 a3 k
 unfold shadow_split.f
 repeat' first
   | (with_reducible exact lin_Scale.mono _ _ _ _)
   | (with_reducible exact LeO.refl _)
   | (with_reducible exact LeO.none _)
   | (with_reducible refine LeO.ite ?_ ?_)
   | (with_reducible refine LeO.bind ?_ (fun _ => ?_))
   | exact lin_Scale.mono _ _ _ _
   | exact LeO.none _
   | refine LeO.ite ?_ ?_
   | refine LeO.bind ?_ (fun _ => ?_)
set_option maxHeartbeats 8000000 in
set_option maxRecDepth 100000 in
theorem shadow_split.calls (k : Nat) (a0_0 : Int) (A0_1 : Option Addr) (c0_1 : Nat) (l0_1 : List (S68)) (a1 : Int) (a2 : Int) (r1 : Int) (r2 : List (S68)) (r3 : Bool) (w : World) (hr0_1 : Kd.C k68 w A0_1 l0_1.length l0_1) (hc0_1 : l0_1.length ≤ c0_1) (h : shadow_split.f k a0_0 l0_1 a1 a2 = some (r1, r2, r3)) :
  Calls Try.prog 65 #[.agg #[.int .i64 a0_0, .slice A0_1 l0_1.length c0_1], .int .i64 a1, .int .i64 a2] w fun e w' => ∃ v1_ : Value, e = .returned (.tuple #[.agg #[.int .i64 r1, v1_], .bool r3]) ∧ Kd.R k68 68 w' w.heap.size (fun _ => True) v1_ r2 ∧ Below w.heap.size w w' := by
 have hu62 := Try.underlying62
 have HR0_1 := zK hr0_1
 have HC0_1 := zK hc0_1; clear hr0_1 hc0_1
 have HB := zK (Below.refl w.heap.size w)
 have H : ((lin_Scale.f k a0_0 l0_1 (-1)).bind fun bt239 => (if bt239.2.2 = 0 then ((num_Sub.f bt239.1 a2).bind fun bt245 => (some (bt245.1, bt239.2.1, bt245.2))) else (some (0, ([] : List (S68)), false)))) = some (r1, r2, r3) := h
 clear h; replace H := Option.bind_eq_some_iff.mp H
 obtain ⟨⟨t239, t240, t243⟩, A40, H⟩ := H
 replace H : (if t243 = 0 then ((num_Sub.f t239 a2).bind fun bt245 => (some (bt245.1, t240, bt245.2))) else (some (0, ([] : List (S68)), false))) = some (r1, r2, r3) := H
 have A4 := zK A40; clear A40
 by_cases c5 : t243 = 0
 ·rw [if_pos c5] at H
  have c5b0 : (t243 == 0) = true := beq_iff_eq.mpr c5
  have c5b1 : (t243 != 0) = false := bne_eq_false_iff_eq.mpr c5; clear c5
  replace H := Option.bind_eq_some_iff.mp H
  obtain ⟨⟨t245, t246⟩, A60, H⟩ := H
  replace H : (some (t245, t240, t246)) = some (r1, r2, r3) := H
  have A6 := zK A60; clear A60
  simp only [Option.some.injEq, Prod.mk.injEq] at H
  obtain ⟨rfl, rfl, rfl⟩ := H
  go_enter Try.func65, Try.ntmps65
  go_wp2_with (first | ((with_reducible refine gate_dst (N := 3) rfl ?_); refine box_event ?hg (N := 3) ?hd (cs := #[.int .i64 a0_0, .slice A0_1 l0_1.length c0_1]) (t := 62) ?hr ?_; (case hd => rfl); (case hg => rfl); (case hr => first | (go_simp; done) | (go_simp; rfl)); intro gb237 hg w7 hbox hb; have BK237 := zK (hbox); have GW237 := zK ((by rw [hg]; exact (below_size (zo HB)) : w.heap.size ≤ gb237)); have GE237 := zK ((by rw [hg]; exact (below_size (zo HB)) : w.heap.size ≤ gb237)); replace HB := zK (below_step (zo HB) hb); clear hb hbox hg) | ((with_reducible refine gate_dst (N := 6) rfl ?_); refine box_event ?hg (N := 6) ?hd (cs := #[.int .i64 0, .slice none 0 0]) (t := 62) ?hr ?_; (case hd => rfl); (case hg => rfl); (case hr => first | (go_simp; done) | (go_simp; rfl)); intro gb238 hg w8 hbox hb; have BK238 := zK (hbox); have GW238 := zK ((by rw [hg]; exact (below_size (zo HB)) : w.heap.size ≤ gb238)); have GE238 := zK ((by rw [hg]; exact (below_size (zo HB)) : w.heap.size ≤ gb238)); replace HB := zK (below_step (zo HB) hb); have NB237_238 := zK ((by rw [hg]; exact Nat.ne_of_lt (blk_lt (g := gb237) (o := .cells #[.int .i64 a0_0, .slice A0_1 l0_1.length c0_1] 62 (0, 0)) (zb BK237)) : gb237 ≠ gb238)); have NB238_237 := zK ((by rw [hg]; exact Nat.ne_of_gt (blk_lt (g := gb237) (o := .cells #[.int .i64 a0_0, .slice A0_1 l0_1.length c0_1] 62 (0, 0)) (zb BK237)) : gb238 ≠ gb237)); replace BK237 := zK (blk_below (g := gb237) (o := .cells #[.int .i64 a0_0, .slice A0_1 l0_1.length c0_1] 62 (0, 0)) (zb BK237) hb); clear hb hbox hg; have hnb9 := NB237_238.out; have hnc9 := NB238_237.out; have hcz10_0 : w8.cell? ⟨gb237, 0, none⟩ = some (.int .i64 a0_0) := (blk_cell BK237.out 0).trans rfl; have hcz10_1 : w8.cell? ⟨gb237, 1, none⟩ = some (.slice A0_1 l0_1.length c0_1) := (blk_cell BK237.out 1).trans rfl; have hfz10_0 := blk_frozen BK237.out 0; have hfz10_1 := blk_frozen BK237.out 1) | ((with_reducible refine zC (f := 94) rfl ?_); refine goesL_ (some 14) rfl rfl Try.func94 (by kernel_rfl) rfl #[.agg #[.int .i64 a0_0, .slice A0_1 l0_1.length c0_1], .int .i64 (-1)] rfl (by (try simp only [List.map_toArray, List.map_cons, List.map_nil]); first | done | rfl | (simp only [List.length_drop, List.length_take]; rfl)) ?_; (with_reducible refine (lin_Scale.calls k a0_0 (fun k_ => k_ < w.heap.size) _ _ l0_1 (-1) t239 t240 t243 _ ?side1 A4.out).mono ?_); (case side1 => exact Kd.V_mk HC0_1.out (Kd.F_below (Kd.C_F k68_heap HR0_1.out) (zo HB))); rintro e w11 ⟨v241, rfl, ho0, hb⟩; refine ⟨_, rfl, ?_⟩; have HO242 := zK (Kd.R_lower (Kd.R_mono (ok' := fun k_ => True) ho0 (fun _ hk_ => trivial)) (below_size (zo HB))); replace BK237 := zK (blk_below (g := gb237) (o := .cells #[.int .i64 a0_0, .slice A0_1 l0_1.length c0_1] 62 (0, 0)) (zb BK237) hb); replace BK238 := zK (blk_below (g := gb238) (o := .cells #[.int .i64 0, .slice none 0 0] 62 (0, 0)) (zb BK238) hb); replace HB := zK (below_step (zo HB) hb); (try clear hb); (try clear hb2); (try clear hk); (try clear hi); (try clear ho0)) | ((with_reducible refine gate_dst (N := 8) rfl ?_); refine box_event ?hg (N := 8) ?hd (cs := #[.int .i64 0, .slice none 0 0]) (t := 62) ?hr ?_; (case hd => rfl); (case hg => rfl); (case hr => first | (go_simp; done) | (go_simp; rfl)); intro gb244 hg w12 hbox hb; replace HO242 := zK (Kd.R_below (zr HO242) hb); have BK244 := zK (hbox); have GW244 := zK ((by rw [hg]; exact (below_size (zo HB)) : w.heap.size ≤ gb244)); have GE244 := zK ((by rw [hg]; exact (below_size (zo HB)) : w.heap.size ≤ gb244)); replace HB := zK (below_step (zo HB) hb); have NB237_244 := zK ((by rw [hg]; exact Nat.ne_of_lt (blk_lt (g := gb237) (o := .cells #[.int .i64 a0_0, .slice A0_1 l0_1.length c0_1] 62 (0, 0)) (zb BK237)) : gb237 ≠ gb244)); have NB244_237 := zK ((by rw [hg]; exact Nat.ne_of_gt (blk_lt (g := gb237) (o := .cells #[.int .i64 a0_0, .slice A0_1 l0_1.length c0_1] 62 (0, 0)) (zb BK237)) : gb244 ≠ gb237)); replace BK237 := zK (blk_below (g := gb237) (o := .cells #[.int .i64 a0_0, .slice A0_1 l0_1.length c0_1] 62 (0, 0)) (zb BK237) hb); have NB238_244 := zK ((by rw [hg]; exact Nat.ne_of_lt (blk_lt (g := gb238) (o := .cells #[.int .i64 0, .slice none 0 0] 62 (0, 0)) (zb BK238)) : gb238 ≠ gb244)); have NB244_238 := zK ((by rw [hg]; exact Nat.ne_of_gt (blk_lt (g := gb238) (o := .cells #[.int .i64 0, .slice none 0 0] 62 (0, 0)) (zb BK238)) : gb244 ≠ gb238)); replace BK238 := zK (blk_below (g := gb238) (o := .cells #[.int .i64 0, .slice none 0 0] 62 (0, 0)) (zb BK238) hb); clear hb hbox hg; have hnb13 := NB244_237.out; have hnc13 := NB237_244.out; have hnb14 := NB244_238.out; have hnc14 := NB238_244.out; have hcz15_0 : w12.cell? ⟨gb244, 0, none⟩ = some (.int .i64 0) := (blk_cell BK244.out 0).trans rfl; have hcz15_1 : w12.cell? ⟨gb244, 1, none⟩ = some (.slice none 0 0) := (blk_cell BK244.out 1).trans rfl; have hfz15_0 := blk_frozen BK244.out 0; have hfz15_1 := blk_frozen BK244.out 1; obtain ⟨Ao16, co16, eo16⟩ := Kd.R_slice HO242.out; subst eo16) | ((with_reducible refine zC (f := 91) rfl ?_); refine goesL_ (some 24) rfl rfl Try.func91 (by kernel_rfl) rfl #[.int .i64 t239, .int .i64 a2] rfl (by (try simp only [List.map_toArray, List.map_cons, List.map_nil]); first | done | rfl | (simp only [List.length_drop, List.length_take]; rfl)) ?_; (with_reducible refine (num_Sub.calls t239 a2 t245 t246 _ A6.out).mono ?_); rintro e w' ⟨rfl, ⟨nd, rfl⟩⟩; refine ⟨_, rfl, ?_⟩; have hcz17_0 : w12.cell? ⟨gb238, 0, none⟩ = some (.int .i64 0) := (blk_cell BK238.out 0).trans rfl; have hcz17_1 : w12.cell? ⟨gb238, 1, none⟩ = some (.slice none 0 0) := (blk_cell BK238.out 1).trans rfl; have hfz17_0 := blk_frozen BK238.out 0; have hfz17_1 := blk_frozen BK238.out 1))
  refine bodyPost_ret (results_ct rfl _ _ gb238 62 #[.int .i64 t245, .slice Ao16 t240.length co16] (0, 0) _ rfl (by refine zM ?_; refine blk_put (cs := #[.int .i64 t245, .slice none 0 0]) ?_ 1 _ rfl; refine zM ?_; refine blk_put (cs := #[.int .i64 0, .slice none 0 0]) ?_ 0 _ rfl; refine zM ?_; refine blk_far ?_ NB238_244.out _; refine zM ?_; refine blk_far ?_ NB238_244.out _; refine zM ?_; refine blk_far ?_ NB238_244.out _; refine zM ?_; exact BK238.out) Try.underlying62 rfl (by kernel_rfl)) rfl ?_
  exact ⟨_, by first | rfl | (simp [errW_none, errW_some] <;> rfl) | (simp [*, errW_none, errW_some] <;> rfl), by (with_reducible repeat (first | apply Kd.R_alloc | apply Kd.R_drewN | apply Kd.R_drew)); exact Kd.R_mono (Kd.R_far (p := ⟨gb238, 1, none⟩) (Kd.R_far (p := ⟨gb238, 0, none⟩) (Kd.R_far (p := ⟨gb244, 0, none⟩) (Kd.R_far (p := ⟨gb244, 1, none⟩) (Kd.R_far (p := ⟨gb244, 0, none⟩) (Kd.R_types (Kd.R_types HO242.out BK244.out (by decide)) BK238.out (by decide)) (fun _ hk => hk.1.2) (.int .i64 t239)) (fun _ hk => hk.1.2) (.slice Ao16 t240.length co16)) (fun _ hk => hk.1.2) (.int .i64 t245)) (fun _ hk => hk.2) (.int .i64 t245)) (fun _ hk => hk.2) (.slice Ao16 t240.length co16)) (fun _ hk => trivial), zo HB⟩
 ·rw [if_neg c5] at H
  have c5b0 : (t243 == 0) = false := beq_eq_false_iff_ne.mpr c5
  have c5b1 : (t243 != 0) = true := bne_iff_ne.mpr c5
  simp only [Option.some.injEq, Prod.mk.injEq] at H
  obtain ⟨rfl, rfl, rfl⟩ := H
  go_enter Try.func65, Try.ntmps65
  go_wp2_with (first | ((with_reducible refine gate_dst (N := 3) rfl ?_); refine box_event ?hg (N := 3) ?hd (cs := #[.int .i64 a0_0, .slice A0_1 l0_1.length c0_1]) (t := 62) ?hr ?_; (case hd => rfl); (case hg => rfl); (case hr => first | (go_simp; done) | (go_simp; rfl)); intro gb237 hg w18 hbox hb; have BK237 := zK (hbox); have GW237 := zK ((by rw [hg]; exact (below_size (zo HB)) : w.heap.size ≤ gb237)); have GE237 := zK ((by rw [hg]; exact (below_size (zo HB)) : w.heap.size ≤ gb237)); replace HB := zK (below_step (zo HB) hb); clear hb hbox hg) | ((with_reducible refine gate_dst (N := 6) rfl ?_); refine box_event ?hg (N := 6) ?hd (cs := #[.int .i64 0, .slice none 0 0]) (t := 62) ?hr ?_; (case hd => rfl); (case hg => rfl); (case hr => first | (go_simp; done) | (go_simp; rfl)); intro gb238 hg w19 hbox hb; have BK238 := zK (hbox); have GW238 := zK ((by rw [hg]; exact (below_size (zo HB)) : w.heap.size ≤ gb238)); have GE238 := zK ((by rw [hg]; exact (below_size (zo HB)) : w.heap.size ≤ gb238)); replace HB := zK (below_step (zo HB) hb); have NB237_238 := zK ((by rw [hg]; exact Nat.ne_of_lt (blk_lt (g := gb237) (o := .cells #[.int .i64 a0_0, .slice A0_1 l0_1.length c0_1] 62 (0, 0)) (zb BK237)) : gb237 ≠ gb238)); have NB238_237 := zK ((by rw [hg]; exact Nat.ne_of_gt (blk_lt (g := gb237) (o := .cells #[.int .i64 a0_0, .slice A0_1 l0_1.length c0_1] 62 (0, 0)) (zb BK237)) : gb238 ≠ gb237)); replace BK237 := zK (blk_below (g := gb237) (o := .cells #[.int .i64 a0_0, .slice A0_1 l0_1.length c0_1] 62 (0, 0)) (zb BK237) hb); clear hb hbox hg; have hnb20 := NB237_238.out; have hnc20 := NB238_237.out; have hcz21_0 : w19.cell? ⟨gb237, 0, none⟩ = some (.int .i64 a0_0) := (blk_cell BK237.out 0).trans rfl; have hcz21_1 : w19.cell? ⟨gb237, 1, none⟩ = some (.slice A0_1 l0_1.length c0_1) := (blk_cell BK237.out 1).trans rfl; have hfz21_0 := blk_frozen BK237.out 0; have hfz21_1 := blk_frozen BK237.out 1) | ((with_reducible refine zC (f := 94) rfl ?_); refine goesL_ (some 14) rfl rfl Try.func94 (by kernel_rfl) rfl #[.agg #[.int .i64 a0_0, .slice A0_1 l0_1.length c0_1], .int .i64 (-1)] rfl (by (try simp only [List.map_toArray, List.map_cons, List.map_nil]); first | done | rfl | (simp only [List.length_drop, List.length_take]; rfl)) ?_; (with_reducible refine (lin_Scale.calls k a0_0 (fun k_ => k_ < w.heap.size) _ _ l0_1 (-1) t239 t240 t243 _ ?side1 A4.out).mono ?_); (case side1 => exact Kd.V_mk HC0_1.out (Kd.F_below (Kd.C_F k68_heap HR0_1.out) (zo HB))); rintro e w22 ⟨v241, rfl, ho0, hb⟩; refine ⟨_, rfl, ?_⟩; have HO242 := zK (Kd.R_lower (Kd.R_mono (ok' := fun k_ => True) ho0 (fun _ hk_ => trivial)) (below_size (zo HB))); replace BK237 := zK (blk_below (g := gb237) (o := .cells #[.int .i64 a0_0, .slice A0_1 l0_1.length c0_1] 62 (0, 0)) (zb BK237) hb); replace BK238 := zK (blk_below (g := gb238) (o := .cells #[.int .i64 0, .slice none 0 0] 62 (0, 0)) (zb BK238) hb); replace HB := zK (below_step (zo HB) hb); (try clear hb); (try clear hb2); (try clear hk); (try clear hi); (try clear ho0)) | ((with_reducible refine gate_dst (N := 8) rfl ?_); refine box_event ?hg (N := 8) ?hd (cs := #[.int .i64 0, .slice none 0 0]) (t := 62) ?hr ?_; (case hd => rfl); (case hg => rfl); (case hr => first | (go_simp; done) | (go_simp; rfl)); intro gb244 hg w23 hbox hb; replace HO242 := zK (Kd.R_below (zr HO242) hb); have BK244 := zK (hbox); have GW244 := zK ((by rw [hg]; exact (below_size (zo HB)) : w.heap.size ≤ gb244)); have GE244 := zK ((by rw [hg]; exact (below_size (zo HB)) : w.heap.size ≤ gb244)); replace HB := zK (below_step (zo HB) hb); have NB237_244 := zK ((by rw [hg]; exact Nat.ne_of_lt (blk_lt (g := gb237) (o := .cells #[.int .i64 a0_0, .slice A0_1 l0_1.length c0_1] 62 (0, 0)) (zb BK237)) : gb237 ≠ gb244)); have NB244_237 := zK ((by rw [hg]; exact Nat.ne_of_gt (blk_lt (g := gb237) (o := .cells #[.int .i64 a0_0, .slice A0_1 l0_1.length c0_1] 62 (0, 0)) (zb BK237)) : gb244 ≠ gb237)); replace BK237 := zK (blk_below (g := gb237) (o := .cells #[.int .i64 a0_0, .slice A0_1 l0_1.length c0_1] 62 (0, 0)) (zb BK237) hb); have NB238_244 := zK ((by rw [hg]; exact Nat.ne_of_lt (blk_lt (g := gb238) (o := .cells #[.int .i64 0, .slice none 0 0] 62 (0, 0)) (zb BK238)) : gb238 ≠ gb244)); have NB244_238 := zK ((by rw [hg]; exact Nat.ne_of_gt (blk_lt (g := gb238) (o := .cells #[.int .i64 0, .slice none 0 0] 62 (0, 0)) (zb BK238)) : gb244 ≠ gb238)); replace BK238 := zK (blk_below (g := gb238) (o := .cells #[.int .i64 0, .slice none 0 0] 62 (0, 0)) (zb BK238) hb); clear hb hbox hg; have hnb24 := NB244_237.out; have hnc24 := NB237_244.out; have hnb25 := NB244_238.out; have hnc25 := NB238_244.out; have hcz26_0 : w23.cell? ⟨gb244, 0, none⟩ = some (.int .i64 0) := (blk_cell BK244.out 0).trans rfl; have hcz26_1 : w23.cell? ⟨gb244, 1, none⟩ = some (.slice none 0 0) := (blk_cell BK244.out 1).trans rfl; have hfz26_0 := blk_frozen BK244.out 0; have hfz26_1 := blk_frozen BK244.out 1; obtain ⟨Ao27, co27, eo27⟩ := Kd.R_slice HO242.out; subst eo27; have hcz28_0 : w23.cell? ⟨gb238, 0, none⟩ = some (.int .i64 0) := (blk_cell BK238.out 0).trans rfl; have hcz28_1 : w23.cell? ⟨gb238, 1, none⟩ = some (.slice none 0 0) := (blk_cell BK238.out 1).trans rfl; have hfz28_0 := blk_frozen BK238.out 0; have hfz28_1 := blk_frozen BK238.out 1))
  refine bodyPost_ret (results_ct rfl _ _ gb238 62 #[.int .i64 0, .slice none 0 0] (0, 0) _ rfl (by refine zM ?_; refine blk_put (cs := #[.int .i64 0, .slice none 0 0]) ?_ 1 _ rfl; refine zM ?_; refine blk_put (cs := #[.int .i64 0, .slice none 0 0]) ?_ 0 _ rfl; refine zM ?_; refine blk_far ?_ NB238_244.out _; refine zM ?_; refine blk_far ?_ NB238_244.out _; refine zM ?_; exact BK238.out) Try.underlying62 rfl (by kernel_rfl)) rfl ?_
  exact ⟨_, by first | rfl | (simp [errW_none, errW_some] <;> rfl) | (simp [*, errW_none, errW_some] <;> rfl), by first | exact Kd.R_nil _ _ _ _ _ | exact Kd.N_nil _ _ _ _ _ | exact Kd.V_nil _ _ _ _ _ | exact Kd.Q_nil _ _ _ _ _ | exact Kd.S_nil _ _ _ _ _, zo HB⟩

end Go.Proofs.Ytkfbfgkdabljiaa.PShadowHolds
