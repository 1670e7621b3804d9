/- What the call of each function that the law reaches comes to: it answers as the plain function of the same name does, wherever that one answers; and the law itself out of its plain form. Written by a program of this session (an extended copy of the printer); no condition but what stands in each theorem. -/
import Derived.Test.YtmedciidghmkkaaPIneqTurnsx0
import Derived.Test.YtmedciidghmkkaaPIneqTurnsx2
import Derived.Test.YtmedciidghmkkaaPIneqTurnsx3
namespace Go.Proofs.Ytmedciidghmkkaa.PIneqTurns
open Go.RowKit Go.Proofs.YtmedciidghmkkaaW.PrintWords Go.Proofs.YtmedciidghmkkaaW.PrintLast Go.Proofs.YtmedciidghmkkaaW.PrintMore
open Go.Proofs.YtmedciidghmkkaaW.PrintWords renaming blk_drewN → zN, blk_drew → zD, blk_alloc → zA, below_alloc → yA, pw_below_drewN → yN, below_drew1 → yD, below_set → yS, gate_callee → zC, gate_guard → zG
open Go.Proofs.YtmedciidghmkkaaW.PrintWords.Kd renaming V_alloc → vA, V_drewN → vN, V_drew → vD, N_alloc → nA, N_drewN → nN, N_drew → nD, C_alloc → cA, C_drewN → cN, C_drew → cD, V_mono → vM, V_far → vF
open Go.Proofs.YtmedciidghmkkaaW.PrintWords.Aside0 renaming mk → zK
attribute [local go_sem] max2_int min2_int max_two min_two max_three min_three max_four min_four   -- for this text's walks alone
set_option linter.unusedVariables false
set_option linter.unusedSimpArgs false

/-! ### lin_Sum: function 28 -/
mutual
def lin_Sum.j0 : Nat → List (S28) → List Int → Bool → Option (Int × (List (S47)) × Int)
 | 0, _, _, _ => none
 | k + 1, x0, x1, x18 => if x18 = true then (some (0, ([] : List (S47)), 1)) else (lin_Sum.l0 k x1 ([] : List (S67)) x0 (x0.length : Int) 0)
def lin_Sum.l0 : Nat → List Int → List (S67) → List (S28) → Int → Int → Option (Int × (List (S47)) × Int)
 | 0, _, _, _, _, _ => none
 | k + 1, x1, x6, x20, x21, x22 => if x22 < x21 then (if 0 ≤ x22 then (if x22 < (x20.length : Int) then (if x22 < (x1.length : Int) then (if x6.length < 3518437208883 then (lin_Sum.l0 k x1 (x6 ++ [(⟨(⟨(rd_T28 x20 x22).f0, (rd_T28 x20 x22).f1⟩ : S28), rd x1 x22⟩ : S67)]) x20 x21 (wrap64 (x22 + 1))) else (none)) else (none)) else (none)) else (none)) else ((lin_sum.f x6).bind fun bt124 => (some (bt124.1, bt124.2.1, bt124.2.2)))
end
def lin_Sum.f (k : Nat) (l0 : List (S28)) (l1 : List Int) : Option (Int × (List (S47)) × Int) := (lin_right.f k l0).bind fun t117 => (if t117 = true then (lin_Sum.j0 k l0 l1 ((l0.length : Int) != (l1.length : Int))) else (lin_Sum.j0 k l0 l1 true))
theorem lin_Sum.mono_l : ∀ k, (∀ y0 y1 y2, LeO (lin_Sum.j0 k y0 y1 y2) (lin_Sum.j0 (k + 1) y0 y1 y2)) ∧ (∀ y0 y1 y2 y3 y4, LeO (lin_Sum.l0 k y0 y1 y2 y3 y4) (lin_Sum.l0 (k + 1) y0 y1 y2 y3 y4))
 | 0 => ⟨fun _ _ _ r h => by simp [lin_Sum.j0] at h, fun _ _ _ _ _ r h => by simp [lin_Sum.l0] at h⟩
 | k + 1 => by
  obtain ⟨ih0, ih1⟩ := lin_Sum.mono_l k
  refine ⟨?_, ?_⟩
  ·intro y0 y1 y2
   unfold lin_Sum.j0
   repeat' first
   | (with_reducible exact ih0 _ _ _)
   | (with_reducible exact ih1 _ _ _ _ _)
   | (with_reducible exact lin_right.mono _ _)
   | (with_reducible exact LeO.refl _)
   | (with_reducible exact LeO.none _)
   | (with_reducible refine LeO.ite ?_ ?_)
   | (with_reducible refine LeO.bind ?_ (fun _ => ?_))
   | exact ih0 _ _ _
   | exact ih1 _ _ _ _ _
   | exact lin_right.mono _ _
   | exact LeO.none _
   | refine LeO.ite ?_ ?_
   | refine LeO.bind ?_ (fun _ => ?_)
  ·intro y0 y1 y2 y3 y4
   unfold lin_Sum.l0
   repeat' first
   | (with_reducible exact ih0 _ _ _)
   | (with_reducible exact ih1 _ _ _ _ _)
   | (with_reducible exact lin_right.mono _ _)
   | (with_reducible exact LeO.refl _)
   | (with_reducible exact LeO.none _)
   | (with_reducible refine LeO.ite ?_ ?_)
   | (with_reducible refine LeO.bind ?_ (fun _ => ?_))
   | exact ih0 _ _ _
   | exact ih1 _ _ _ _ _
   | exact lin_right.mono _ _
   | exact LeO.none _
   | refine LeO.ite ?_ ?_
   | refine LeO.bind ?_ (fun _ => ?_)
theorem lin_Sum.mono : ∀ a0 a1 k, LeO (lin_Sum.f k a0 a1) (lin_Sum.f (k + 1) a0 a1) := by
 intro a0 a1 k
 obtain ⟨ih0, ih1⟩ := lin_Sum.mono_l k
 unfold lin_Sum.f
 repeat' first
   | (with_reducible exact ih0 _ _ _)
   | (with_reducible exact ih1 _ _ _ _ _)
   | (with_reducible exact lin_right.mono _ _)
   | (with_reducible exact LeO.refl _)
   | (with_reducible exact LeO.none _)
   | (with_reducible refine LeO.ite ?_ ?_)
   | (with_reducible refine LeO.bind ?_ (fun _ => ?_))
   | exact ih0 _ _ _
   | exact ih1 _ _ _ _ _
   | exact lin_right.mono _ _
   | exact LeO.none _
   | refine LeO.ite ?_ ?_
   | refine LeO.bind ?_ (fun _ => ?_)
def lin_Sum.T7 : Bool × List (List Nat × List Nat) := (true, [([], []), ([], []), ([], []), ([], []), ([2, 3], [2, 3]), ([4], [4]), ([1, 5], [1, 5]), ([6], [6]), ([0, 7], [0, 7]), ([8, 8, 0, 1, 2, 3, 4, 5, 6, 7, 8], [0, 8])])
def lin_Sum.B7 : List Nat := [0, 0, 0, 0, 12, 28, 62, 126, 255, 511]
theorem lin_Sum.tab7 : rtab .any (opsOf Try.f28 7) = lin_Sum.T7 := by kernel_rfl
theorem lin_Sum.bits7 : waitsOk lin_Sum.T7.2 lin_Sum.B7 = true := by kernel_rfl
set_option maxHeartbeats 8000000 in
set_option maxRecDepth 100000 in
theorem lin_Sum.calls (k : Nat) (P0_ : Nat → Prop) (A0 : Option Addr) (c0 : Nat) (l0 : List (S28)) (A1 : Option Addr) (c1 : Nat) (l1 : List Int) (r1 : Int) (r2 : List (S47)) (r3 : Int) (w : World) (hs0 : Kd.V k28 28 w w.heap.size (fun k_ => P0_ k_) (.slice A0 l0.length c0) l0) (hr1 : Kd.C (Kd.int .i64) w A1 l1.length l1) (hc1 : l1.length ≤ c1) (h : lin_Sum.f k l0 l1 = some (r1, r2, r3)) :
  Calls Try.prog 28 #[.slice A0 l0.length c0, .slice A1 l1.length c1] w fun e w' => ∃ v1_ : Value, e = .returned (.tuple #[.agg #[.int .i64 r1, v1_], .int .i64 r3]) ∧ Kd.R k47 47 w' w.heap.size (fun k_ => (w.heap.size ≤ k_)) v1_ r2 ∧ Below w.heap.size w w' := by
 have hu28 := Try.underlying28
 have hu67 := Try.underlying67
 have HO0 := zK (show Kd.V k28 28 w w.heap.size (fun k_ => (P0_ k_ ∨ w.heap.size ≤ k_)) (.slice A0 l0.length c0) l0 from vM hs0 (fun k_ hk => .inl hk))
 have HR1 := zK hr1
 have HC1 := zK hc1
 clear hr1 hc1
 have HB := zK (Below.refl w.heap.size w)
 have H : ((lin_right.f k l0).bind fun t117 => (if t117 = true then (lin_Sum.j0 k l0 l1 ((l0.length : Int) != (l1.length : Int))) else (lin_Sum.j0 k l0 l1 true))) = some (r1, r2, r3) := h
 clear h
 have HC3 := zK H
 clear H
 go_enter Try.func28, Try.ntmps28
 go_upto_region 1 with (first | ((with_reducible refine gate_dst (N := 4) rfl ?_); (try (refine zG (by rfl) ?_; dsimp only)); refine box_event ?hg (N := 4) ?hd (cs := #[.int .i64 0, .slice none 0 0]) (t := 28) ?hr ?_; (case hd => rfl); (case hg => rfl); (case hr => first | (go_simp; done) | (go_simp; rfl)); intro gb116 hg w4 hbox hb; replace HO0 := zK (Kd.V_below (Kd.V_elderB (zv HO0) gb116 (Nat.le_of_eq hg.symm)) hb); have BK116 := zK (hbox); have GW116 := zK ((by rw [hg]; exact (below_size (zo HB)) : w.heap.size ≤ gb116)); have GE116 := zK ((by rw [hg]; exact (below_size (zo HB)) : w.heap.size ≤ gb116)); replace HB := zK (below_step (zo HB) hb); clear hb hbox hg))
 (try simp only [Act.put, List.setIfInBounds_toArray, List.set_cons_zero, List.set_cons_succ])
 go_cut [18] (fun v18 wc => ∃ (kq : Nat) (x18_2 : Bool), v18 = .bool x18_2 ∧ Aside0 (lin_Sum.j0 kq l0 l1 x18_2 = some (r1, r2, r3)) ∧ Aside0 (kq ≤ k) ∧ Aside0 (Kd.V k28 28 wc w.heap.size (fun k_ => (P0_ k_ ∨ w.heap.size ≤ k_) ∧ k_ ≠ gb116) (.slice A0 l0.length c0) l0) ∧ Aside0 (wc.heap[gb116]? = some (.cells #[.int .i64 0, (.slice none 0 0)] 28 (0, 0))) ∧ Aside0 (Below w.heap.size w wc))
 case first =>
  have H := HC3.out
  clear HC3
  replace H := Option.bind_eq_some_iff.mp H
  obtain ⟨t117, A50, H⟩ := H
  replace H : (if t117 = true then (lin_Sum.j0 k l0 l1 ((l0.length : Int) != (l1.length : Int))) else (lin_Sum.j0 k l0 l1 true)) = some (r1, r2, r3) := H
  have A5 := zK A50
  clear A50
  by_cases c6 : t117 = true
  ·subst c6
   have H1 : (lin_Sum.j0 k l0 l1 ((l0.length : Int) != (l1.length : Int))) = some (r1, r2, r3) := by rw [if_pos rfl] at H; exact H
   clear H
   have H := H1
   clear H1
   have H' := zK H
   clear H
   go_wp2_with (first | ((with_reducible refine zC (f := 46) rfl ?_); refine goesL_ (some 10) rfl rfl Try.func46 (by kernel_rfl) rfl #[.slice A0 l0.length c0] rfl (by (try simp only [List.map_toArray, List.map_cons, List.map_nil]); first | done | rfl | (simp only [List.length_drop, List.length_take]; rfl)) ?_; (with_reducible refine (lin_right.calls k _ _ l0 true _ ?side1 ?side2 A5.out).mono ?_); (case side1 => repeat (first | exact (Kd.V_reads' HO0.out).2.2 | (with_reducible refine cA ?_ _) | (with_reducible refine cN ?_ _) | (with_reducible refine cD ?_))); (case side2 => exact (Kd.V_reads' HO0.out).2.1); rintro e w7 ⟨rfl, hb⟩; refine ⟨_, rfl, ?_⟩; replace HO0 := zK (Kd.V_below (zv HO0) hb); replace BK116 := zK (blk_below (g := gb116) (o := .cells #[.int .i64 0, .slice none 0 0] 28 (0, 0)) (zb BK116) hb); replace HB := zK (below_step (zo HB) hb); (try clear hb); (try clear hb2); (try clear hk); (try clear hi)))
   go_meet
   case rel => exact ⟨_, (((l0.length : Int) != (l1.length : Int))), (by first | rfl | (simp; done) | (simp [*]; done)), H', ⟨by first | omega | exact Nat.le_refl _⟩, ⟨zv HO0⟩, ⟨zb BK116⟩, ⟨zo HB⟩⟩
  ·replace c6 := Bool.eq_false_iff.mpr c6
   subst c6
   have H1 : (lin_Sum.j0 k l0 l1 true) = some (r1, r2, r3) := by rw [if_neg (show ¬ (false = true) by decide)] at H; exact H
   clear H
   have H := H1
   clear H1
   have H' := zK H
   clear H
   go_wp2_with (first | ((with_reducible refine zC (f := 46) rfl ?_); refine goesL_ (some 10) rfl rfl Try.func46 (by kernel_rfl) rfl #[.slice A0 l0.length c0] rfl (by (try simp only [List.map_toArray, List.map_cons, List.map_nil]); first | done | rfl | (simp only [List.length_drop, List.length_take]; rfl)) ?_; (with_reducible refine (lin_right.calls k _ _ l0 false _ ?side1 ?side2 A5.out).mono ?_); (case side1 => repeat (first | exact (Kd.V_reads' HO0.out).2.2 | (with_reducible refine cA ?_ _) | (with_reducible refine cN ?_ _) | (with_reducible refine cD ?_))); (case side2 => exact (Kd.V_reads' HO0.out).2.1); rintro e w8 ⟨rfl, hb⟩; refine ⟨_, rfl, ?_⟩; replace HO0 := zK (Kd.V_below (zv HO0) hb); replace BK116 := zK (blk_below (g := gb116) (o := .cells #[.int .i64 0, .slice none 0 0] 28 (0, 0)) (zb BK116) hb); replace HB := zK (below_step (zo HB) hb); (try clear hb); (try clear hb2); (try clear hk); (try clear hi)))
   go_meet
   case rel => exact ⟨_, (true), (by first | rfl | (simp; done) | (simp [*]; done)), H', ⟨by first | omega | exact Nat.le_refl _⟩, ⟨zv HO0⟩, ⟨zb BK116⟩, ⟨zo HB⟩⟩
 case rest =>
  clear HC3
  try clear c1
  try clear c2
  try clear p2
  try clear c4
  try clear c6
  obtain ⟨kq, x18_2, rfl, HA, HJ2, HO_0, BK116, HB⟩ := hcut
  cases kq with
  | zero => exact absurd HA.out (by simp [lin_Sum.j0])
  | succ kj2 =>
   have H := HA.out
   clear HA
   simp only [lin_Sum.j0] at H
   by_cases c9 : x18_2 = true
   ·subst c9
    have H1 : (some (0, ([] : List (S47)), 1)) = some (r1, r2, r3) := by rw [if_pos rfl] at H; exact H
    clear H
    have H := H1
    clear H1
    simp only [Option.some.injEq, Prod.mk.injEq] at H
    obtain ⟨rfl, rfl, rfl⟩ := H
    have hcz10_0 : wc.cell? ⟨gb116, 0, none⟩ = some (.int .i64 0) := (blk_cell BK116.out 0).trans rfl
    have hcz10_1 : wc.cell? ⟨gb116, 1, none⟩ = some (.slice none 0 0) := (blk_cell BK116.out 1).trans rfl
    have hfz10_0 := blk_frozen BK116.out 0
    have hfz10_1 := blk_frozen BK116.out 1
    go_wp2
    refine bodyPost_ret (results_ct rfl _ _ gb116 28 #[.int .i64 0, .slice none 0 0] (0, 0) _ rfl (by refine zM ?_; refine blk_put (cs := #[.int .i64 0, .slice none 0 0]) ?_ 1 _ rfl; refine zM ?_; refine blk_put (cs := #[.int .i64 0, .slice none 0 0]) ?_ 0 _ rfl; refine zM ?_; exact BK116.out) Try.underlying28 rfl (by kernel_rfl)) rfl ?_
    exact ⟨_, by first | rfl | (simp [errW_none, errW_some] <;> rfl) | (simp [*, errW_none, errW_some] <;> rfl), by first | exact Kd.R_nil _ _ _ _ _ | exact Kd.N_nil _ _ _ _ _ | exact Kd.V_nil _ _ _ _ _ | exact Kd.Q_nil _ _ _ _ _ | exact Kd.S_nil _ _ _ _ _, zo HB⟩
   ·replace c9 := Bool.eq_false_iff.mpr c9
    subst c9
    have H1 : (lin_Sum.l0 kj2 l1 ([] : List (S67)) l0 (l0.length : Int) 0) = some (r1, r2, r3) := by rw [if_neg (show ¬ (false = true) by decide)] at H; exact H
    clear H
    have H := H1
    clear H1
    have H' := zK H
    clear H
    go_wp2
    go_loopg [6, 22] kj2 (fun kq v6 v22 w' => ∃ (x6_2 : List (S67)) (x22_2 : Int), v22 = .int .i64 x22_2 ∧ Aside0 (lin_Sum.l0 kq l1 x6_2 l0 (l0.length : Int) x22_2 = some (r1, r2, r3)) ∧ Aside0 (kq ≤ kj2) ∧ Aside0 (Kd.N k67 67 w' w.heap.size (fun k_ => (P0_ k_ ∨ w.heap.size ≤ k_) ∧ k_ ≠ gb116) v6 x6_2) ∧ Aside0 (Kd.V k28 28 w' w.heap.size (fun k_ => (P0_ k_ ∨ w.heap.size ≤ k_) ∧ some k_ ≠ (v6 : Value).ownBlock ∧ k_ ≠ gb116) (.slice A0 l0.length c0) l0) ∧ Aside0 (w'.heap[gb116]? = some (.cells #[.int .i64 0, (.slice none 0 0)] 28 (0, 0))) ∧ Aside0 (Below w.heap.size w w'))
    case atStart => exact ⟨(([] : List (S67))), (0), (by first | rfl | (simp; done) | (simp [*]; done)), H', ⟨Nat.le_refl _⟩, ⟨by first | exact Kd.S_nil _ _ _ _ _ | exact Kd.N_nil _ _ _ _ _ | exact Kd.V_nil _ _ _ _ _ | exact Kd.Q_nil _ _ _ _ _ | exact Kd.R_nil _ _ _ _ _⟩, ⟨by (with_reducible repeat (first | apply vA | apply vN | apply vD)); exact vM HO_0.out (fun _ hk => ⟨hk.1, ⟨(by simp [Value.ownBlock]), hk.2⟩⟩)⟩, ⟨zb BK116⟩, ⟨zo HB⟩⟩
    case round =>
     clear H'
     try clear c1
     try clear c2
     try clear p2
     try clear c4
     try clear c6
     try clear c9
     try clear hcz10_0
     try clear hcz10_1
     try clear hfz10_0
     try clear hfz10_1
     try clear p2
     obtain ⟨x6_2, x22_2, rfl, HA, HK2, HO_6, HO_20, BK116, HB⟩ := hrel
     cases gk with
     | zero => exact absurd HA.out (by simp [lin_Sum.l0])
     | succ k2 =>
      have H := HA.out
      clear HA
      simp only [lin_Sum.l0] at H
      by_cases c11 : x22_2 < (l0.length : Int)
      ·rw [if_pos c11] at H
       have c11b0 : decide (x22_2 < (l0.length : Int)) = true := decide_eq_true c11
       clear c11
       by_cases c12 : 0 ≤ x22_2
       ·rw [if_pos c12] at H
        have c12b0 : decide (0 ≤ x22_2) = true := decide_eq_true c12
        clear c12
        by_cases c13 : x22_2 < (l0.length : Int)
        ·rw [if_pos c13] at H
         have c13b0 : decide (x22_2 < (l0.length : Int)) = true := decide_eq_true c13
         clear c13
         by_cases c14 : x22_2 < (l1.length : Int)
         ·rw [if_pos c14] at H
          have c14b0 : decide (x22_2 < (l1.length : Int)) = true := decide_eq_true c14
          clear c14
          by_cases c15 : x6_2.length < 3518437208883
          ·rw [if_pos c15] at H
           have LMc15 := zK c15
           clear c15
           obtain ⟨y121, hy121⟩ : ∃ y_ : List (S67), y_ = (x6_2 ++ [(⟨(⟨(rd_T28 l0 x22_2).f0, (rd_T28 l0 x22_2).f1⟩ : S28), rd l1 x22_2⟩ : S67)]) := ⟨_, rfl⟩
           replace H : (lin_Sum.l0 k2 l1 y121 l0 (l0.length : Int) (wrap64 (x22_2 + 1))) = some (r1, r2, r3) := by first | (rw [hy121]; with_reducible exact H) | (have H2_ := (Option.bind_some _ _).symm.trans H; rw [hy121]; with_reducible exact H2_) | (have H2_ := (Option.bind_some _ _).symm.trans H; with_reducible exact H2_) | with_reducible exact H | (rw [hy121]; exact H) | exact H
           have Ny121 := zK hy121
           clear hy121
           have H' := zK H
           clear H
           have p118 : 0 ≤ (x22_2 : Int) := of_decide_eq_true (by first | (with_reducible assumption) | assumption)
           have q118 : x22_2 < (l0.length : Int) := of_decide_eq_true (by first | (with_reducible assumption) | assumption)
           obtain ⟨ad118, A118_1, c118_1, e118, hx118_0, hx118_1, hl118_1, hi118_1⟩ := at_T28 (Kd.V_reads' HO_20.out).2.2 x22_2 p118 q118
           cases e118
           obtain ⟨ce118, hce118, hMe118, hcc118⟩ := Kd.V_get HO_20.out z28 x22_2 p118 (by first | exact q118 | exact of_decide_eq_true (by first | (with_reducible assumption) | assumption) | (have e_ := (Kd.V_reads' HO_20.out).1; omega))
           obtain ⟨ua118_1, uc118_1, rfl, ul118_1, ge118_1⟩ := k28_openF hMe118
           have hv118_1 := hcc118 1 _ rfl
           rw [add_field _ _ 1 (by omega)] at hv118_1
           replace hv118_1 := Option.some.inj (hv118_1.symm.trans hx118_1)
           injection hv118_1 with hva_ hvn_ hvc_
           rw [hva_] at ge118_1
           rw [hvc_] at ul118_1
           have HL118_1 := zK (show Kd.V k47 47 _ w.heap.size _ _ ((rd_T28 l0 x22_2).f1) from Kd.V_mk ul118_1 ge118_1)
           clear hva_ hvn_ hvc_ ge118_1 ul118_1 hcc118 hce118
           have HR118_1 := zK hi118_1
           have HC118_1 := zK hl118_1
           clear hi118_1 hl118_1
           replace p118 := eq_true p118
           replace q118 := eq_true q118
           try go_wp2_with (first | ((with_reducible refine gate_dst (N := 8) rfl ?_); (try (refine zG (by rfl) ?_; dsimp only)); refine box_event ?hg (N := 8) ?hd (cs := #[.int .i64 0, .slice none 0 0]) (t := 28) ?hr ?_; (case hd => rfl); (case hg => rfl); (case hr => first | (go_simp; done) | (go_simp; rfl)); intro gb119 hg w16 hbox hb; replace HO_6 := zK (Kd.N_below (Kd.N_elderB (zn HO_6) gb119 (Nat.le_of_eq hg.symm)) hb); replace HO_20 := zK (Kd.V_below (Kd.V_elderB (zv HO_20) gb119 (Nat.le_of_eq hg.symm)) hb); replace HL118_1 := zK (Kd.V_below (Kd.V_elderB (zv HL118_1) gb119 (Nat.le_of_eq hg.symm)) hb); replace HR118_1 := zK (Kd.C_below (by repeat (first | (with_reducible exact HR118_1.out) | (with_reducible refine cA ?_ _) | (with_reducible refine cN ?_ _) | (with_reducible refine cD ?_) | exact HR118_1.out)) hb); have BK119 := zK (hbox); have GW119 := zK ((by rw [hg]; exact (below_size (zo HB)) : w.heap.size ≤ gb119)); have GE119 := zK ((by rw [hg]; exact (below_size (zo HB)) : w.heap.size ≤ gb119)); replace HB := zK (below_step (zo HB) hb); have NB116_119 := zK ((by rw [hg]; exact Nat.ne_of_lt (blk_lt (g := gb116) (o := .cells #[.int .i64 0, .slice none 0 0] 28 (0, 0)) (zb BK116)) : gb116 ≠ gb119)); have NB119_116 := zK ((by rw [hg]; exact Nat.ne_of_gt (blk_lt (g := gb116) (o := .cells #[.int .i64 0, .slice none 0 0] 28 (0, 0)) (zb BK116)) : gb119 ≠ gb116)); replace BK116 := zK (blk_below (g := gb116) (o := .cells #[.int .i64 0, .slice none 0 0] 28 (0, 0)) (zb BK116) hb); clear hb hbox hg; have hnb17 := NB119_116.out; have hnc17 := NB116_119.out; have hcz18_0 : w16.cell? ⟨gb119, 0, none⟩ = some (.int .i64 0) := (blk_cell BK119.out 0).trans rfl; have hcz18_1 : w16.cell? ⟨gb119, 1, none⟩ = some (.slice none 0 0) := (blk_cell BK119.out 1).trans rfl; have hfz18_0 := blk_frozen BK119.out 0; have hfz18_1 := blk_frozen BK119.out 1))
           have n0_ : Aside0 (Kd.N k67 67 ((w16.setCell ⟨gb119, 0, none⟩ (.int .i64 ((rd_T28 l0 x22_2).f0))).setCell ⟨gb119, 1, none⟩ (.slice A118_1 ((rd_T28 l0 x22_2).f1).length c118_1)) w.heap.size (fun k_ => (P0_ k_ ∨ w.heap.size ≤ k_) ∧ k_ ≠ gb116 ∧ k_ ≠ gb119) u6 x6_2) := ⟨by (with_reducible repeat (first | apply nA | apply nN | apply nD)); exact Kd.N_mono (Kd.N_far (p := ⟨gb119, 1, none⟩) (Kd.N_far (p := ⟨gb119, 0, none⟩) (Kd.N_mono HO_6.out (fun k_ hk => (⟨hk, hk.2⟩ : _ ∧ k_ ≠ gb119))) (fun _ hk => hk.2) (.int .i64 ((rd_T28 l0 x22_2).f0))) (fun _ hk => hk.2) (.slice A118_1 ((rd_T28 l0 x22_2).f1).length c118_1)) (fun _ hk => ⟨hk.1.1.1, ⟨hk.1.1.2, hk.1.2⟩⟩)⟩
           have n1_ : Aside0 (Kd.V k28 28 ((w16.setCell ⟨gb119, 0, none⟩ (.int .i64 ((rd_T28 l0 x22_2).f0))).setCell ⟨gb119, 1, none⟩ (.slice A118_1 ((rd_T28 l0 x22_2).f1).length c118_1)) w.heap.size (fun k_ => (P0_ k_ ∨ w.heap.size ≤ k_) ∧ some k_ ≠ (u6 : Value).ownBlock ∧ k_ ≠ gb116 ∧ k_ ≠ gb119) (.slice (some ad118) l0.length c0) l0) := ⟨by (with_reducible repeat (first | apply vA | apply vN | apply vD)); exact vM (vF (p := ⟨gb119, 1, none⟩) (vF (p := ⟨gb119, 0, none⟩) (vM HO_20.out (fun k_ hk => (⟨hk, hk.2⟩ : _ ∧ k_ ≠ gb119))) (fun _ hk => hk.2) (.int .i64 ((rd_T28 l0 x22_2).f0))) (fun _ hk => hk.2) (.slice A118_1 ((rd_T28 l0 x22_2).f1).length c118_1)) (fun _ hk => ⟨hk.1.1.1, ⟨hk.1.1.2.1, ⟨hk.1.1.2.2, hk.1.2⟩⟩⟩)⟩
           have n2_ : Aside0 (Kd.V k47 47 ((w16.setCell ⟨gb119, 0, none⟩ (.int .i64 ((rd_T28 l0 x22_2).f0))).setCell ⟨gb119, 1, none⟩ (.slice A118_1 ((rd_T28 l0 x22_2).f1).length c118_1)) w.heap.size (fun k_ => (P0_ k_ ∨ w.heap.size ≤ k_) ∧ some k_ ≠ (u6 : Value).ownBlock ∧ k_ ≠ gb116 ∧ k_ ≠ gb119) (.slice A118_1 ((rd_T28 l0 x22_2).f1).length c118_1) ((rd_T28 l0 x22_2).f1)) := ⟨by (with_reducible repeat (first | apply vA | apply vN | apply vD)); exact vM (vF (p := ⟨gb119, 1, none⟩) (vF (p := ⟨gb119, 0, none⟩) (vM HL118_1.out (fun k_ hk => (⟨hk, hk.2⟩ : _ ∧ k_ ≠ gb119))) (fun _ hk => hk.2) (.int .i64 ((rd_T28 l0 x22_2).f0))) (fun _ hk => hk.2) (.slice A118_1 ((rd_T28 l0 x22_2).f1).length c118_1)) (fun _ hk => ⟨hk.1.1.1, ⟨hk.1.1.2.1, ⟨hk.1.1.2.2, hk.1.2⟩⟩⟩)⟩
           have n3_ : Aside0 (((w16.setCell ⟨gb119, 0, none⟩ (.int .i64 ((rd_T28 l0 x22_2).f0))).setCell ⟨gb119, 1, none⟩ (.slice A118_1 ((rd_T28 l0 x22_2).f1).length c118_1)).heap[gb116]? = some (.cells #[.int .i64 0, .slice none 0 0] 28 (0, 0))) := ⟨zb BK116⟩
           have n4_ : Aside0 (((w16.setCell ⟨gb119, 0, none⟩ (.int .i64 ((rd_T28 l0 x22_2).f0))).setCell ⟨gb119, 1, none⟩ (.slice A118_1 ((rd_T28 l0 x22_2).f1).length c118_1)).heap[gb119]? = some (.cells #[.int .i64 ((rd_T28 l0 x22_2).f0), .slice A118_1 ((rd_T28 l0 x22_2).f1).length c118_1] 28 (0, 0))) := ⟨by refine zM ?_; refine blk_put (cs := #[.int .i64 ((rd_T28 l0 x22_2).f0), .slice none 0 0]) ?_ 1 _ rfl; refine zM ?_; refine blk_put (cs := #[.int .i64 0, .slice none 0 0]) ?_ 0 _ rfl; refine zM ?_; exact BK119.out⟩
           have n5_ : Aside0 (Below w.heap.size w ((w16.setCell ⟨gb119, 0, none⟩ (.int .i64 ((rd_T28 l0 x22_2).f0))).setCell ⟨gb119, 1, none⟩ (.slice A118_1 ((rd_T28 l0 x22_2).f1).length c118_1))) := ⟨zo HB⟩
           (try clear HO_6)
           (try clear HO_20)
           (try clear HL118_1)
           (try clear BK116)
           (try clear BK119)
           (try clear HB)
           generalize ((w16.setCell ⟨gb119, 0, none⟩ (.int .i64 ((rd_T28 l0 x22_2).f0))).setCell ⟨gb119, 1, none⟩ (.slice A118_1 ((rd_T28 l0 x22_2).f1).length c118_1)) = w19 at n0_ n1_ n2_ n3_ n4_ n5_ ⊢
           have HO_6 := n0_
           have HO_20 := n1_
           have HL118_1 := n2_
           have BK116 := n3_
           have BK119 := n4_
           have HB := n5_
           clear n0_ n1_ n2_ n3_ n4_ n5_
           replace HO_6 := zK (nD HO_6.out)
           replace HO_20 := zK (vD HO_20.out)
           replace HL118_1 := zK (vD HL118_1.out)
           replace BK116 := zK (zD BK116.out)
           replace BK119 := zK (zD BK119.out)
           replace HB := zK (yD HB.out)
           have p120 : 0 ≤ (x22_2 : Int) := of_decide_eq_true (by first | (with_reducible assumption) | assumption)
           have q120 : x22_2 < (l1.length : Int) := of_decide_eq_true (by first | (with_reducible assumption) | assumption)
           obtain ⟨ad120, e120, hx120_0⟩ := Kd.at_int HR1.out x22_2 p120 q120
           have hw120_0 := hx120_0
           cases e120
           replace hx120_0 := (HB.out.cell (World.block_lt_of_cell? w _ hx120_0)).trans hx120_0
           replace p120 := eq_true p120
           replace q120 := eq_true q120
           refine start_ (n := 10) (S := fun w' => w'.cell? ⟨gb119, 0, none⟩ = some (.int .i64 ((rd_T28 l0 x22_2).f0)) ∧ w'.cell? ⟨gb119, 1, none⟩ = some (.slice A118_1 ((rd_T28 l0 x22_2).f1).length c118_1) ∧ w'.cell? (ad120.add (x22_2).toNat) = some (.int .i64 (rd l1 x22_2))) (ds := []) #[false, false, false, false, false, false, false, false, false, false] (by kernel_rfl) rfl rfl ⟨(blk_cell BK119.out 0).trans rfl, (blk_cell BK119.out 1).trans rfl, ((HB.out.cell (World.block_lt_of_cell? w _ hw120_0)).trans hw120_0)⟩ (fun hHeld => ?_); refine with_tabW lin_Sum.tab7 lin_Sum.bits7 (fun HT_ HW_ => ?_)
           generalize w19.drew = w20 at HO_6 HO_20 HL118_1 BK116 BK119 HB hx120_0 hHeld ⊢
           refine pure_ (i := 0) (N := some 27) (v := ?_) (a' := ?_) #[true, false, false, false, false, false, false, false, false, false] rfl rfl (any_of HT_.out (by kernel_rfl)) (fun _ _ _ h => h) (Or.inl ⟨by rfl, ?_⟩) ?_ ?_
           rotate_left
           ·intro w'
            go_simp
            with_reducible rfl
           rotate_left
           ·simp only [Act.put, List.setIfInBounds_toArray, List.set_cons_zero, List.set_cons_succ, i64_w, i32_w]
            rfl
           refine pure_ (i := 2) (N := some 29) (v := ?_) (a' := ?_) #[true, false, true, false, false, false, false, false, false, false] rfl rfl (any_of HT_.out (by kernel_rfl)) (fun _ _ _ h => h) (Or.inl ⟨by rfl, ?_⟩) ?_ ?_
           rotate_left
           ·intro w'
            go_simp
            with_reducible rfl
           rotate_left
           ·simp only [Act.put, List.setIfInBounds_toArray, List.set_cons_zero, List.set_cons_succ, i64_w, i32_w]
            rfl
           refine pure_ (i := 3) (N := some 30) (v := ?_) (a' := ?_) #[true, false, true, true, false, false, false, false, false, false] rfl rfl (any_of HT_.out (by kernel_rfl)) (fun _ _ _ h => h) (Or.inl ⟨by rfl, ?_⟩) ?_ ?_
           rotate_left
           ·intro w'
            go_simp
            with_reducible rfl
           rotate_left
           ·simp only [Act.put, List.setIfInBounds_toArray, List.set_cons_zero, List.set_cons_succ, i64_w, i32_w]
            rfl
           refine pure_ (i := 4) (N := some 31) (v := ?_) (a' := ?_) #[true, false, true, true, true, false, false, false, false, false] rfl rfl (any_of HT_.out (by kernel_rfl)) (fun _ _ _ h => h) (Or.inl ⟨by rfl, ?_⟩) ?_ ?_
           rotate_left
           ·intro w'
            go_simp
            with_reducible rfl
           rotate_left
           ·simp only [Act.put, List.setIfInBounds_toArray, List.set_cons_zero, List.set_cons_succ, i64_w, i32_w]
            rfl
           refine take_ (i := 1) (N := some 28) (v := ?_) (a' := ?_) #[true, true, true, true, true, false, false, false, false, false] rfl rfl (take_ofW HT_.out HW_.out (by kernel_rfl)) (fun _ _ _ h => h) (Or.inl ⟨by rfl, ?_⟩) hHeld ?_ ?_
           rotate_left
           ·rintro w' ⟨s0, s1, s2⟩
            go_simp
            with_reducible rfl
           rotate_left
           ·simp only [Act.put, List.setIfInBounds_toArray, List.set_cons_zero, List.set_cons_succ, i64_w, i32_w]
            rfl
           refine take_ (i := 5) (N := some 32) (v := ?_) (a' := ?_) #[true, true, true, true, true, true, false, false, false, false] rfl rfl (take_ofW HT_.out HW_.out (by kernel_rfl)) (fun _ _ _ h => h) (Or.inl ⟨by rfl, ?_⟩) hHeld ?_ ?_
           rotate_left
           ·rintro w' ⟨s0, s1, s2⟩
            go_simp
            with_reducible rfl
           rotate_left
           ·simp only [Act.put, List.setIfInBounds_toArray, List.set_cons_zero, List.set_cons_succ, i64_w, i32_w]
            rfl
           refine pure_ (i := 6) (N := some 33) (v := ?_) (a' := ?_) #[true, true, true, true, true, true, true, false, false, false] rfl rfl (any_of HT_.out (by kernel_rfl)) (fun _ _ _ h => h) (Or.inl ⟨by rfl, ?_⟩) ?_ ?_
           rotate_left
           ·intro w'
            go_simp
            with_reducible rfl
           rotate_left
           ·simp only [Act.put, List.setIfInBounds_toArray, List.set_cons_zero, List.set_cons_succ, i64_w, i32_w]
            rfl
           refine one_ (i := 7) (N := some 34) #[true, true, true, true, true, true, true, true, false, false] rfl rfl (one_of HT_.out (by kernel_rfl)) (by decide) (fun K hK => ?_)
           refine value_ (w1 := ?_) (v := ?_) (by rfl) rfl ?_ ?_
           rotate_left 2
           ·go_simp
            constructor
            ·rfl
            ·rfl
           refine hK.out _ _ ⟨(blk_cell (zA BK119.out _) 0).trans rfl, (blk_cell (zA BK119.out _) 1).trans rfl, (World.cell?_alloc_lt _ _ _ (World.block_lt_of_cell? _ _ (((HB.out.cell (World.block_lt_of_cell? w _ hw120_0)).trans hw120_0)))).trans (((HB.out.cell (World.block_lt_of_cell? w _ hw120_0)).trans hw120_0))⟩ (fun hHeld => ?_)
           clear hK K
           refine norm_ (a' := ?_) ?_ ?_
           rotate_left
           ·show Act.put _ (some 34) _ = _
            simp only [Act.put, List.setIfInBounds_toArray, List.set_cons_zero, List.set_cons_succ, i64_w, i32_w]
            rfl
           refine one_ (i := 8) (N := some 35) #[true, true, true, true, true, true, true, true, true, false] rfl rfl (one_of HT_.out (by kernel_rfl)) (by decide) (fun K hK => ?_)
           refine Kd.N_append_step k67 (w0 := w) w.heap.size (by rfl) (.tmp 27) (.tmp 34) 65 67 (.agg #[(.int .i64 0), (.slice none 0 0), (.int .i64 0)]) 40 rfl Try.underlying65 info67 rfl (by decide) (by omega) u6 x6_2 (⟨(⟨(rd_T28 l0 x22_2).f0, (rd_T28 l0 x22_2).f1⟩ : S28), rd l1 x22_2⟩ : S67) [.int .i64 ((rd_T28 l0 x22_2).f0), .slice A118_1 ((rd_T28 l0 x22_2).f1).length c118_1, .int .i64 (rd l1 x22_2)] (fun k_ => (P0_ k_ ∨ w.heap.size ≤ k_) ∧ k_ ≠ gb116 ∧ k_ ≠ gb119) (fun k_ => ((fun k_ => (P0_ k_ ∨ w.heap.size ≤ k_) ∧ k_ ≠ gb116 ∧ k_ ≠ gb119)) k_ ∧ some k_ ≠ (u6 : Value).ownBlock) rfl rfl ?aP (fun _ hk => hk) ?aF ?aO ?aB ?aS ?aL ?_
           (case aP => exact (k67_mkF _ _ (⟨(⟨(rd_T28 l0 x22_2).f0, (rd_T28 l0 x22_2).f1⟩ : S28), rd l1 x22_2⟩ : S67) (Kd.V_reads' (vM (ok' := (fun k_ => ((fun k_ => (P0_ k_ ∨ w.heap.size ≤ k_) ∧ k_ ≠ gb116 ∧ k_ ≠ gb119)) k_ ∧ some k_ ≠ (u6 : Value).ownBlock)) (HL118_1.out) (fun k_ hk => ⟨⟨hk.1, ⟨hk.2.2.1, hk.2.2.2⟩⟩, hk.2.1⟩))).2.1 (Kd.V_F (vM (ok' := (fun k_ => ((fun k_ => (P0_ k_ ∨ w.heap.size ≤ k_) ∧ k_ ≠ gb116 ∧ k_ ≠ gb119)) k_ ∧ some k_ ≠ (u6 : Value).ownBlock)) (HL118_1.out) (fun k_ hk => ⟨⟨hk.1, ⟨hk.2.2.1, hk.2.2.2⟩⟩, hk.2.1⟩)))))
           (case aB => exact (zo HB))
           (case aF => exact (fun k_ hk => ⟨(.inr (Nat.le_trans (below_size (zo HB)) hk)), Kd.freshB (g := gb116) (o := .cells #[.int .i64 0, .slice none 0 0] 28 (0, 0)) (zb BK116) k_ hk, Kd.freshB (g := gb119) (o := .cells #[.int .i64 ((rd_T28 l0 x22_2).f0), .slice A118_1 ((rd_T28 l0 x22_2).f1).length c118_1] 28 (0, 0)) (zb BK119) k_ hk⟩))
           (case aO => exact (zn HO_6))
           (case aS => exact (below_size (zo HB)))
           (case aL => have := LMc15.out; omega)
           intro v122 w21 ho hb hg hat
           rw [← Ny121.out] at ho
           replace HO_20 := zK (Kd.V_afterv (ok := (fun k_ => (P0_ k_ ∨ w.heap.size ≤ k_) ∧ k_ ≠ gb116 ∧ k_ ≠ gb119)) (by (with_reducible repeat (first | apply vA | apply vN | apply vD)); exact vM HO_20.out (fun _ hk => ⟨⟨hk.1, ⟨hk.2.2.1, hk.2.2.2⟩⟩, hk.2.1⟩)) hg hat)
           replace BK116 := zK (blk_grown (g := gb116) (o := .cells #[.int .i64 0, .slice none 0 0] 28 (0, 0)) (zb BK116) hg (Kd.N_ne HO_6.out BK116.out (by decide)))
           replace HL118_1 := zK (Kd.V_afterv (ok := (fun k_ => (P0_ k_ ∨ w.heap.size ≤ k_) ∧ k_ ≠ gb116 ∧ k_ ≠ gb119)) (by (with_reducible repeat (first | apply vA | apply vN | apply vD)); exact vM HL118_1.out (fun _ hk => ⟨⟨hk.1, ⟨hk.2.2.1, hk.2.2.2⟩⟩, hk.2.1⟩)) hg hat)
           replace BK119 := zK (blk_grown (g := gb119) (o := .cells #[.int .i64 ((rd_T28 l0 x22_2).f0), .slice A118_1 ((rd_T28 l0 x22_2).f1).length c118_1] 28 (0, 0)) (zb BK119) hg (Kd.N_ne HO_6.out BK119.out (by decide)))
           replace HB := zK (hb)
           have HO123 := zK (ho)
           clear HO_6 ho hb hg hat
           refine hK.out _ _ ⟨(blk_cell BK119.out 0).trans rfl, (blk_cell BK119.out 1).trans rfl, ((HB.out.cell (World.block_lt_of_cell? w _ hw120_0)).trans hw120_0)⟩ (fun hHeld => ?_)
           clear hK K
           refine norm_ (a' := ?_) ?_ ?_
           rotate_left
           ·show Act.put _ (some 35) _ = _
            simp only [Act.put, List.setIfInBounds_toArray, List.set_cons_zero, List.set_cons_succ, i64_w, i32_w]
            rfl
           refine pure_ (i := 9) (N := some 6) (v := ?_) (a' := ?_) #[true, true, true, true, true, true, true, true, true, true] rfl rfl (any_of HT_.out (by kernel_rfl)) (fun _ _ _ h => h) (Or.inl ⟨by rfl, ?_⟩) ?_ ?_
           rotate_left
           ·intro w'
            go_simp
            with_reducible rfl
           rotate_left
           ·simp only [Act.put, List.setIfInBounds_toArray, List.set_cons_zero, List.set_cons_succ, i64_w, i32_w]
            rfl
           refine done_ (done_of HT_.out (by kernel_rfl)) ?_
           try go_wp2
           go_roundg k2
           case measure => have := HJ2.out; have := HK2.out; omega
           case rel => exact ⟨(y121), (wrap64 (x22_2 + 1)), (by first | rfl | (simp; done) | (simp [*]; done)), H', ⟨by have := HJ2.out; have := HK2.out; omega⟩, ⟨by (with_reducible repeat (first | apply nA | apply nN | apply nD)); exact Kd.N_mono HO123.out (fun _ hk => ⟨hk.1, hk.2.1⟩)⟩, ⟨by (with_reducible repeat (first | apply vA | apply vN | apply vD)); exact vM HO_20.out (fun _ hk => ⟨hk.1.1, ⟨hk.2, hk.1.2.1⟩⟩)⟩, ⟨zb BK116⟩, ⟨zo HB⟩⟩
          ·rw [if_neg c15] at H
           exact absurd H (by simp)
         ·rw [if_neg c14] at H
          exact absurd H (by simp)
        ·rw [if_neg c13] at H
         exact absurd H (by simp)
       ·rw [if_neg c12] at H
        exact absurd H (by simp)
      ·rw [if_neg c11] at H
       have c11b0 : decide (x22_2 < (l0.length : Int)) = false := decide_eq_false c11
       clear c11
       replace H := Option.bind_eq_some_iff.mp H
       obtain ⟨⟨t124, t125, t128⟩, A220, H⟩ := H
       replace H : (some (t124, t125, t128)) = some (r1, r2, r3) := H
       have A22 := zK A220
       clear A220
       simp only [Option.some.injEq, Prod.mk.injEq] at H
       obtain ⟨rfl, rfl, rfl⟩ := H
       obtain ⟨Ao23, co23, eo23⟩ := Kd.N_slice HO_6.out
       subst eo23
       go_wp2_with (first | ((with_reducible refine zC (f := 47) rfl ?_); refine goesL_ (some 38) rfl rfl Try.func47 (by kernel_rfl) rfl #[.slice Ao23 x6_2.length co23] rfl (by (try simp only [List.map_toArray, List.map_cons, List.map_nil]); first | done | rfl | (simp only [List.length_drop, List.length_take]; rfl)) ?_; (with_reducible refine (lin_sum.calls _ _ x6_2 t124 t125 t128 _ ?side1 ?side2 A22.out).mono ?_); (case side1 => repeat (first | exact (Kd.N_reads' HO_6.out).2.2 | (with_reducible refine cA ?_ _) | (with_reducible refine cN ?_ _) | (with_reducible refine cD ?_))); (case side2 => exact (Kd.N_reads' HO_6.out).2.1); rintro e w24 ⟨v126, rfl, ho0, hb⟩; refine ⟨_, rfl, ?_⟩; replace HO_6 := zK (Kd.N_elder' (zn HO_6) (Kd.R_base ho0) hb); replace HO_20 := zK (Kd.V_elder' (zv HO_20) (Kd.R_base ho0) hb); have HO127 := zK (Kd.R_lower (Kd.R_newM (M := fun k_ => (w.heap.size ≤ k_)) ho0 (below_size (zo HB)) (fun k_ h_ => h_)) (below_size (zo HB))); replace BK116 := zK (blk_below (g := gb116) (o := .cells #[.int .i64 0, .slice none 0 0] 28 (0, 0)) (zb BK116) hb); replace HB := zK (below_step (zo HB) hb); (try clear hb); (try clear hb2); (try clear hk); (try clear hi); (try clear ho0); have hcz25_0 : w24.cell? ⟨gb116, 0, none⟩ = some (.int .i64 0) := (blk_cell BK116.out 0).trans rfl; have hcz25_1 : w24.cell? ⟨gb116, 1, none⟩ = some (.slice none 0 0) := (blk_cell BK116.out 1).trans rfl; have hfz25_0 := blk_frozen BK116.out 0; have hfz25_1 := blk_frozen BK116.out 1; obtain ⟨Ao26, co26, eo26⟩ := Kd.R_slice HO127.out; subst eo26))
       refine bodyPost_ret (results_ct rfl _ _ gb116 28 #[.int .i64 t124, .slice Ao26 t125.length co26] (0, 0) _ rfl (by refine zM ?_; refine blk_put (cs := #[.int .i64 t124, .slice none 0 0]) ?_ 1 _ rfl; refine zM ?_; refine blk_put (cs := #[.int .i64 0, .slice none 0 0]) ?_ 0 _ rfl; refine zM ?_; exact BK116.out) Try.underlying28 rfl (by kernel_rfl)) rfl ?_
       exact ⟨_, by first | rfl | (simp [errW_none, errW_some] <;> rfl) | (simp [*, errW_none, errW_some] <;> rfl), by (with_reducible repeat (first | apply Kd.R_alloc | apply Kd.R_drewN | apply Kd.R_drew)); exact Kd.R_mono (Kd.R_far (p := ⟨gb116, 1, none⟩) (Kd.R_far (p := ⟨gb116, 0, none⟩) (Kd.R_types HO127.out BK116.out (by decide)) (fun _ hk => hk.2) (.int .i64 t124)) (fun _ hk => hk.2) (.slice Ao26 t125.length co26)) (fun _ hk => hk.1.1), zo HB⟩

-- NOT PRINTED: function 62 (slices_IndexFunc_int64_int64)

-- NOT PRINTED: function 48 (slices_ContainsFunc_int64_int64)

/-! ### ineq_all: function 29, by hand -/
def ineq_all.f (d : Int) (l1 : List Int) : Option Bool := if d = 0 then (if l1 = [] then some true else none) else some (l1.all fun n => Int.tmod n d == 0)
set_option maxHeartbeats 8000000 in
theorem all_rest (g0 : Nat) (d n : Int) (W : World) (hc : W.cell? ⟨g0, 0, none⟩ = some (.int .i64 d)) (hd : d ≠ 0) :
  Calls Try.prog 30 #[.int .i64 n, .pointer (some ⟨g0, 0, none⟩)] W fun e W' => e = .returned (.bool (Int.tmod n d == 0)) ∧ Drawn0 W W' := by
 have z1 : (d == 0) = false := beq_eq_false_iff_ne.2 hd
 have z2 : (d != 0) = true := bne_iff_ne.2 hd
 go_enter Try.func30, Try.ntmps30
 go_wp2
 go_ret
 exact ⟨rfl, by repeat (first | exact Drawn0.refl _ | apply Drawn0.step)⟩
set_option maxHeartbeats 8000000 in
theorem all_not (g0 g1 : Nat) (d n : Int) (b : Bool) (hb : (Int.tmod n d == 0) = b) (W : World) (hc : W.cell? ⟨g0, 0, none⟩ = some (.int .i64 d)) (hc1 : W.cell? ⟨g1, 0, none⟩ = some (.func (.func 30) #[] #[.pointer (some ⟨g0, 0, none⟩)])) (hd : d ≠ 0) :
  Calls Try.prog 49 #[.int .i64 n, .pointer (some ⟨g1, 0, none⟩)] W fun e W' => e = .returned (.bool (!b)) ∧ Drawn0 W W' := by
 have CR := zK (all_rest g0 d n W hc hd)
 rw [hb] at CR
 clear hb
 go_enter Try.func49, Try.ntmps49
 go_wp2_with (first | (go_at_call 30; refine CR.out.mono ?_; rintro e w' ⟨rfl, ⟨nd, rfl⟩⟩))
 go_ret
 exact ⟨rfl, by repeat (first | exact Drawn0.refl _ | apply Drawn0.step)⟩
set_option maxHeartbeats 8000000 in
theorem all_index (g0 g1 : Nat) (d : Int) (A1 : Option Addr) (c1 : Nat) (l1 : List Int) (W : World) (hc : W.cell? ⟨g0, 0, none⟩ = some (.int .i64 d)) (hf : W.cell? ⟨g1, 0, none⟩ = some (.func (.func 30) #[] #[.pointer (some ⟨g0, 0, none⟩)])) (hd : d ≠ 0 ∨ l1 = [])
  (hr1 : Kd.C (Kd.int .i64) W A1 l1.length l1) :
  Calls Try.prog 62 #[.slice A1 l1.length c1, .func (.func 49) #[] #[.pointer (some ⟨g1, 0, none⟩)]] W fun e W' => (∃ v : Int, e = .returned (.int .i64 v) ∧ decide (0 ≤ v) = !(l1.all fun n => Int.tmod n d == 0)) ∧ Drawn0 W W' := by
 have HR1 := zK hr1
 have HC := zK hc
 have HF := zK hf
 have HD := zK hd
 clear hr1 hc hf hd
 go_enter Try.func62, Try.ntmps62
 go_wp2
 go_loopg [8] l1.length (fun gk v8 w' => ∃ x : Int, v8 = .int .i64 x ∧ Aside0 (∃ i : Nat, x = i ∧ i + gk = l1.length ∧ (l1.take i).all (fun n => Int.tmod n d == 0) = true) ∧ Drawn0 W w')
 case atStart => exact ⟨0, rfl, ⟨0, rfl, by omega, by simp⟩, Drawn0.refl _⟩
 case round =>
  obtain ⟨x, rfl, HX, ⟨m1, rfl⟩⟩ := hrel
  obtain ⟨i, hxi, hgk, hal⟩ := HX.out
  clear HX
  have HI := zK hxi
  have HGK := zK hgk
  have HAL := zK hal
  clear hxi hgk hal
  cases gk with
  | zero =>
   have c3 : decide (x < (l1.length : Int)) = false := decide_eq_false (by have := HI.out; have := HGK.out; omega)
   go_wp2
   go_ret
   refine ⟨⟨_, rfl, ?_⟩, by repeat (first | exact Drawn0.refl _ | apply Drawn0.step)⟩
   have h_ := HAL.out
   rw [List.take_of_length_le (by have := HGK.out; omega)] at h_
   rw [h_]; decide
  | succ gko =>
   have p1 : 0 ≤ x := by have := HI.out; omega
   have q1 : x < (l1.length : Int) := by have := HI.out; have := HGK.out; omega
   have hi : i < l1.length := by have := HGK.out; omega
   obtain ⟨XE, hXE⟩ : ∃ XE, XE = l1[i] := ⟨_, rfl⟩
   have HXE := zK hXE
   obtain ⟨ad, e1, hx0⟩ : ∃ ad, A1 = some ad ∧ W.cell? (ad.add x.toNat) = some (.int .i64 XE) := by
    obtain ⟨ad, c, e, hs, hk, hcell⟩ := Kd.C_get HR1.out 0 x p1 q1
    refine ⟨ad, e, ?_⟩
    have hk' : c = [Value.int .i64 (l1.getD x.toNat 0)] := hk
    have := hcell 0 (.int .i64 (l1.getD x.toNat 0)) (by rw [hk']; rfl)
    rw [hXE, ← show l1.getD x.toNat 0 = l1[i] by rw [show x.toNat = i by have := HI.out; omega]; simp [hi]]
    have e2 : x.toNat * (Kd.int .i64).sz + 0 = x.toNat := Nat.mul_one _
    rw [e2] at this
    exact this
   clear hXE
   cases e1
   have c3 : decide (x < (l1.length : Int)) = true := decide_eq_true q1
   replace p1 := eq_true p1
   replace q1 := eq_true q1
   have hd0 : d ≠ 0 := by
    rcases HD.out with h | h
    ·exact h
    ·have := HGK.out; rw [h] at this; simp at this
   cases hb : (Int.tmod XE d == 0) with
   | true =>
    have CN := zK (fun m : Nat => all_not g0 g1 d XE true hb (W.drewN m) HC.out HF.out hd0)
    have HBX := zK hb
    clear hb hd0
    go_wp2_with (first | (go_at_call 49; refine (CN.out _).mono ?_; rintro e w' ⟨rfl, ⟨nd, rfl⟩⟩))
    go_roundg gko
    case measure => omega
    case rel =>
     refine ⟨_, (by first | rfl | (simp; done) | (simp [*]; done)), ⟨i + 1, ?_, by have := HGK.out; omega, ?_⟩, by repeat (first | exact Drawn0.refl _ | apply Drawn0.step)⟩
     ·have := HI.out; have := HGK.out; have := HR1.out.2.1; first | omega | (unfold wrap64; omega)
     ·have := HGK.out
      rw [List.take_succ_eq_append_getElem (by omega), List.all_append, HAL.out, ← HXE.out]
      simpa using HBX.out
   | false =>
    have CN := zK (fun m : Nat => all_not g0 g1 d XE false hb (W.drewN m) HC.out HF.out hd0)
    have HBX := zK hb
    clear hb hd0
    go_wp2_with (first | (go_at_call 49; refine (CN.out _).mono ?_; rintro e w' ⟨rfl, ⟨nd, rfl⟩⟩))
    go_ret
    refine ⟨⟨_, rfl, ?_⟩, by repeat (first | exact Drawn0.refl _ | apply Drawn0.step)⟩
    have hf : (l1.all fun n => Int.tmod n d == 0) = false := by
     rw [List.all_eq_false]
     exact ⟨XE, by rw [HXE.out]; exact List.getElem_mem _, by rw [HBX.out]; simp⟩
    rw [hf]
    have := HI.out
    simp; omega
set_option maxHeartbeats 8000000 in
theorem all_contains (g0 g1 : Nat) (d : Int) (A1 : Option Addr) (c1 : Nat) (l1 : List Int) (W : World) (hc : W.cell? ⟨g0, 0, none⟩ = some (.int .i64 d)) (hf : W.cell? ⟨g1, 0, none⟩ = some (.func (.func 30) #[] #[.pointer (some ⟨g0, 0, none⟩)])) (hd : d ≠ 0 ∨ l1 = [])
  (hr1 : Kd.C (Kd.int .i64) W A1 l1.length l1) :
  Calls Try.prog 48 #[.slice A1 l1.length c1, .func (.func 49) #[] #[.pointer (some ⟨g1, 0, none⟩)]] W fun e W' => e = .returned (.bool (!(l1.all fun n => Int.tmod n d == 0))) ∧ Drawn0 W W' := by
 have CI := zK (all_index g0 g1 d A1 c1 l1 W hc hf hd hr1)
 clear hr1 hc hf hd
 go_enter Try.func48, Try.ntmps48
 go_wp2_with (first | (go_at_call 62; refine CI.out.mono ?_; rintro e w' ⟨⟨v, rfl, hv⟩, ⟨nd, rfl⟩⟩; have HV := zK hv; clear hv))
 go_ret
 refine ⟨?_, by repeat (first | exact Drawn0.refl _ | apply Drawn0.step)⟩
 rw [← HV.out]; rfl
set_option maxHeartbeats 8000000 in
theorem ineq_all.calls (g0 : Nat) (s0 : Int) (A1 : Option Addr) (c1 : Nat) (l1 : List Int) (r : Bool) (w : World) (hk : w.heap[g0]? = some (.cells #[.int .i64 s0] 2 (0, 0))) (hr1 : Kd.C (Kd.int .i64) w A1 l1.length l1) (hc1 : l1.length ≤ c1) (h : ineq_all.f s0 l1 = some r) :
  Calls Try.prog 29 #[.func (.func 30) #[] #[.pointer (some ⟨g0, 0, none⟩)], .slice A1 l1.length c1] w fun e w' => e = .returned (.bool r) ∧ Below w.heap.size w w' := by
 have hd : (s0 ≠ 0 ∨ l1 = []) ∧ r = (l1.all fun n => Int.tmod n s0 == 0) := by
  unfold ineq_all.f at h
  split at h
  ·split at h
   ·rename_i h1 h2
    refine ⟨.inr h2, ?_⟩
    rw [← Option.some.inj h, h2]; rfl
   ·cases h
  ·rename_i h1
   exact ⟨.inl h1, (Option.some.inj h).symm⟩
 obtain ⟨hd, rfl⟩ := hd
 have HR1 := zK hr1
 have HK := zK hk
 have HD := zK hd
 clear hr1 hk hd h hc1
 go_enter Try.func29, Try.ntmps29
 go_wp2_with (first
  | ((with_reducible refine gate_dst (N := 2) rfl ?_); refine box_event ?hg (N := 2) ?hd (cs := #[.func (.func 30) #[] #[.pointer (some ⟨g0, 0, none⟩)]]) (t := 52) ?hr ?_; (case hd => rfl); (case hg => rfl); (case hr => first | (go_simp; done) | (go_simp; rfl)); intro gF hg_ w1 hbox_ hb_; have BF := zK hbox_; have HB1 := zK hb_; clear hg_ hbox_ hb_)
  | (go_at_call 48; refine (all_contains g0 gF s0 A1 c1 l1 w1 ((blk_cell (blk_below HK.out HB1.out) 0).trans rfl) ((blk_cell BF.out 0).trans rfl) HD.out (Kd.C_below HR1.out HB1.out)).mono ?_; rintro e w' ⟨rfl, ⟨nd, rfl⟩⟩))
 go_ret
 exact ⟨by simp, yN HB1.out _⟩

/-! ### api_Mono_37: function 37, by hand -/
def api_Mono_37.f (l0 : List S47) : Option (List S47) := if l0.length < 8796093022208 then some l0 else none
set_option maxHeartbeats 8000000 in
set_option maxRecDepth 100000 in
theorem api_Mono_37.calls (A0 : Option Addr) (c0 : Nat) (l0 : List (S47)) (r : List (S47)) (w : World) (hr0 : Kd.C k47 w A0 l0.length l0) (hc0 : l0.length ≤ c0) (h : api_Mono_37.f l0 = some r) :
  Calls Try.prog 37 #[.slice A0 l0.length c0] w fun e w' => ∃ v0_ : Value, e = .returned (v0_) ∧ Kd.R k47 47 w' w.heap.size (fun _ => True) v0_ r ∧ Below w.heap.size w w' := by
 unfold api_Mono_37.f at h
 split at h
 ·rename_i hl
  obtain rfl := Option.some.inj h
  have HR0 := zK hr0
  have HL := zK hl
  have hnil := fun w => Lib.run_eql_slice_nil (P := Try.prog) w 26 47 A0 l0.length c0 0 0 Try.underlying26
  clear hr0 hl h hc0
  cases A0 with
  | none =>
   have hz : l0 = [] := by
    cases l0 with
    | nil => rfl
    | cons x l => obtain ⟨ad, e, _⟩ := HR0.out.2.2 (by simp); cases e
   subst hz
   simp only [List.length_nil, Option.isNone_none] at hnil
   go_enter Try.func37, Try.ntmps37
   go_wp2
   go_ret
   exact ⟨_, rfl, Kd.R_nil _ _ _ _ _, Below.refl _ _⟩
  | some ad =>
   go_enter Try.func37, Try.ntmps37
   go_wp2_with (first
    | ((with_reducible refine gate_dst (N := 5) rfl ?_); refine Kd.R_lit (w0 := w) k47 w.heap.size 47 ?hg (N := 5) ?hd (xs := ([] : List S47)) (inner := []) (ok := fun _ => True) (okp := fun _ => True) ?hr ?hp (fun _ hk => hk) trivial (Below.refl _ _) (Nat.le_refl _) (by simp) ?_; (case hd => rfl); (case hg => rfl); (case hr => first | (go_simp; done) | (go_simp; rfl)); (case hp => exact Reps.none _ _); intro v1 w1 ho_ hb_ hg_ hnew_; have HO := zK ho_; have HB := zK hb_; clear ho_ hb_ hg_ hnew_; obtain ⟨Ao, co, eo⟩ := Kd.R_slice HO.out; subst eo)
    | ((with_reducible refine gate_builtin (b := .append) (xs := #[.tmp 5, .tmp 6]) rfl ?_); at_builtin; refine Kd.R_append_rows (w0 := w) (Rr := k47.K w) k47 w.heap.size rfl (.tmp 5) (.tmp 6) 26 47 (.agg #[(.int .i64 0), (.int .i64 0)]) 16 rfl Try.underlying26 info47 rfl (by decide) (by omega) (.slice Ao 0 co) ([] : List S47) l0 (some ad) l0.length c0 (fun _ => True) (fun _ => False) rfl rfl HO.out (ReadsRow.imp_ HR0.out HB.out (fun _ _ h_ => h_)) ?hk (fun _ hk => hk.elim) (fun _ _ => trivial) HB.out HB.out.size (by have := HL.out; simp; omega) ?_; (case hk => intro x cs hx; obtain ⟨c1, c2, h1, h2, h3⟩ := hx; exact ⟨c1, c2, h1, h2, h3⟩); intro v1 w2 ho_ hb_ hg_ hat_; have HO2 := zK ho_; have HB2 := zK hb_; clear ho_ hb_ hg_ hat_; obtain ⟨Ao2, co2, eo2⟩ := Kd.R_slice HO2.out; subst eo2))
   go_ret
   exact ⟨_, rfl, HO2.out, HB2.out⟩
 ·cases h

/-! ### num_over: function 63 -/
def num_over.f (a0 : Int) (a1 : Int) : Option (Bool) := if a1 = 0 then (some true) else (if a0 = (-9223372036854775808) then (some (a1 == (-1))) else (some false))
set_option maxHeartbeats 8000000 in
set_option maxRecDepth 100000 in
theorem num_over.calls (a0 : Int) (a1 : Int) (r : Bool) (w : World) (h : num_over.f a0 a1 = some r) :
  Calls Try.prog 63 #[.int .i64 a0, .int .i64 a1] w fun e w' => e = .returned (.bool r) ∧ Drawn0 w w' := by
 have H : (if a1 = 0 then (some true) else (if a0 = (-9223372036854775808) then (some (a1 == (-1))) else (some false))) = some r := h
 clear h
 by_cases c3 : a1 = 0
 ·rw [if_pos c3] at H
  have c3b0 : (a1 == 0) = true := beq_iff_eq.mpr c3
  have c3b1 : (a1 != 0) = false := bne_eq_false_iff_eq.mpr c3
  clear c3
  obtain rfl := Option.some.inj H
  go_enter Try.func63, Try.ntmps63
  go_wp2
  go_ret
  exact ⟨by first | rfl | (simp; done) | (simp [*]; done), by repeat (first | exact Drawn0.refl _ | apply Drawn0.step)⟩
 ·rw [if_neg c3] at H
  have c3b0 : (a1 == 0) = false := beq_eq_false_iff_ne.mpr c3
  have c3b1 : (a1 != 0) = true := bne_iff_ne.mpr c3
  by_cases c4 : a0 = (-9223372036854775808)
  ·rw [if_pos c4] at H
   have c4b0 : (a0 == (-9223372036854775808)) = true := beq_iff_eq.mpr c4
   have c4b1 : (a0 != (-9223372036854775808)) = false := bne_eq_false_iff_eq.mpr c4
   clear c4
   obtain rfl := Option.some.inj H
   go_enter Try.func63, Try.ntmps63
   go_wp2
   go_ret
   exact ⟨by first | rfl | (simp; done) | (simp [*]; done), by repeat (first | exact Drawn0.refl _ | apply Drawn0.step)⟩
  ·rw [if_neg c4] at H
   have c4b0 : (a0 == (-9223372036854775808)) = false := beq_eq_false_iff_ne.mpr c4
   have c4b1 : (a0 != (-9223372036854775808)) = true := bne_iff_ne.mpr c4
   obtain rfl := Option.some.inj H
   go_enter Try.func63, Try.ntmps63
   go_wp2
   go_ret
   exact ⟨by first | rfl | (simp; done) | (simp [*]; done), by repeat (first | exact Drawn0.refl _ | apply Drawn0.step)⟩

/-! ### num_Ceil: function 50 -/
def num_Ceil.f (a0 : Int) (a1 : Int) : Option (Int × Bool) := (num_over.f a0 a1).bind fun t129 => (if t129 = true then (some (0, false)) else (if a1 = 0 then (none) else (if (Int.tmod a0 a1) = 0 then (some (wrap64 (Int.tdiv a0 a1), true)) else (if ((decide (a0 < 0)) == (decide (a1 < 0))) = true then (some (wrap64 ((wrap64 (Int.tdiv a0 a1)) + 1), true)) else (some (wrap64 (Int.tdiv a0 a1), true))))))
set_option maxHeartbeats 8000000 in
set_option maxRecDepth 100000 in
theorem num_Ceil.calls (a0 : Int) (a1 : Int) (r1 : Int) (r2 : Bool) (w : World) (h : num_Ceil.f a0 a1 = some (r1, r2)) :
  Calls Try.prog 50 #[.int .i64 a0, .int .i64 a1] w fun e w' => e = .returned (.tuple #[.int .i64 r1, .bool r2]) ∧ Drawn0 w w' := by
 have H : ((num_over.f a0 a1).bind fun t129 => (if t129 = true then (some (0, false)) else (if a1 = 0 then (none) else (if (Int.tmod a0 a1) = 0 then (some (wrap64 (Int.tdiv a0 a1), true)) else (if ((decide (a0 < 0)) == (decide (a1 < 0))) = true then (some (wrap64 ((wrap64 (Int.tdiv a0 a1)) + 1), true)) else (some (wrap64 (Int.tdiv a0 a1), true))))))) = some (r1, r2) := h
 clear h
 replace H := Option.bind_eq_some_iff.mp H
 obtain ⟨t129, A30, H⟩ := H
 replace H : (if t129 = true then (some (0, false)) else (if a1 = 0 then (none) else (if (Int.tmod a0 a1) = 0 then (some (wrap64 (Int.tdiv a0 a1), true)) else (if ((decide (a0 < 0)) == (decide (a1 < 0))) = true then (some (wrap64 ((wrap64 (Int.tdiv a0 a1)) + 1), true)) else (some (wrap64 (Int.tdiv a0 a1), true)))))) = some (r1, r2) := H
 have A3 := zK A30
 clear A30
 by_cases c4 : t129 = true
 ·subst c4
  have H1 : (some (0, false)) = some (r1, r2) := by rw [if_pos rfl] at H; exact H
  clear H
  have H := H1
  clear H1
  simp only [Option.some.injEq, Prod.mk.injEq] at H
  obtain ⟨rfl, rfl⟩ := H
  go_enter Try.func50, Try.ntmps50
  go_wp2_with (first | ((with_reducible refine zC (f := 63) rfl ?_); refine goesL_ (some 9) rfl rfl Try.func63 (by kernel_rfl) rfl #[.int .i64 a0, .int .i64 a1] rfl (by (try simp only [List.map_toArray, List.map_cons, List.map_nil]); first | done | rfl | (simp only [List.length_drop, List.length_take]; rfl)) ?_; (with_reducible refine (num_over.calls a0 a1 true _ A3.out).mono ?_); rintro e w' ⟨rfl, ⟨nd, rfl⟩⟩; refine ⟨_, rfl, ?_⟩))
  go_ret2
  exact ⟨by first | rfl | (simp; done) | (simp [*]; done), by repeat (first | exact Drawn0.refl _ | apply Drawn0.step)⟩
 ·replace c4 := Bool.eq_false_iff.mpr c4
  subst c4
  have H1 : (if a1 = 0 then (none) else (if (Int.tmod a0 a1) = 0 then (some (wrap64 (Int.tdiv a0 a1), true)) else (if ((decide (a0 < 0)) == (decide (a1 < 0))) = true then (some (wrap64 ((wrap64 (Int.tdiv a0 a1)) + 1), true)) else (some (wrap64 (Int.tdiv a0 a1), true))))) = some (r1, r2) := by rw [if_neg (show ¬ (false = true) by decide)] at H; exact H
  clear H
  have H := H1
  clear H1
  by_cases c5 : a1 = 0
  ·rw [if_pos c5] at H
   exact absurd H (by simp)
  ·rw [if_neg c5] at H
   have c5b0 : (a1 == 0) = false := beq_eq_false_iff_ne.mpr c5
   have c5b1 : (a1 != 0) = true := bne_iff_ne.mpr c5
   by_cases c6 : (Int.tmod a0 a1) = 0
   ·rw [if_pos c6] at H
    have c6b0 : ((Int.tmod a0 a1) == 0) = true := beq_iff_eq.mpr c6
    have c6b1 : ((Int.tmod a0 a1) != 0) = false := bne_eq_false_iff_eq.mpr c6
    clear c6
    simp only [Option.some.injEq, Prod.mk.injEq] at H
    obtain ⟨rfl, rfl⟩ := H
    go_enter Try.func50, Try.ntmps50
    go_wp2_with (first | ((with_reducible refine zC (f := 63) rfl ?_); refine goesL_ (some 9) rfl rfl Try.func63 (by kernel_rfl) rfl #[.int .i64 a0, .int .i64 a1] rfl (by (try simp only [List.map_toArray, List.map_cons, List.map_nil]); first | done | rfl | (simp only [List.length_drop, List.length_take]; rfl)) ?_; (with_reducible refine (num_over.calls a0 a1 false _ A3.out).mono ?_); rintro e w' ⟨rfl, ⟨nd, rfl⟩⟩; refine ⟨_, rfl, ?_⟩))
    go_ret2
    exact ⟨by first | rfl | (simp; done) | (simp [*]; done), by repeat (first | exact Drawn0.refl _ | apply Drawn0.step)⟩
   ·rw [if_neg c6] at H
    have c6b0 : ((Int.tmod a0 a1) == 0) = false := beq_eq_false_iff_ne.mpr c6
    have c6b1 : ((Int.tmod a0 a1) != 0) = true := bne_iff_ne.mpr c6
    by_cases c7 : ((decide (a0 < 0)) == (decide (a1 < 0))) = true
    ·rw [if_pos c7] at H
     have c7b0 : ((decide (a0 < 0)) == (decide (a1 < 0))) = true := c7
     (try (have c7b1 : decide ((decide (a0 < 0)) = (decide (a1 < 0))) = true := by simpa using c7))
     (try (have c7b2 : ((decide (a0 < 0)) == (decide (a1 < 0))) = true := by simpa using c7))
     clear c7
     simp only [Option.some.injEq, Prod.mk.injEq] at H
     obtain ⟨rfl, rfl⟩ := H
     go_enter Try.func50, Try.ntmps50
     go_wp2_with (first | ((with_reducible refine zC (f := 63) rfl ?_); refine goesL_ (some 9) rfl rfl Try.func63 (by kernel_rfl) rfl #[.int .i64 a0, .int .i64 a1] rfl (by (try simp only [List.map_toArray, List.map_cons, List.map_nil]); first | done | rfl | (simp only [List.length_drop, List.length_take]; rfl)) ?_; (with_reducible refine (num_over.calls a0 a1 false _ A3.out).mono ?_); rintro e w' ⟨rfl, ⟨nd, rfl⟩⟩; refine ⟨_, rfl, ?_⟩))
     go_ret2
     exact ⟨by first | rfl | (simp; done) | (simp [*]; done), by repeat (first | exact Drawn0.refl _ | apply Drawn0.step)⟩
    ·rw [if_neg c7] at H
     have c7b0 : ((decide (a0 < 0)) == (decide (a1 < 0))) = false := by simpa using c7
     (try (have c7b1 : decide ((decide (a0 < 0)) = (decide (a1 < 0))) = false := by simpa using c7))
     (try (have c7b2 : ((decide (a0 < 0)) == (decide (a1 < 0))) = false := by simpa using c7))
     (try (have c7b3 : ¬ ((decide (a0 < 0)) = (decide (a1 < 0))) := by simpa using c7))
     clear c7
     simp only [Option.some.injEq, Prod.mk.injEq] at H
     obtain ⟨rfl, rfl⟩ := H
     go_enter Try.func50, Try.ntmps50
     go_wp2_with (first | ((with_reducible refine zC (f := 63) rfl ?_); refine goesL_ (some 9) rfl rfl Try.func63 (by kernel_rfl) rfl #[.int .i64 a0, .int .i64 a1] rfl (by (try simp only [List.map_toArray, List.map_cons, List.map_nil]); first | done | rfl | (simp only [List.length_drop, List.length_take]; rfl)) ?_; (with_reducible refine (num_over.calls a0 a1 false _ A3.out).mono ?_); rintro e w' ⟨rfl, ⟨nd, rfl⟩⟩; refine ⟨_, rfl, ?_⟩))
     go_ret2
     exact ⟨by first | rfl | (simp; done) | (simp [*]; done), by repeat (first | exact Drawn0.refl _ | apply Drawn0.step)⟩

/-! ### ineq_divided: function 31 -/
def ineq_divided.l0 : Nat → Int → Int → Int → Int → List (S47) → Option (Int × (List (S47)))
 | 0, _, _, _, _, _ => none
 | k + 1, x1, x21, x22, x136000, x136001 => if x22 < x21 then (if 0 ≤ x22 then (if x22 < (x136001.length : Int) then (if x1 = 0 then (none) else (ineq_divided.l0 k x1 x21 (wrap64 (x22 + 1)) x136000 (x136001.set (x22 : Int).toNat (⟨(rd_T47 x136001 x22).f0, wrap64 (Int.tdiv ((rd_T47 x136001 x22).f1) x1)⟩ : S47)))) else (none)) else (none)) else (some (x136000, x136001))
def ineq_divided.f (k : Nat) (a0_0 : Int) (l0_1 : List (S47)) (a1 : Int) : Option (Int × (List (S47))) := (api_Mono_37.f l0_1).bind fun t132 => ((num_Ceil.f a0_0 a1).bind fun bt136 => (ineq_divided.l0 k a1 (t132.length : Int) 0 bt136.1 t132))
theorem ineq_divided.mono_l : ∀ k, (∀ y0 y1 y2 y3 y4, LeO (ineq_divided.l0 k y0 y1 y2 y3 y4) (ineq_divided.l0 (k + 1) y0 y1 y2 y3 y4))
 | 0 => fun _ _ _ _ _ r h => by simp [ineq_divided.l0] at h
 | k + 1 => by
  have ih0 := ineq_divided.mono_l k
  ·intro y0 y1 y2 y3 y4
   unfold ineq_divided.l0
   repeat' first
   | (with_reducible exact ih0 _ _ _ _ _)
   | (with_reducible exact LeO.refl _)
   | (with_reducible exact LeO.none _)
   | (with_reducible refine LeO.ite ?_ ?_)
   | (with_reducible refine LeO.bind ?_ (fun _ => ?_))
   | exact ih0 _ _ _ _ _
   | exact LeO.none _
   | refine LeO.ite ?_ ?_
   | refine LeO.bind ?_ (fun _ => ?_)
theorem ineq_divided.mono : ∀ a0 a1 a2 k, LeO (ineq_divided.f k a0 a1 a2) (ineq_divided.f (k + 1) a0 a1 a2) := by
 intro a0 a1 a2 k
 have ih0 := ineq_divided.mono_l k
 unfold ineq_divided.f
 repeat' first
   | (with_reducible exact ih0 _ _ _ _ _)
   | (with_reducible exact LeO.refl _)
   | (with_reducible exact LeO.none _)
   | (with_reducible refine LeO.ite ?_ ?_)
   | (with_reducible refine LeO.bind ?_ (fun _ => ?_))
   | exact ih0 _ _ _ _ _
   | exact LeO.none _
   | refine LeO.ite ?_ ?_
   | refine LeO.bind ?_ (fun _ => ?_)
set_option maxHeartbeats 8000000 in
set_option maxRecDepth 100000 in
theorem ineq_divided.calls (k : Nat) (a0_0 : Int) (A0_1 : Option Addr) (c0_1 : Nat) (l0_1 : List (S47)) (a1 : Int) (r1 : Int) (r2 : List (S47)) (w : World) (hr0_1 : Kd.C k47 w A0_1 l0_1.length l0_1) (hc0_1 : l0_1.length ≤ c0_1) (h : ineq_divided.f k a0_0 l0_1 a1 = some (r1, r2)) :
  Calls Try.prog 31 #[.agg #[.int .i64 a0_0, .slice A0_1 l0_1.length c0_1], .int .i64 a1] w fun e w' => ∃ v1_ : Value, e = .returned (.agg #[.int .i64 r1, v1_]) ∧ Kd.R k47 47 w' w.heap.size (fun _ => True) v1_ r2 ∧ Below w.heap.size w w' := by
 have hu28 := Try.underlying28
 have HR0_1 := zK hr0_1
 have HC0_1 := zK hc0_1
 clear hr0_1 hc0_1
 have HB := zK (Below.refl w.heap.size w)
 have H : ((api_Mono_37.f l0_1).bind fun t132 => ((num_Ceil.f a0_0 a1).bind fun bt136 => (ineq_divided.l0 k a1 (t132.length : Int) 0 bt136.1 t132))) = some (r1, r2) := h
 clear h
 replace H := Option.bind_eq_some_iff.mp H
 obtain ⟨t132, A30, H⟩ := H
 replace H : ((num_Ceil.f a0_0 a1).bind fun bt136 => (ineq_divided.l0 k a1 (t132.length : Int) 0 bt136.1 t132)) = some (r1, r2) := H
 have A3 := zK A30
 clear A30
 replace H := Option.bind_eq_some_iff.mp H
 obtain ⟨⟨t136, t137⟩, A40, H⟩ := H
 replace H : (ineq_divided.l0 k a1 (t132.length : Int) 0 t136 t132) = some (r1, r2) := H
 have A4 := zK A40
 clear A40
 have H' := zK H
 clear H
 go_enter Try.func31, Try.ntmps31
 go_wp2_with (first | ((with_reducible refine gate_dst (N := 2) rfl ?_); refine box_event ?hg (N := 2) ?hd (cs := #[.int .i64 a0_0, .slice A0_1 l0_1.length c0_1]) (t := 28) ?hr ?_; (case hd => rfl); (case hg => rfl); (case hr => first | (go_simp; done) | (go_simp; rfl)); intro gb130 hg w5 hbox hb; have BK130 := zK (hbox); have GW130 := zK ((by rw [hg]; exact (below_size (zo HB)) : w.heap.size ≤ gb130)); have GE130 := zK ((by rw [hg]; exact (below_size (zo HB)) : w.heap.size ≤ gb130)); replace HB := zK (below_step (zo HB) hb); clear hb hbox hg) | ((with_reducible refine gate_dst (N := 4) rfl ?_); refine box_event ?hg (N := 4) ?hd (cs := #[.int .i64 0, .slice none 0 0]) (t := 28) ?hr ?_; (case hd => rfl); (case hg => rfl); (case hr => first | (go_simp; done) | (go_simp; rfl)); intro gb131 hg w6 hbox hb; have BK131 := zK (hbox); have GW131 := zK ((by rw [hg]; exact (below_size (zo HB)) : w.heap.size ≤ gb131)); have GE131 := zK ((by rw [hg]; exact (below_size (zo HB)) : w.heap.size ≤ gb131)); replace HB := zK (below_step (zo HB) hb); have NB130_131 := zK ((by rw [hg]; exact Nat.ne_of_lt (blk_lt (g := gb130) (o := .cells #[.int .i64 a0_0, .slice A0_1 l0_1.length c0_1] 28 (0, 0)) (zb BK130)) : gb130 ≠ gb131)); have NB131_130 := zK ((by rw [hg]; exact Nat.ne_of_gt (blk_lt (g := gb130) (o := .cells #[.int .i64 a0_0, .slice A0_1 l0_1.length c0_1] 28 (0, 0)) (zb BK130)) : gb131 ≠ gb130)); replace BK130 := zK (blk_below (g := gb130) (o := .cells #[.int .i64 a0_0, .slice A0_1 l0_1.length c0_1] 28 (0, 0)) (zb BK130) hb); clear hb hbox hg; have hnb7 := NB130_131.out; have hnc7 := NB131_130.out; have hcz8_0 : w6.cell? ⟨gb130, 0, none⟩ = some (.int .i64 a0_0) := (blk_cell BK130.out 0).trans rfl; have hcz8_1 : w6.cell? ⟨gb130, 1, none⟩ = some (.slice A0_1 l0_1.length c0_1) := (blk_cell BK130.out 1).trans rfl; have hfz8_0 := blk_frozen BK130.out 0; have hfz8_1 := blk_frozen BK130.out 1) | ((with_reducible refine zC (f := 37) rfl ?_); refine goesL_ (some 9) rfl rfl Try.func37 (by kernel_rfl) rfl #[.slice A0_1 l0_1.length c0_1] rfl (by (try simp only [List.map_toArray, List.map_cons, List.map_nil]); first | done | rfl | (simp only [List.length_drop, List.length_take]; rfl)) ?_; (with_reducible refine (api_Mono_37.calls _ _ l0_1 t132 _ ?side1 ?side2 A3.out).mono ?_); (case side1 => repeat (first | exact (Kd.C_below HR0_1.out HB.out) | (with_reducible refine cA ?_ _) | (with_reducible refine cN ?_ _) | (with_reducible refine cD ?_))); (case side2 => exact HC0_1.out); rintro e w9 ⟨v133, rfl, ho0, hb⟩; refine ⟨_, rfl, ?_⟩; have HO134 := zK (Kd.R_lower ho0 (below_size (zo HB))); replace BK130 := zK (blk_below (g := gb130) (o := .cells #[.int .i64 a0_0, .slice A0_1 l0_1.length c0_1] 28 (0, 0)) (zb BK130) hb); replace BK131 := zK (blk_below (g := gb131) (o := .cells #[.int .i64 0, .slice none 0 0] 28 (0, 0)) (zb BK131) hb); replace HB := zK (below_step (zo HB) hb); (try clear hb); (try clear hb2); (try clear hk); (try clear hi); (try clear ho0); obtain ⟨Ao10, co10, eo10⟩ := Kd.R_slice HO134.out; subst eo10) | ((with_reducible refine gate_dst (N := 5) rfl ?_); refine box_event ?hg (N := 5) ?hd (cs := #[.int .i64 0, .slice none 0 0]) (t := 28) ?hr ?_; (case hd => rfl); (case hg => rfl); (case hr => first | (go_simp; done) | (go_simp; rfl)); intro gb135 hg w11 hbox hb; replace HO134 := zK (Kd.R_below (zr HO134) hb); have BK135 := zK (hbox); have GW135 := zK ((by rw [hg]; exact (below_size (zo HB)) : w.heap.size ≤ gb135)); have GE135 := zK ((by rw [hg]; exact (below_size (zo HB)) : w.heap.size ≤ gb135)); replace HB := zK (below_step (zo HB) hb); have NB130_135 := zK ((by rw [hg]; exact Nat.ne_of_lt (blk_lt (g := gb130) (o := .cells #[.int .i64 a0_0, .slice A0_1 l0_1.length c0_1] 28 (0, 0)) (zb BK130)) : gb130 ≠ gb135)); have NB135_130 := zK ((by rw [hg]; exact Nat.ne_of_gt (blk_lt (g := gb130) (o := .cells #[.int .i64 a0_0, .slice A0_1 l0_1.length c0_1] 28 (0, 0)) (zb BK130)) : gb135 ≠ gb130)); replace BK130 := zK (blk_below (g := gb130) (o := .cells #[.int .i64 a0_0, .slice A0_1 l0_1.length c0_1] 28 (0, 0)) (zb BK130) hb); have NB131_135 := zK ((by rw [hg]; exact Nat.ne_of_lt (blk_lt (g := gb131) (o := .cells #[.int .i64 0, .slice none 0 0] 28 (0, 0)) (zb BK131)) : gb131 ≠ gb135)); have NB135_131 := zK ((by rw [hg]; exact Nat.ne_of_gt (blk_lt (g := gb131) (o := .cells #[.int .i64 0, .slice none 0 0] 28 (0, 0)) (zb BK131)) : gb135 ≠ gb131)); replace BK131 := zK (blk_below (g := gb131) (o := .cells #[.int .i64 0, .slice none 0 0] 28 (0, 0)) (zb BK131) hb); clear hb hbox hg; have hnb12 := NB135_130.out; have hnc12 := NB130_135.out; have hnb13 := NB135_131.out; have hnc13 := NB131_135.out; have hcz14_0 : w11.cell? ⟨gb135, 0, none⟩ = some (.int .i64 0) := (blk_cell BK135.out 0).trans rfl; have hcz14_1 : w11.cell? ⟨gb135, 1, none⟩ = some (.slice none 0 0) := (blk_cell BK135.out 1).trans rfl; have hfz14_0 := blk_frozen BK135.out 0; have hfz14_1 := blk_frozen BK135.out 1; have hcz15_0 : w11.cell? ⟨gb130, 0, none⟩ = some (.int .i64 a0_0) := (blk_cell BK130.out 0).trans rfl; have hcz15_1 : w11.cell? ⟨gb130, 1, none⟩ = some (.slice A0_1 l0_1.length c0_1) := (blk_cell BK130.out 1).trans rfl; have hfz15_0 := blk_frozen BK130.out 0; have hfz15_1 := blk_frozen BK130.out 1) | ((with_reducible refine zC (f := 50) rfl ?_); refine goesL_ (some 15) rfl rfl Try.func50 (by kernel_rfl) rfl #[.int .i64 a0_0, .int .i64 a1] rfl (by (try simp only [List.map_toArray, List.map_cons, List.map_nil]); first | done | rfl | (simp only [List.length_drop, List.length_take]; rfl)) ?_; (with_reducible refine (num_Ceil.calls a0_0 a1 t136 t137 _ A4.out).mono ?_); rintro e w' ⟨rfl, ⟨nd, rfl⟩⟩; refine ⟨_, rfl, ?_⟩))
 go_loopg [22] k (fun kq v22 w' => ∃ (x22_1 : Int) (x136001_1 : List (S47)) (u136001 : Value), v22 = .int .i64 x22_1 ∧ Aside0 (ineq_divided.l0 kq a1 (t132.length : Int) x22_1 t136 x136001_1 = some (r1, r2)) ∧ Aside0 (kq ≤ k) ∧ Aside0 (Kd.R k47 47 w' w.heap.size (fun _ => True) u136001 x136001_1) ∧ Aside0 (w'.heap[gb130]? = some (.cells #[.int .i64 a0_0, (.slice A0_1 l0_1.length c0_1)] 28 (0, 0))) ∧ Aside0 (w'.heap[gb131]? = some (.cells #[.int .i64 0, (.slice none 0 0)] 28 (0, 0))) ∧ Aside0 (w'.heap[gb135]? = some (.cells #[.int .i64 t136, u136001] 28 (0, 0))) ∧ Aside0 (Below w.heap.size w w'))
 case atStart => exact ⟨(0), (t132), (.slice Ao10 t132.length co10), (by first | rfl | (simp; done) | (simp [*]; done)), H', ⟨Nat.le_refl _⟩, ⟨by (with_reducible repeat (first | apply Kd.R_alloc | apply Kd.R_drewN | apply Kd.R_drew)); exact Kd.R_mono (Kd.R_far (p := ⟨gb135, 0, none⟩) (Kd.R_far (p := ⟨gb135, 1, none⟩) (Kd.R_far (p := ⟨gb135, 0, none⟩) (Kd.R_types HO134.out BK135.out (by decide)) (fun _ hk => hk.2) (.int .i64 0)) (fun _ hk => hk.2) (.slice Ao10 t132.length co10)) (fun _ hk => hk.2) (.int .i64 t136)) (fun _ hk => trivial)⟩, ⟨zb BK130⟩, ⟨zb BK131⟩, ⟨by refine zM ?_; refine blk_put (cs := #[.int .i64 0, .slice Ao10 t132.length co10]) ?_ 0 _ rfl; refine zM ?_; refine blk_put (cs := #[.int .i64 0, .slice none 0 0]) ?_ 1 _ rfl; refine zM ?_; refine blk_put (cs := #[.int .i64 0, .slice none 0 0]) ?_ 0 _ rfl; refine zM ?_; exact BK135.out⟩, ⟨zo HB⟩⟩
 case round =>
  clear H'
  try clear c1
  try clear p2
  try clear c3
  try clear c5
  try clear c7
  try clear c12
  try clear c13
  try clear hcz14_0
  try clear hcz14_1
  try clear hcz15_0
  try clear hcz15_1
  try clear hcz8_0
  try clear hcz8_1
  try clear hfz14_0
  try clear hfz14_1
  try clear hfz15_0
  try clear hfz15_1
  try clear hfz8_0
  try clear hfz8_1
  obtain ⟨x22_1, x136001_1, u136001, rfl, HA, HK1, HO_136001, BK130, BK131, BK135, HB⟩ := hrel
  cases gk with
  | zero => exact absurd HA.out (by simp [ineq_divided.l0])
  | succ k1 =>
   have H := HA.out
   clear HA
   simp only [ineq_divided.l0] at H
   by_cases c16 : x22_1 < (t132.length : Int)
   ·rw [if_pos c16] at H
    have c16b0 : decide (x22_1 < (t132.length : Int)) = true := decide_eq_true c16
    clear c16
    by_cases c17 : 0 ≤ x22_1
    ·rw [if_pos c17] at H
     have c17b0 : decide (0 ≤ x22_1) = true := decide_eq_true c17
     clear c17
     by_cases c18 : x22_1 < (x136001_1.length : Int)
     ·rw [if_pos c18] at H
      have c18b0 : decide (x22_1 < (x136001_1.length : Int)) = true := decide_eq_true c18
      clear c18
      by_cases c19 : a1 = 0
      ·rw [if_pos c19] at H
       exact absurd H (by simp)
      ·rw [if_neg c19] at H
       have c19b0 : (a1 == 0) = false := beq_eq_false_iff_ne.mpr c19
       have c19b1 : (a1 != 0) = true := bne_iff_ne.mpr c19
       obtain ⟨y139, hy139⟩ : ∃ y_ : List (S47), y_ = (x136001_1.set (x22_1 : Int).toNat (⟨(rd_T47 x136001_1 x22_1).f0, wrap64 (Int.tdiv ((rd_T47 x136001_1 x22_1).f1) a1)⟩ : S47)) := ⟨_, rfl⟩
       replace H : (ineq_divided.l0 k1 a1 (t132.length : Int) (wrap64 (x22_1 + 1)) t136 y139) = some (r1, r2) := by first | (rw [hy139]; with_reducible exact H) | (have H2_ := (Option.bind_some _ _).symm.trans H; rw [hy139]; with_reducible exact H2_) | (have H2_ := (Option.bind_some _ _).symm.trans H; with_reducible exact H2_) | with_reducible exact H | (rw [hy139]; exact H) | exact H
       have Ny139 := zK hy139
       clear hy139
       have H' := zK H
       clear H
       have hnb21 := NB135_130.out
       have hnc21 := NB130_135.out
       have hnb22 := NB135_131.out
       have hnc22 := NB131_135.out
       have hcz23_0 : wr.cell? ⟨gb135, 0, none⟩ = some (.int .i64 t136) := (blk_cell BK135.out 0).trans rfl
       have hcz23_1 : wr.cell? ⟨gb135, 1, none⟩ = some (u136001) := (blk_cell BK135.out 1).trans rfl
       have hfz23_0 := blk_frozen BK135.out 0
       have hfz23_1 := blk_frozen BK135.out 1
       obtain ⟨Ao24, co24, eo24⟩ := Kd.R_slice HO_136001.out
       subst eo24
       have p138 : 0 ≤ (x22_1 : Int) := of_decide_eq_true (by first | (with_reducible assumption) | assumption)
       have q138 : x22_1 < (x136001_1.length : Int) := of_decide_eq_true (by first | (with_reducible assumption) | assumption)
       obtain ⟨ad138, e138, hx138_0, hx138_1⟩ := at_T47 (Kd.R_reads' HO_136001.out).2.2 x22_1 p138 q138
       cases e138
       replace p138 := eq_true p138
       replace q138 := eq_true q138
       have p20 : 0 ≤ (x22_1 : Int) := of_decide_eq_true (by first | (with_reducible assumption) | assumption)
       have q20 : (x22_1 : Int) < ((x136001_1.length : Int) : Int) := of_decide_eq_true (by first | (with_reducible assumption) | assumption)
       obtain ⟨go20, co20, eo20, gb20, gl20, cl20, HG20⟩ := Kd.R_form HO_136001.out (by omega)
       (first | cases eo20 | (injection eo20 with ea_ en_ ec_; (first | subst ea_ | (injection ea_ with ea_; subst ea_)); subst ec_; clear en_))
       have GB20 := zK gb20
       have GG20 := zK HG20
       clear gb20 gl20 HG20
       (first | simp only [add_plain] at hx138_0 | skip)
       (first | simp only [add_plain] at hx138_1 | skip)
       obtain ⟨ce20, hcl20, hM20, hcc20, hfr20⟩ := Kd.R_elem HO_136001.out z47 (x22_1 : Int) p20 q20
       obtain rfl := k47_openM hM20
       have hx20_0 : wr.cell? ⟨go20, (x22_1 : Int).toNat * 2, none⟩ = some (.int .i64 ((rd_T47 x136001_1 x22_1).f0)) := hcc20 0 _ rfl
       have hx20_1 : wr.cell? ⟨go20, (x22_1 : Int).toNat * 2 + 1, none⟩ = some (.int .i64 ((rd_T47 x136001_1 x22_1).f1)) := hcc20 1 _ rfl
       have hf20_0 : wr.frozen? ⟨go20, (x22_1 : Int).toNat * 2, none⟩ = false := hfr20 0
       have hf20_1 : wr.frozen? ⟨go20, (x22_1 : Int).toNat * 2 + 1, none⟩ = false := hfr20 1
       clear hcl20 hcc20 hfr20 hM20
       replace p20 := eq_true p20
       replace q20 := eq_true q20
       have HX25 := zK (show Kd.R k47 47 wr w.heap.size (fun _ => True) (.slice (some ⟨go20, 0, none⟩) x136001_1.length co24) x136001_1 from (zr HO_136001))
       obtain ⟨ce25, hcl25, hM25, hcc25, hfr25⟩ := Kd.R_elem HX25.out z47 (x22_1 : Int) (of_decide_eq_true (by first | (with_reducible assumption) | assumption)) (by have h_ : (x22_1 : Int) < ((x136001_1.length : Int) : Int) := of_decide_eq_true (by first | (with_reducible assumption) | assumption); first | exact h_ | (have e_ := (Kd.R_reads' HO_136001.out).1; omega) | simpa using h_)
       obtain rfl := k47_openM hM25
       have HP25 := Kd.R_seg HX25.out (x22_1 : Int) (of_decide_eq_true (by first | (with_reducible assumption) | assumption)) (by have h_ : (x22_1 : Int) < ((x136001_1.length : Int) : Int) := of_decide_eq_true (by first | (with_reducible assumption) | assumption); first | exact h_ | (have e_ := (Kd.R_reads' HO_136001.out).1; omega) | simpa using h_) (seg := [.int .i64 (wrap64 (Int.tdiv ((rd_T47 x136001_1 x22_1).f1) a1))]) (j := 1) hcl25 hcc25 (show 2 ≤ 2 from by decide) (x' := (⟨(rd_T47 x136001_1 x22_1).f0, wrap64 (Int.tdiv ((rd_T47 x136001_1 x22_1).f1) a1)⟩ : S47)) (k47_mkM _ _ _ (⟨(rd_T47 x136001_1 x22_1).f0, wrap64 (Int.tdiv ((rd_T47 x136001_1 x22_1).f1) a1)⟩ : S47) ) (fun _ hk => hk)
       have hx25_1 := hcc25 1 _ rfl
       (try simp only [show (k47).sz = 2 from rfl, Nat.mul_one, Nat.add_zero] at hx25_1)
       have hf25_1 := hfr25 1
       (try simp only [show (k47).sz = 2 from rfl, Nat.mul_one, Nat.add_zero] at hf25_1)
       clear hcl25 hcc25 hfr25 hM25
       go_wp2_with (first | ((with_reducible refine gate_store (t := 2) (p := 34) rfl ?_); refine store_event (t := 2) (p := 34) (v := ?vo_w26) (w1 := (wr.setCell ⟨go20, (x22_1 : Int).toNat * 2 + 1, none⟩ (.int .i64 (wrap64 (Int.tdiv ((rd_T47 x136001_1 x22_1).f1) a1))))) ?hg ?ho ?hn ?hr ?_; (case ho => rfl); (case hg => rfl); (case hn => rfl); (case hr => first | (go_simp; done) | (go_simp; rfl)); intro w26 hw; have hg : wr.grownBy w26 (some go20) := (by rw [hw]; exact HP25.2); have hp_ : Kd.R k47 47 w26 w.heap.size (fun _ => True) (.slice (some ⟨go20, 0, none⟩) x136001_1.length co24) y139 := (by rw [hw, Ny139.out]; exact HP25.1); clear HP25; replace BK130 := zK (blk_grown (g := gb130) (o := .cells #[.int .i64 a0_0, .slice A0_1 l0_1.length c0_1] 28 (0, 0)) (zb BK130) hg (Kd.R_ne HO_136001.out BK130.out (by decide))); replace BK131 := zK (blk_grown (g := gb131) (o := .cells #[.int .i64 0, .slice none 0 0] 28 (0, 0)) (zb BK131) hg (Kd.R_ne HO_136001.out BK131.out (by decide))); replace BK135 := zK (blk_grown (g := gb135) (o := .cells #[.int .i64 t136, .slice (some ⟨go20, 0, none⟩) x136001_1.length co24] 28 (0, 0)) (zb BK135) hg (Kd.R_ne HO_136001.out BK135.out (by decide))); replace HO_136001 := zK (hp_); replace HB := zK ((by rw [hw]; exact yS (HB.out) GB20.out : Below w.heap.size w w26)); clear hg hw hp_))
       go_roundg k1
       case measure => have := HK1.out; omega
       case rel => exact ⟨(wrap64 (x22_1 + 1)), (y139), (.slice (some ⟨go20, 0, none⟩) x136001_1.length co24), (by first | rfl | (simp; done) | (simp [*]; done)), H', ⟨by have := HK1.out; omega⟩, ⟨zr HO_136001⟩, ⟨zb BK130⟩, ⟨zb BK131⟩, ⟨zb BK135⟩, ⟨zo HB⟩⟩
     ·rw [if_neg c18] at H
      exact absurd H (by simp)
    ·rw [if_neg c17] at H
     exact absurd H (by simp)
   ·rw [if_neg c16] at H
    have c16b0 : decide (x22_1 < (t132.length : Int)) = false := decide_eq_false c16
    clear c16
    simp only [Option.some.injEq, Prod.mk.injEq] at H
    obtain ⟨rfl, rfl⟩ := H
    have hnb27 := NB135_130.out
    have hnc27 := NB130_135.out
    have hnb28 := NB135_131.out
    have hnc28 := NB131_135.out
    have hcz29_0 : wr.cell? ⟨gb135, 0, none⟩ = some (.int .i64 t136) := (blk_cell BK135.out 0).trans rfl
    have hcz29_1 : wr.cell? ⟨gb135, 1, none⟩ = some (u136001) := (blk_cell BK135.out 1).trans rfl
    have hfz29_0 := blk_frozen BK135.out 0
    have hfz29_1 := blk_frozen BK135.out 1
    have hnb30 := NB131_130.out
    have hnc30 := NB130_131.out
    have hcz31_0 : wr.cell? ⟨gb131, 0, none⟩ = some (.int .i64 0) := (blk_cell BK131.out 0).trans rfl
    have hcz31_1 : wr.cell? ⟨gb131, 1, none⟩ = some (.slice none 0 0) := (blk_cell BK131.out 1).trans rfl
    have hfz31_0 := blk_frozen BK131.out 0
    have hfz31_1 := blk_frozen BK131.out 1
    obtain ⟨Ao32, co32, eo32⟩ := Kd.R_slice HO_136001.out
    subst eo32
    go_wp2
    refine bodyPost_ret (results_cell_row rfl _ _ gb131 28 #[.int .i64 t136, .slice Ao32 x136001_1.length co32] (0, 0) _ rfl (by refine zM ?_; refine blk_put (cs := #[.int .i64 t136, .slice none 0 0]) ?_ 1 _ rfl; refine zM ?_; refine blk_put (cs := #[.int .i64 0, .slice none 0 0]) ?_ 0 _ rfl; refine zM ?_; exact BK131.out) Try.underlying28 rfl (by kernel_rfl)) rfl ?_
    exact ⟨_, by first | rfl | (simp [errW_none, errW_some] <;> rfl) | (simp [*, errW_none, errW_some] <;> rfl), by (with_reducible repeat (first | apply Kd.R_alloc | apply Kd.R_drewN | apply Kd.R_drew)); exact Kd.R_mono (Kd.R_far (p := ⟨gb131, 1, none⟩) (Kd.R_far (p := ⟨gb131, 0, none⟩) (Kd.R_types HO_136001.out BK131.out (by decide)) (fun _ hk => hk.2) (.int .i64 t136)) (fun _ hk => hk.2) (.slice Ao32 x136001_1.length co32)) (fun _ hk => trivial), zo HB⟩

end Go.Proofs.Ytmedciidghmkkaa.PIneqTurns
