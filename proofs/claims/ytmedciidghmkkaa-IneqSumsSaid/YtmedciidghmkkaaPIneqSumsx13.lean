/- What the call of each function that the law reaches comes to: it answers as the plain function of the same name does, wherever that one answers; and the law itself out of its plain form. Written by a program of this session (an extended copy of the printer); no condition but what stands in each theorem. -/
import Derived.Test.YtmedciidghmkkaaPIneqSumsx0
import Derived.Test.YtmedciidghmkkaaPIneqSumsx1
import Derived.Test.YtmedciidghmkkaaPIneqSumsx8
import Derived.Test.YtmedciidghmkkaaPIneqSumsx11
import Derived.Test.YtmedciidghmkkaaPIneqSumsx12
namespace Go.Proofs.Ytmedciidghmkkaa.PIneqSums
open Go.RowKit Go.Proofs.YtmedciidghmkkaaW.PrintWords Go.Proofs.YtmedciidghmkkaaW.PrintLast Go.Proofs.YtmedciidghmkkaaW.PrintMore
open Go.Proofs.YtmedciidghmkkaaW.PrintWords renaming blk_drewN → zN, blk_drew → zD, blk_alloc → zA, below_alloc → yA, pw_below_drewN → yN, below_drew1 → yD, below_set → yS, gate_callee → zC, gate_guard → zG
open Go.Proofs.YtmedciidghmkkaaW.PrintWords.Kd renaming V_alloc → vA, V_drewN → vN, V_drew → vD, N_alloc → nA, N_drewN → nN, N_drew → nD, C_alloc → cA, C_drewN → cN, C_drew → cD, V_mono → vM
open Go.Proofs.YtmedciidghmkkaaW.PrintWords.Aside0 renaming mk → zK
attribute [local go_sem] max2_int min2_int max_two min_two max_three min_three max_four min_four   -- for this text's walks alone
set_option linter.unusedVariables false
set_option linter.unusedSimpArgs false

attribute [local go_sem high] eqA47
/-! ### sequiturref28_Sum: function 12 -/
mutual
def sequiturref28_Sum.j0 : Nat → List (S30) → List Int → Int → Bool → Option (Int × (List (S47)) × Bool × Int)
 | 0, _, _, _, _ => none
 | k + 1, x0, x1, x2, x27 => if x27 = true then (some (0, ([] : List (S47)), false, 1)) else (sequiturref28_Sum.l0 k x0 x1 x2 ([] : List (S28)) (x2 == 1) 0)
def sequiturref28_Sum.l0 : Nat → List (S30) → List Int → Int → List (S28) → Bool → Int → Option (Int × (List (S47)) × Bool × Int)
 | 0, _, _, _, _, _, _ => none
 | k + 1, x0, x1, x2, x8, x9, x10 => if x10 < (x0.length : Int) then (if 0 ≤ x10 then ((sequiturref28_Form.f k ((rd_T30 x0 x10).f0.f0) ((rd_T30 x0 x10).f0.f1)).bind fun t344 => (if t344 = true then (if x10 < (x1.length : Int) then (if (rd x1 x10) < 0 then (if ((rd_T30 x0 x10).f1 = true) then (if x8.length < 4398046511104 then ((some (x8 ++ [(⟨(rd_T30 x0 x10).f0.f0, (rd_T30 x0 x10).f0.f1⟩ : S28)] : List (S28))).bind fun y348 => (if x9 = true then (sequiturref28_Sum.l0 k x0 x1 x2 y348 ((rd_T30 x0 x10).f1) (wrap64 (x10 + 1))) else (sequiturref28_Sum.l0 k x0 x1 x2 y348 false (wrap64 (x10 + 1))))) else (none)) else (some (0, ([] : List (S47)), false, 1))) else (if x8.length < 4398046511104 then ((some (x8 ++ [(⟨(rd_T30 x0 x10).f0.f0, (rd_T30 x0 x10).f0.f1⟩ : S28)] : List (S28))).bind fun y353 => (if x9 = true then (sequiturref28_Sum.l0 k x0 x1 x2 y353 ((rd_T30 x0 x10).f1) (wrap64 (x10 + 1))) else (sequiturref28_Sum.l0 k x0 x1 x2 y353 false (wrap64 (x10 + 1))))) else (none))) else (none)) else (some (0, ([] : List (S47)), false, 1)))) else (none)) else ((sequiturref28_Lin.f k x8 x1).bind fun bt357 => (if bt357.2.2 = 0 then (sequiturref28_Sum.l1 k x2 x9 0 bt357.1 bt357.2.1) else (some (0, ([] : List (S47)), false, bt357.2.2))))
def sequiturref28_Sum.l1 : Nat → Int → Bool → Int → Int → List (S47) → Option (Int × (List (S47)) × Bool × Int)
 | 0, _, _, _, _, _ => none
 | k + 1, x2, x9, x13, x363000, x363001 => if x13 < (x363001.length : Int) then (if 0 ≤ x13 then (if x2 = 0 then (none) else (if (Int.tmod ((rd_T47 x363001 x13).f1) x2) = 0 then (sequiturref28_Sum.l1 k x2 x9 (wrap64 (x13 + 1)) x363000 x363001) else (some (0, ([] : List (S47)), false, 30)))) else (none)) else ((sequiturref28_by.f k x363000 x363001 x2).bind fun bt364 => (some (bt364.1, bt364.2, x9, 0)))
end
def sequiturref28_Sum.f (k : Nat) (l0 : List (S30)) (l1 : List Int) (a2 : Int) : Option (Int × (List (S47)) × Bool × Int) := if (l0.length : Int) = (l1.length : Int) then (if (l0.length : Int) = 0 then (sequiturref28_Sum.j0 k l0 l1 a2 true) else (sequiturref28_Sum.j0 k l0 l1 a2 (decide (a2 < 1)))) else (sequiturref28_Sum.j0 k l0 l1 a2 true)
theorem sequiturref28_Sum.mono_l : ∀ k, (∀ y0 y1 y2 y3, LeO (sequiturref28_Sum.j0 k y0 y1 y2 y3) (sequiturref28_Sum.j0 (k + 1) y0 y1 y2 y3)) ∧ (∀ y0 y1 y2 y3 y4 y5, LeO (sequiturref28_Sum.l0 k y0 y1 y2 y3 y4 y5) (sequiturref28_Sum.l0 (k + 1) y0 y1 y2 y3 y4 y5)) ∧ (∀ y0 y1 y2 y3 y4, LeO (sequiturref28_Sum.l1 k y0 y1 y2 y3 y4) (sequiturref28_Sum.l1 (k + 1) y0 y1 y2 y3 y4))
 | 0 => ⟨fun _ _ _ _ r h => by simp [sequiturref28_Sum.j0] at h, fun _ _ _ _ _ _ r h => by simp [sequiturref28_Sum.l0] at h, fun _ _ _ _ _ r h => by simp [sequiturref28_Sum.l1] at h⟩
 | k + 1 => by
  obtain ⟨ih0, ih1, ih2⟩ := sequiturref28_Sum.mono_l k
  refine ⟨?_, ?_, ?_⟩
  ·intro y0 y1 y2 y3
   unfold sequiturref28_Sum.j0
   repeat' first
   | (with_reducible exact ih0 _ _ _ _)
   | (with_reducible exact ih1 _ _ _ _ _ _)
   | (with_reducible exact ih2 _ _ _ _ _)
   | (with_reducible exact sequiturref28_Form.mono _ _ _)
   | (with_reducible exact sequiturref28_Lin.mono _ _ _)
   | (with_reducible exact sequiturref28_by.mono _ _ _ _)
   | (with_reducible exact LeO.refl _)
   | (with_reducible exact LeO.none _)
   | (with_reducible refine LeO.ite ?_ ?_)
   | (with_reducible refine LeO.bind ?_ (fun _ => ?_))
   | exact ih0 _ _ _ _
   | exact ih1 _ _ _ _ _ _
   | exact ih2 _ _ _ _ _
   | exact sequiturref28_Form.mono _ _ _
   | exact sequiturref28_Lin.mono _ _ _
   | exact sequiturref28_by.mono _ _ _ _
   | exact LeO.none _
   | refine LeO.ite ?_ ?_
   | refine LeO.bind ?_ (fun _ => ?_)
  ·intro y0 y1 y2 y3 y4 y5
   unfold sequiturref28_Sum.l0
   repeat' first
   | (with_reducible exact ih0 _ _ _ _)
   | (with_reducible exact ih1 _ _ _ _ _ _)
   | (with_reducible exact ih2 _ _ _ _ _)
   | (with_reducible exact sequiturref28_Form.mono _ _ _)
   | (with_reducible exact sequiturref28_Lin.mono _ _ _)
   | (with_reducible exact sequiturref28_by.mono _ _ _ _)
   | (with_reducible exact LeO.refl _)
   | (with_reducible exact LeO.none _)
   | (with_reducible refine LeO.ite ?_ ?_)
   | (with_reducible refine LeO.bind ?_ (fun _ => ?_))
   | exact ih0 _ _ _ _
   | exact ih1 _ _ _ _ _ _
   | exact ih2 _ _ _ _ _
   | exact sequiturref28_Form.mono _ _ _
   | exact sequiturref28_Lin.mono _ _ _
   | exact sequiturref28_by.mono _ _ _ _
   | exact LeO.none _
   | refine LeO.ite ?_ ?_
   | refine LeO.bind ?_ (fun _ => ?_)
  ·intro y0 y1 y2 y3 y4
   unfold sequiturref28_Sum.l1
   repeat' first
   | (with_reducible exact ih0 _ _ _ _)
   | (with_reducible exact ih1 _ _ _ _ _ _)
   | (with_reducible exact ih2 _ _ _ _ _)
   | (with_reducible exact sequiturref28_Form.mono _ _ _)
   | (with_reducible exact sequiturref28_Lin.mono _ _ _)
   | (with_reducible exact sequiturref28_by.mono _ _ _ _)
   | (with_reducible exact LeO.refl _)
   | (with_reducible exact LeO.none _)
   | (with_reducible refine LeO.ite ?_ ?_)
   | (with_reducible refine LeO.bind ?_ (fun _ => ?_))
   | exact ih0 _ _ _ _
   | exact ih1 _ _ _ _ _ _
   | exact ih2 _ _ _ _ _
   | exact sequiturref28_Form.mono _ _ _
   | exact sequiturref28_Lin.mono _ _ _
   | exact sequiturref28_by.mono _ _ _ _
   | exact LeO.none _
   | refine LeO.ite ?_ ?_
   | refine LeO.bind ?_ (fun _ => ?_)
theorem sequiturref28_Sum.mono : ∀ a0 a1 a2 k, LeO (sequiturref28_Sum.f k a0 a1 a2) (sequiturref28_Sum.f (k + 1) a0 a1 a2) := by
 intro a0 a1 a2 k
 obtain ⟨ih0, ih1, ih2⟩ := sequiturref28_Sum.mono_l k
 unfold sequiturref28_Sum.f
 repeat' first
   | (with_reducible exact ih0 _ _ _ _)
   | (with_reducible exact ih1 _ _ _ _ _ _)
   | (with_reducible exact ih2 _ _ _ _ _)
   | (with_reducible exact sequiturref28_Form.mono _ _ _)
   | (with_reducible exact sequiturref28_Lin.mono _ _ _)
   | (with_reducible exact sequiturref28_by.mono _ _ _ _)
   | (with_reducible exact LeO.refl _)
   | (with_reducible exact LeO.none _)
   | (with_reducible refine LeO.ite ?_ ?_)
   | (with_reducible refine LeO.bind ?_ (fun _ => ?_))
   | exact ih0 _ _ _ _
   | exact ih1 _ _ _ _ _ _
   | exact ih2 _ _ _ _ _
   | exact sequiturref28_Form.mono _ _ _
   | exact sequiturref28_Lin.mono _ _ _
   | exact sequiturref28_by.mono _ _ _ _
   | exact LeO.none _
   | refine LeO.ite ?_ ?_
   | refine LeO.bind ?_ (fun _ => ?_)
set_option maxHeartbeats 8000000 in
set_option maxRecDepth 100000 in
theorem sequiturref28_Sum.calls (k : Nat) (P0_ : Nat → Prop) (A0 : Option Addr) (c0 : Nat) (l0 : List (S30)) (A1 : Option Addr) (c1 : Nat) (l1 : List Int) (a2 : Int) (r1 : Int) (r2 : List (S47)) (r3 : Bool) (r4 : Int) (w : World) (hs0 : Kd.V k30 30 w w.heap.size (fun k_ => P0_ k_) (.slice A0 l0.length c0) l0) (hr1 : Kd.C (Kd.int .i64) w A1 l1.length l1) (hc1 : l1.length ≤ c1) (h : sequiturref28_Sum.f k l0 l1 a2 = some (r1, r2, r3, r4)) :
  Calls Try.prog 12 #[.slice A0 l0.length c0, .slice A1 l1.length c1, .int .i64 a2] w fun e w' => ∃ v1_ : Value, e = .returned (.tuple #[.agg #[.int .i64 r1, v1_, .bool r3], .int .i64 r4]) ∧ Kd.R k47 47 w' w.heap.size (fun k_ => (w.heap.size ≤ k_)) v1_ r2 ∧ Below w.heap.size w w' := by
 have hu30 := Try.underlying30
 have hu28 := Try.underlying28
 have HO0 := zK (show Kd.V k30 30 w w.heap.size (fun k_ => (P0_ k_ ∨ w.heap.size ≤ k_)) (.slice A0 l0.length c0) l0 from vM hs0 (fun k_ hk => .inl hk))
 have HR1 := zK hr1
 have HC1 := zK hc1
 clear hr1 hc1
 have HB := zK (Below.refl w.heap.size w)
 have H : (if (l0.length : Int) = (l1.length : Int) then (if (l0.length : Int) = 0 then (sequiturref28_Sum.j0 k l0 l1 a2 true) else (sequiturref28_Sum.j0 k l0 l1 a2 (decide (a2 < 1)))) else (sequiturref28_Sum.j0 k l0 l1 a2 true)) = some (r1, r2, r3, r4) := h
 clear h
 have HC4 := zK H
 clear H
 go_enter Try.func12, Try.ntmps12
 go_upto_region 1 with (first | ((with_reducible refine gate_dst (N := 6) rfl ?_); (try (refine zG (by rfl) ?_; dsimp only)); refine box_event ?hg (N := 6) ?hd (cs := #[.int .i64 0, .slice none 0 0, .bool false]) (t := 30) ?hr ?_; (case hd => rfl); (case hg => rfl); (case hr => first | (go_simp; done) | (go_simp; rfl)); intro gb342 hg w5 hbox hb; have n0_ := zK (Kd.V_below (Kd.V_elderB (by (with_reducible repeat (first | apply vA | apply vN | apply vD)); exact HO0.out) gb342 (Nat.le_of_eq hg.symm)) hb); have n1_ := zK (below_step (by repeat (first | (with_reducible first | exact HB.out | apply yA | apply yN | apply yD) | exact HB.out)) hb); have n2_ := zK (hbox); have n3_ := zK ((by rw [hg]; exact (below_size (by repeat (first | (with_reducible first | exact HB.out | apply yA | apply yN | apply yD) | exact HB.out))) : w.heap.size ≤ gb342)); have n4_ := zK ((by rw [hg]; exact (below_size (by repeat (first | (with_reducible first | exact HB.out | apply yA | apply yN | apply yD) | exact HB.out))) : w.heap.size ≤ gb342)); clear HO0; clear HB; have HO0 := n0_; have HB := n1_; have BK342 := n2_; have GW342 := n3_; have GE342 := n4_; clear n0_ n1_ n2_ n3_ n4_; clear hb hbox hg))
 (try simp only [Act.put, List.setIfInBounds_toArray, List.set_cons_zero, List.set_cons_succ])
 go_cut [27] (fun v27 wc => ∃ (kq : Nat) (x27_3 : Bool), v27 = .bool x27_3 ∧ Aside0 (sequiturref28_Sum.j0 kq l0 l1 a2 x27_3 = some (r1, r2, r3, r4)) ∧ Aside0 (kq ≤ k) ∧ Aside0 (Kd.V k30 30 wc w.heap.size (fun k_ => (P0_ k_ ∨ w.heap.size ≤ k_) ∧ k_ ≠ gb342) (.slice A0 l0.length c0) l0) ∧ Aside0 (wc.heap[gb342]? = some (.cells #[.int .i64 0, (.slice none 0 0), .bool false] 30 (0, 0))) ∧ Aside0 (Below w.heap.size w wc))
 case first =>
  have H := HC4.out
  clear HC4
  by_cases c6 : (l0.length : Int) = (l1.length : Int)
  ·rw [if_pos c6] at H
   have c6b0 : ((l0.length : Int) == (l1.length : Int)) = true := beq_iff_eq.mpr c6
   have c6b1 : ((l0.length : Int) != (l1.length : Int)) = false := bne_eq_false_iff_eq.mpr c6
   have c6b2 : (l0.length == l1.length) = true := by first | simpa using c6 | (simp at c6 ⊢; omega)
   clear c6
   (first | rw [c6b0] | (simp only [i64_w, i32_w]; rw [c6b0]) | skip)
   by_cases c7 : (l0.length : Int) = 0
   ·rw [if_pos c7] at H
    have c7b0 : ((l0.length : Int) == 0) = true := beq_iff_eq.mpr c7
    have c7b1 : ((l0.length : Int) != 0) = false := bne_eq_false_iff_eq.mpr c7
    clear c7
    have H' := zK H
    clear H
    go_wp2
    go_meet
    case rel => exact ⟨_, (true), (by first | rfl | (simp; done) | (simp [*]; done)), H', ⟨by first | omega | exact Nat.le_refl _⟩, ⟨by (with_reducible repeat (first | apply vA | apply vN | apply vD)); exact HO0.out⟩, ⟨by (with_reducible repeat (first | refine zN ?_ _ | refine zD ?_ | refine zA ?_ _)); exact BK342.out⟩, ⟨by repeat (first | (with_reducible first | exact HB.out | apply yA | apply yN | apply yD | refine yS ?_ GE342.out) | exact HB.out)⟩⟩
   ·rw [if_neg c7] at H
    have c7b0 : ((l0.length : Int) == 0) = false := beq_eq_false_iff_ne.mpr c7
    have c7b1 : ((l0.length : Int) != 0) = true := bne_iff_ne.mpr c7
    have c7b2 : ¬ (l0 = []) := fun h_ => c7 (by rw [h_]; rfl)
    have H' := zK H
    clear H
    go_wp2
    go_meet
    case rel => exact ⟨_, (decide (a2 < 1)), (by first | rfl | (simp; done) | (simp [*]; done)), H', ⟨by first | omega | exact Nat.le_refl _⟩, ⟨by (with_reducible repeat (first | apply vA | apply vN | apply vD)); exact HO0.out⟩, ⟨by (with_reducible repeat (first | refine zN ?_ _ | refine zD ?_ | refine zA ?_ _)); exact BK342.out⟩, ⟨by repeat (first | (with_reducible first | exact HB.out | apply yA | apply yN | apply yD | refine yS ?_ GE342.out) | exact HB.out)⟩⟩
  ·rw [if_neg c6] at H
   have c6b0 : ((l0.length : Int) == (l1.length : Int)) = false := beq_eq_false_iff_ne.mpr c6
   have c6b1 : ((l0.length : Int) != (l1.length : Int)) = true := bne_iff_ne.mpr c6
   have c6b2 : (l0.length == l1.length) = false := by first | simpa using c6 | (simp at c6 ⊢; omega)
   (first | rw [c6b0] | (simp only [i64_w, i32_w]; rw [c6b0]) | skip)
   have H' := zK H
   clear H
   go_wp2
   go_meet
   case rel => exact ⟨_, (true), (by first | rfl | (simp; done) | (simp [*]; done)), H', ⟨by first | omega | exact Nat.le_refl _⟩, ⟨by (with_reducible repeat (first | apply vA | apply vN | apply vD)); exact HO0.out⟩, ⟨by (with_reducible repeat (first | refine zN ?_ _ | refine zD ?_ | refine zA ?_ _)); exact BK342.out⟩, ⟨by repeat (first | (with_reducible first | exact HB.out | apply yA | apply yN | apply yD | refine yS ?_ GE342.out) | exact HB.out)⟩⟩
 case rest =>
  clear HC4
  try clear c1
  try clear p2
  try clear c6
  try clear c6b0
  try clear c6b1
  try clear c6b2
  try clear c7
  try clear c7b0
  try clear c7b1
  try clear c7b2
  obtain ⟨kq, x27_3, rfl, HA, HJ3, HO_0, BK342, HB⟩ := hcut
  cases kq with
  | zero => exact absurd HA.out (by simp [sequiturref28_Sum.j0])
  | succ kj3 =>
   have H := HA.out
   clear HA
   simp only [sequiturref28_Sum.j0] at H
   by_cases c8 : x27_3 = true
   ·subst c8
    have H1 : (some (0, ([] : List (S47)), false, 1)) = some (r1, r2, r3, r4) := by rw [if_pos rfl] at H; exact H
    clear H
    have H := H1
    clear H1
    simp only [Option.some.injEq, Prod.mk.injEq] at H
    obtain ⟨rfl, rfl, rfl, rfl⟩ := H
    have hcz9_0 : wc.cell? ⟨gb342, 0, none⟩ = some (.int .i64 0) := (blk_cell BK342.out 0).trans rfl
    have hcz9_1 : wc.cell? ⟨gb342, 1, none⟩ = some (.slice none 0 0) := (blk_cell BK342.out 1).trans rfl
    have hcz9_2 : wc.cell? ⟨gb342, 2, none⟩ = some (.bool false) := (blk_cell BK342.out 2).trans rfl
    have hfz9_0 := blk_frozen BK342.out 0
    have hfz9_1 := blk_frozen BK342.out 1
    have hfz9_2 := blk_frozen BK342.out 2
    go_wp2
    refine bodyPost_ret (results_ct rfl _ _ gb342 30 #[.int .i64 0, .slice none 0 0, .bool false] (0, 0) _ rfl (by (with_reducible repeat (first | refine zN ?_ _ | refine zD ?_ | refine zA ?_ _)); refine blk_put (cs := #[.int .i64 0, .slice none 0 0, .bool false]) ?_ 2 _ rfl; (with_reducible repeat (first | refine zN ?_ _ | refine zD ?_ | refine zA ?_ _)); refine blk_put (cs := #[.int .i64 0, .slice none 0 0, .bool false]) ?_ 1 _ rfl; (with_reducible repeat (first | refine zN ?_ _ | refine zD ?_ | refine zA ?_ _)); refine blk_put (cs := #[.int .i64 0, .slice none 0 0, .bool false]) ?_ 0 _ rfl; (with_reducible repeat (first | refine zN ?_ _ | refine zD ?_ | refine zA ?_ _)); exact BK342.out) Try.underlying30 rfl (by kernel_rfl)) rfl ?_
    exact ⟨_, by first | rfl | (simp [errW_none, errW_some] <;> rfl) | (simp [*, errW_none, errW_some] <;> rfl), by first | exact Kd.R_nil _ _ _ _ _ | exact Kd.N_nil _ _ _ _ _ | exact Kd.V_nil _ _ _ _ _ | exact Kd.Q_nil _ _ _ _ _ | exact Kd.S_nil _ _ _ _ _, by repeat (first | (with_reducible first | exact HB.out | apply yA | apply yN | apply yD | refine yS ?_ GE342.out) | exact HB.out)⟩
   ·replace c8 := Bool.eq_false_iff.mpr c8
    subst c8
    have H1 : (sequiturref28_Sum.l0 kj3 l0 l1 a2 ([] : List (S28)) (a2 == 1) 0) = some (r1, r2, r3, r4) := by rw [if_neg (show ¬ (false = true) by decide)] at H; exact H
    clear H
    have H := H1
    clear H1
    have H' := zK H
    clear H
    go_wp2
    go_loopg [8, 9, 10] kj3 (fun kq v8 v9 v10 w' => ∃ (x8_2 : List (S28)) (x9_2 : Bool) (x10_2 : Int) (x343000_2 : Int) (x343002_2 : Bool), v9 = .bool x9_2 ∧ v10 = .int .i64 x10_2 ∧ Aside0 (sequiturref28_Sum.l0 kq l0 l1 a2 x8_2 x9_2 x10_2 = some (r1, r2, r3, r4)) ∧ Aside0 (kq ≤ kj3) ∧ Aside0 (Kd.V k30 30 w' w.heap.size (fun k_ => (P0_ k_ ∨ w.heap.size ≤ k_) ∧ some k_ ≠ (v8 : Value).ownBlock ∧ k_ ≠ gb342) (.slice A0 l0.length c0) l0) ∧ Aside0 (Kd.N k28 28 w' w.heap.size (fun k_ => (P0_ k_ ∨ w.heap.size ≤ k_) ∧ k_ ≠ gb342) v8 x8_2) ∧ Aside0 (w'.heap[gb342]? = some (.cells #[.int .i64 x343000_2, (.slice none 0 0), .bool x343002_2] 30 (0, 0))) ∧ Aside0 (Below w.heap.size w w'))
    case atStart => exact ⟨(([] : List (S28))), ((a2 == 1)), (0), (0), (false), (by first | rfl | (simp; done) | (simp [*]; done)), (by first | rfl | (simp; done) | (simp [*]; done)), H', ⟨Nat.le_refl _⟩, ⟨by (with_reducible repeat (first | apply vA | apply vN | apply vD)); exact vM HO_0.out (fun _ hk => ⟨hk.1, ⟨(by simp [Value.ownBlock]), hk.2⟩⟩)⟩, ⟨by first | exact Kd.S_nil _ _ _ _ _ | exact Kd.N_nil _ _ _ _ _ | exact Kd.V_nil _ _ _ _ _ | exact Kd.Q_nil _ _ _ _ _ | exact Kd.R_nil _ _ _ _ _⟩, ⟨by (with_reducible repeat (first | refine zN ?_ _ | refine zD ?_ | refine zA ?_ _)); exact BK342.out⟩, ⟨by repeat (first | (with_reducible first | exact HB.out | apply yA | apply yN | apply yD | refine yS ?_ GE342.out) | exact HB.out)⟩⟩
    case round =>
     clear H'
     try clear c1
     try clear p2
     try clear c6
     try clear c6b0
     try clear c6b1
     try clear c6b2
     try clear c7
     try clear c7b0
     try clear c7b1
     try clear c7b2
     try clear c8
     try clear hcz9_0
     try clear hcz9_1
     try clear hcz9_2
     try clear hfz9_0
     try clear hfz9_1
     try clear hfz9_2
     try clear p2
     obtain ⟨x8_2, x9_2, x10_2, x343000_2, x343002_2, rfl, rfl, HA, HK2, HO_0, HO_8, BK342, HB⟩ := hrel
     cases gk with
     | zero => exact absurd HA.out (by simp [sequiturref28_Sum.l0])
     | succ k2 =>
      have H := HA.out
      clear HA
      simp only [sequiturref28_Sum.l0] at H
      by_cases c10 : x10_2 < (l0.length : Int)
      ·rw [if_pos c10] at H
       have c10b0 : decide (x10_2 < (l0.length : Int)) = true := decide_eq_true c10
       clear c10
       by_cases c11 : 0 ≤ x10_2
       ·rw [if_pos c11] at H
        have c11b0 : decide (0 ≤ x10_2) = true := decide_eq_true c11
        clear c11
        replace H := Option.bind_eq_some_iff.mp H
        obtain ⟨t344, A120, H⟩ := H
        replace H : (if t344 = true then (if x10_2 < (l1.length : Int) then (if (rd l1 x10_2) < 0 then (if ((rd_T30 l0 x10_2).f1 = true) then (if x8_2.length < 4398046511104 then ((some (x8_2 ++ [(⟨(rd_T30 l0 x10_2).f0.f0, (rd_T30 l0 x10_2).f0.f1⟩ : S28)] : List (S28))).bind fun y348 => (if x9_2 = true then (sequiturref28_Sum.l0 k2 l0 l1 a2 y348 ((rd_T30 l0 x10_2).f1) (wrap64 (x10_2 + 1))) else (sequiturref28_Sum.l0 k2 l0 l1 a2 y348 false (wrap64 (x10_2 + 1))))) else (none)) else (some (0, ([] : List (S47)), false, 1))) else (if x8_2.length < 4398046511104 then ((some (x8_2 ++ [(⟨(rd_T30 l0 x10_2).f0.f0, (rd_T30 l0 x10_2).f0.f1⟩ : S28)] : List (S28))).bind fun y353 => (if x9_2 = true then (sequiturref28_Sum.l0 k2 l0 l1 a2 y353 ((rd_T30 l0 x10_2).f1) (wrap64 (x10_2 + 1))) else (sequiturref28_Sum.l0 k2 l0 l1 a2 y353 false (wrap64 (x10_2 + 1))))) else (none))) else (none)) else (some (0, ([] : List (S47)), false, 1))) = some (r1, r2, r3, r4) := H
        have A12 := zK A120
        clear A120
        by_cases c13 : t344 = true
        ·subst c13
         have H1 : (if x10_2 < (l1.length : Int) then (if (rd l1 x10_2) < 0 then (if ((rd_T30 l0 x10_2).f1 = true) then (if x8_2.length < 4398046511104 then ((some (x8_2 ++ [(⟨(rd_T30 l0 x10_2).f0.f0, (rd_T30 l0 x10_2).f0.f1⟩ : S28)] : List (S28))).bind fun y348 => (if x9_2 = true then (sequiturref28_Sum.l0 k2 l0 l1 a2 y348 ((rd_T30 l0 x10_2).f1) (wrap64 (x10_2 + 1))) else (sequiturref28_Sum.l0 k2 l0 l1 a2 y348 false (wrap64 (x10_2 + 1))))) else (none)) else (some (0, ([] : List (S47)), false, 1))) else (if x8_2.length < 4398046511104 then ((some (x8_2 ++ [(⟨(rd_T30 l0 x10_2).f0.f0, (rd_T30 l0 x10_2).f0.f1⟩ : S28)] : List (S28))).bind fun y353 => (if x9_2 = true then (sequiturref28_Sum.l0 k2 l0 l1 a2 y353 ((rd_T30 l0 x10_2).f1) (wrap64 (x10_2 + 1))) else (sequiturref28_Sum.l0 k2 l0 l1 a2 y353 false (wrap64 (x10_2 + 1))))) else (none))) else (none)) = some (r1, r2, r3, r4) := by rw [if_pos rfl] at H; exact H
         clear H
         have H := H1
         clear H1
         by_cases c14 : x10_2 < (l1.length : Int)
         ·rw [if_pos c14] at H
          have c14b0 : decide (x10_2 < (l1.length : Int)) = true := decide_eq_true c14
          clear c14
          by_cases c15 : (rd l1 x10_2) < 0
          ·rw [if_pos c15] at H
           have c15b0 : decide ((rd l1 x10_2) < 0) = true := decide_eq_true c15
           clear c15
           obtain ⟨bq16, hbq16⟩ : ∃ b_ : Bool, b_ = ((rd_T30 l0 x10_2).f1) := ⟨_, rfl⟩
           replace H : (if (bq16 = true) then (if x8_2.length < 4398046511104 then ((some (x8_2 ++ [(⟨(rd_T30 l0 x10_2).f0.f0, (rd_T30 l0 x10_2).f0.f1⟩ : S28)] : List (S28))).bind fun y348 => (if x9_2 = true then (sequiturref28_Sum.l0 k2 l0 l1 a2 y348 bq16 (wrap64 (x10_2 + 1))) else (sequiturref28_Sum.l0 k2 l0 l1 a2 y348 false (wrap64 (x10_2 + 1))))) else (none)) else (some (0, ([] : List (S47)), false, 1))) = some (r1, r2, r3, r4) := by rw [← hbq16] at H; exact H
           have Nbq16 := zK hbq16
           clear hbq16
           by_cases c17 : (bq16 = true)
           ·subst c17
            have H1 : (if x8_2.length < 4398046511104 then ((some (x8_2 ++ [(⟨(rd_T30 l0 x10_2).f0.f0, (rd_T30 l0 x10_2).f0.f1⟩ : S28)] : List (S28))).bind fun y348 => (if x9_2 = true then (sequiturref28_Sum.l0 k2 l0 l1 a2 y348 true (wrap64 (x10_2 + 1))) else (sequiturref28_Sum.l0 k2 l0 l1 a2 y348 false (wrap64 (x10_2 + 1))))) else (none)) = some (r1, r2, r3, r4) := by rw [if_pos rfl] at H; exact H
            clear H
            have H := H1
            clear H1
            by_cases c18 : x8_2.length < 4398046511104
            ·rw [if_pos c18] at H
             have LMc18 := zK c18
             clear c18
             obtain ⟨y348, hy348⟩ : ∃ y_ : List (S28), y_ = (x8_2 ++ [(⟨(rd_T30 l0 x10_2).f0.f0, (rd_T30 l0 x10_2).f0.f1⟩ : S28)]) := ⟨_, rfl⟩
             replace H : (if x9_2 = true then (sequiturref28_Sum.l0 k2 l0 l1 a2 y348 true (wrap64 (x10_2 + 1))) else (sequiturref28_Sum.l0 k2 l0 l1 a2 y348 false (wrap64 (x10_2 + 1)))) = some (r1, r2, r3, r4) := by first | (rw [hy348]; with_reducible exact H) | (have H2_ := (Option.bind_some _ _).symm.trans H; rw [hy348]; with_reducible exact H2_) | (have H2_ := (Option.bind_some _ _).symm.trans H; with_reducible exact H2_) | with_reducible exact H | (rw [hy348]; exact H) | exact H
             have Ny348 := zK hy348
             clear hy348
             by_cases c19 : x9_2 = true
             ·subst c19
              have H1 : (sequiturref28_Sum.l0 k2 l0 l1 a2 y348 true (wrap64 (x10_2 + 1))) = some (r1, r2, r3, r4) := by rw [if_pos rfl] at H; exact H
              clear H
              have H := H1
              clear H1
              have H' := zK H
              clear H
              have p343 : 0 ≤ (x10_2 : Int) := of_decide_eq_true (by first | (with_reducible assumption) | assumption)
              have q343 : x10_2 < (l0.length : Int) := of_decide_eq_true (by first | (with_reducible assumption) | assumption)
              obtain ⟨ad343, A343_1, c343_1, e343, hx343_0, hx343_1, hx343_2, hl343_1, hi343_1⟩ := at_T30 (Kd.V_reads' HO_0.out).2.2 x10_2 p343 q343
              (try rw [← Nbq16.out] at hx343_2)
              (try rw [← Nbq16.out] at A12)
              cases e343
              obtain ⟨ce343, hce343, hMe343, hcc343⟩ := Kd.V_get HO_0.out z30 x10_2 p343 (by first | exact q343 | exact of_decide_eq_true (by first | (with_reducible assumption) | assumption) | (have e_ := (Kd.V_reads' HO_0.out).1; omega))
              obtain ⟨ua343_1, uc343_1, rfl, ul343_1, ge343_1⟩ := k30_openF hMe343
              have hv343_1 := hcc343 1 _ rfl
              rw [add_field _ _ 1 (by omega)] at hv343_1
              replace hv343_1 := Option.some.inj (hv343_1.symm.trans hx343_1)
              injection hv343_1 with hva_ hvn_ hvc_
              rw [hva_] at ge343_1
              rw [hvc_] at ul343_1
              have HL343_1 := zK (show Kd.V k47 47 _ w.heap.size _ _ ((rd_T30 l0 x10_2).f0.f1) from Kd.V_mk ul343_1 ge343_1)
              clear hva_ hvn_ hvc_ ge343_1 ul343_1
              clear hcc343 hce343
              have HR343_1 := zK hi343_1
              have HC343_1 := zK hl343_1
              clear hi343_1 hl343_1
              replace p343 := eq_true p343
              replace q343 := eq_true q343
              go_wp2_with (first | ((with_reducible refine zC (f := 17) rfl ?_); refine goesL_ (some 42) rfl rfl Try.func17 (by kernel_rfl) rfl #[.agg #[.int .i64 ((rd_T30 l0 x10_2).f0.f0), .slice A343_1 ((rd_T30 l0 x10_2).f0.f1).length c343_1]] rfl (by (try simp only [List.map_toArray, List.map_cons, List.map_nil]); first | done | rfl | (simp only [List.length_drop, List.length_take]; rfl)) ?_; (with_reducible refine (sequiturref28_Form.calls k2 ((rd_T30 l0 x10_2).f0.f0) _ _ ((rd_T30 l0 x10_2).f0.f1) true _ ?side1 ?side2 A12.out).mono ?_); (case side1 => repeat (first | exact (by repeat (first | (with_reducible exact HR343_1.out) | (with_reducible refine cA ?_ _) | (with_reducible refine cN ?_ _) | (with_reducible refine cD ?_) | exact HR343_1.out)) | (with_reducible refine cA ?_ _) | (with_reducible refine cN ?_ _) | (with_reducible refine cD ?_))); (case side2 => exact HC343_1.out); rintro e w20 ⟨rfl, hb⟩; refine ⟨_, rfl, ?_⟩; have n0_ := zK (Kd.V_below (by (with_reducible repeat (first | apply vA | apply vN | apply vD)); exact HO_0.out) hb); have n1_ := zK (Kd.N_below (by (with_reducible repeat (first | apply nA | apply nN | apply nD)); exact HO_8.out) hb); have n2_ := zK (Kd.V_below (by (with_reducible repeat (first | apply vA | apply vN | apply vD)); exact HL343_1.out) hb); have n3_ := zK (blk_below (g := gb342) (o := .cells #[.int .i64 x343000_2, .slice none 0 0, .bool x343002_2] 30 (0, 0)) (by (with_reducible repeat (first | refine zN ?_ _ | refine zD ?_ | refine zA ?_ _)); exact BK342.out) hb); have n4_ := zK (Kd.C_below (by repeat (first | (with_reducible exact HR343_1.out) | (with_reducible refine cA ?_ _) | (with_reducible refine cN ?_ _) | (with_reducible refine cD ?_) | exact HR343_1.out)) hb); have n5_ := zK (below_step (by repeat (first | (with_reducible first | exact HB.out | apply yA | apply yN | apply yD | refine yS ?_ GE342.out) | exact HB.out)) hb); clear HO_0; clear HO_8; clear HL343_1; clear BK342; clear HR343_1; clear HB; have HO_0 := n0_; have HO_8 := n1_; have HL343_1 := n2_; have BK342 := n3_; have HR343_1 := n4_; have HB := n5_; clear n0_ n1_ n2_ n3_ n4_ n5_; (try clear hb); (try clear hb2); (try clear hk); (try clear hi); have p345 : 0 ≤ (x10_2 : Int) := of_decide_eq_true (by first | (with_reducible assumption) | assumption); have q345 : x10_2 < (l1.length : Int) := of_decide_eq_true (by first | (with_reducible assumption) | assumption); obtain ⟨ad345, e345, hx345_0⟩ := Kd.at_int HR1.out x10_2 p345 q345; cases e345; replace hx345_0 := (HB.out.cell (World.block_lt_of_cell? w _ hx345_0)).trans hx345_0; replace p345 := eq_true p345; replace q345 := eq_true q345; have p346 : 0 ≤ (x10_2 : Int) := of_decide_eq_true (by first | (with_reducible assumption) | assumption); have q346 : x10_2 < (l0.length : Int) := of_decide_eq_true (by first | (with_reducible assumption) | assumption); obtain ⟨ad346, A346_1, c346_1, e346, hx346_0, hx346_1, hx346_2, hl346_1, hi346_1⟩ := at_T30 (Kd.V_reads' HO_0.out).2.2 x10_2 p346 q346; (try rw [← Nbq16.out] at hx346_2); obtain rfl : ad343 = ad346 := (by injection e346); obtain ⟨ce346, hce346, hMe346, hcc346⟩ := Kd.V_get HO_0.out z30 x10_2 p346 (by first | exact q346 | exact of_decide_eq_true (by first | (with_reducible assumption) | assumption) | (have e_ := (Kd.V_reads' HO_0.out).1; omega)); obtain ⟨ua346_1, uc346_1, rfl, ul346_1, ge346_1⟩ := k30_openF hMe346; have hv346_1 := hcc346 1 _ rfl; rw [add_field _ _ 1 (by omega)] at hv346_1; replace hv346_1 := Option.some.inj (hv346_1.symm.trans hx346_1); injection hv346_1 with hva_ hvn_ hvc_; rw [hva_] at ge346_1; rw [hvc_] at ul346_1; have HL346_1 := zK (show Kd.V k47 47 _ w.heap.size _ _ ((rd_T30 l0 x10_2).f0.f1) from Kd.V_mk ul346_1 ge346_1); clear hva_ hvn_ hvc_ ge346_1 ul346_1; clear hcc346 hce346; have HR346_1 := zK hi346_1; have HC346_1 := zK hl346_1; clear hi346_1 hl346_1; replace p346 := eq_true p346; replace q346 := eq_true q346; have p347 : 0 ≤ (x10_2 : Int) := of_decide_eq_true (by first | (with_reducible assumption) | assumption); have q347 : x10_2 < (l0.length : Int) := of_decide_eq_true (by first | (with_reducible assumption) | assumption); obtain ⟨ad347, A347_1, c347_1, e347, hx347_0, hx347_1, hx347_2, hl347_1, hi347_1⟩ := at_T30 (Kd.V_reads' HO_0.out).2.2 x10_2 p347 q347; (try rw [← Nbq16.out] at hx347_2); obtain rfl : ad343 = ad347 := (by injection e347); obtain ⟨ce347, hce347, hMe347, hcc347⟩ := Kd.V_get HO_0.out z30 x10_2 p347 (by first | exact q347 | exact of_decide_eq_true (by first | (with_reducible assumption) | assumption) | (have e_ := (Kd.V_reads' HO_0.out).1; omega)); obtain ⟨ua347_1, uc347_1, rfl, ul347_1, ge347_1⟩ := k30_openF hMe347; have hv347_1 := hcc347 1 _ rfl; rw [add_field _ _ 1 (by omega)] at hv347_1; replace hv347_1 := Option.some.inj (hv347_1.symm.trans hx347_1); injection hv347_1 with hva_ hvn_ hvc_; rw [hva_] at ge347_1; rw [hvc_] at ul347_1; have HL347_1 := zK (show Kd.V k47 47 _ w.heap.size _ _ ((rd_T30 l0 x10_2).f0.f1) from Kd.V_mk ul347_1 ge347_1); clear hva_ hvn_ hvc_ ge347_1 ul347_1; clear hcc347 hce347; have HR347_1 := zK hi347_1; have HC347_1 := zK hl347_1; clear hi347_1 hl347_1; replace p347 := eq_true p347; replace q347 := eq_true q347; have ea_ := Option.some.inj (hx346_1.symm.trans hx347_1); injection ea_ with ea_ en_ ec_; subst ea_; subst ec_; clear en_) | ((with_reducible refine gate_builtin (b := .append) (xs := #[.tmp 60, .tmp 66]) rfl ?_); (try (refine zG (by rfl) ?_; dsimp only)); at_builtin; refine Kd.N_append k28 (w0 := w) w.heap.size rfl (.tmp 60) (.tmp 66) 48 28 (.agg #[(.int .i64 0), (.slice none 0 0)]) 32 rfl Try.underlying48 info28 rfl (by decide) (by omega) u8 x8_2 (⟨(rd_T30 l0 x10_2).f0.f0, (rd_T30 l0 x10_2).f0.f1⟩ : S28) [.int .i64 ((rd_T30 l0 x10_2).f0.f0), .slice A346_1 ((rd_T30 l0 x10_2).f0.f1).length c346_1] (fun k_ => (P0_ k_ ∨ w.heap.size ≤ k_) ∧ k_ ≠ gb342) (fun k_ => ((fun k_ => (P0_ k_ ∨ w.heap.size ≤ k_) ∧ k_ ≠ gb342)) k_ ∧ some k_ ≠ (u8 : Value).ownBlock) rfl rfl ?aP (fun _ hk => hk) ?aF ?aO ?aB ?aS ?aL ?_; (case aP => exact (k28_mkF _ _ (⟨(rd_T30 l0 x10_2).f0.f0, (rd_T30 l0 x10_2).f0.f1⟩ : S28) (Kd.V_reads' (vM (ok' := (fun k_ => ((fun k_ => (P0_ k_ ∨ w.heap.size ≤ k_) ∧ k_ ≠ gb342)) k_ ∧ some k_ ≠ (u8 : Value).ownBlock)) (HL347_1.out) (fun k_ hk => ⟨⟨hk.1, hk.2.2⟩, hk.2.1⟩))).2.1 (Kd.V_F (vM (ok' := (fun k_ => ((fun k_ => (P0_ k_ ∨ w.heap.size ≤ k_) ∧ k_ ≠ gb342)) k_ ∧ some k_ ≠ (u8 : Value).ownBlock)) (HL347_1.out) (fun k_ hk => ⟨⟨hk.1, hk.2.2⟩, hk.2.1⟩))))); (case aB => exact (by repeat (first | (with_reducible first | exact HB.out | apply yA | apply yN | apply yD | refine yS ?_ GE342.out) | exact HB.out))); (case aF => exact (fun k_ hk => ⟨(.inr (Nat.le_trans (below_size (by repeat (first | (with_reducible first | exact HB.out | apply yA | apply yN | apply yD | refine yS ?_ GE342.out) | exact HB.out))) hk)), Kd.freshB (g := gb342) (o := .cells #[.int .i64 x343000_2, .slice none 0 0, .bool x343002_2] 30 (0, 0)) (by (with_reducible repeat (first | refine zN ?_ _ | refine zD ?_ | refine zA ?_ _)); exact BK342.out) k_ hk⟩)); (case aO => exact (by (with_reducible repeat (first | apply nA | apply nN | apply nD)); exact HO_8.out)); (case aS => exact (below_size (by repeat (first | (with_reducible first | exact HB.out | apply yA | apply yN | apply yD | refine yS ?_ GE342.out) | exact HB.out)))); (case aL => have := LMc18.out; omega); intro v349 w21 ho hb hg hat; rw [← Ny348.out] at ho; have n0_ := zK (Kd.V_afterv (ok := (fun k_ => (P0_ k_ ∨ w.heap.size ≤ k_) ∧ k_ ≠ gb342)) (by (with_reducible repeat (first | apply vA | apply vN | apply vD)); exact vM HO_0.out (fun _ hk => ⟨⟨hk.1, hk.2.2⟩, hk.2.1⟩)) hg hat); have n1_ := zK (blk_grown (g := gb342) (o := .cells #[.int .i64 x343000_2, .slice none 0 0, .bool x343002_2] 30 (0, 0)) (by (with_reducible repeat (first | refine zN ?_ _ | refine zD ?_ | refine zA ?_ _)); exact BK342.out) hg (Kd.N_ne HO_8.out BK342.out (by decide))); have n2_ := zK (Kd.V_afterv (ok := (fun k_ => (P0_ k_ ∨ w.heap.size ≤ k_) ∧ k_ ≠ gb342)) (by (with_reducible repeat (first | apply vA | apply vN | apply vD)); exact vM HL343_1.out (fun _ hk => ⟨⟨hk.1, hk.2.2⟩, hk.2.1⟩)) hg hat); have n3_ := zK (Kd.V_afterv (ok := (fun k_ => (P0_ k_ ∨ w.heap.size ≤ k_) ∧ k_ ≠ gb342)) (by (with_reducible repeat (first | apply vA | apply vN | apply vD)); exact vM HL346_1.out (fun _ hk => ⟨⟨hk.1, hk.2.2⟩, hk.2.1⟩)) hg hat); have n4_ := zK (Kd.V_afterv (ok := (fun k_ => (P0_ k_ ∨ w.heap.size ≤ k_) ∧ k_ ≠ gb342)) (by (with_reducible repeat (first | apply vA | apply vN | apply vD)); exact vM HL347_1.out (fun _ hk => ⟨⟨hk.1, hk.2.2⟩, hk.2.1⟩)) hg hat); have n5_ := zK (hb); have n6_ := zK (ho); clear HO_0; clear BK342; clear HL343_1; clear HL346_1; clear HL347_1; clear HB; clear HO_8; have HO_0 := n0_; have BK342 := n1_; have HL343_1 := n2_; have HL346_1 := n3_; have HL347_1 := n4_; have HB := n5_; have HO350 := n6_; clear n0_ n1_ n2_ n3_ n4_ n5_ n6_; clear ho hb hg hat; have p351 : 0 ≤ (x10_2 : Int) := of_decide_eq_true (by first | (with_reducible assumption) | assumption); have q351 : x10_2 < (l0.length : Int) := of_decide_eq_true (by first | (with_reducible assumption) | assumption); obtain ⟨ad351, A351_1, c351_1, e351, hx351_0, hx351_1, hx351_2, hl351_1, hi351_1⟩ := at_T30 (Kd.V_reads' HO_0.out).2.2 x10_2 p351 q351; (try rw [← Nbq16.out] at hx351_2); obtain rfl : ad343 = ad351 := (by injection e351); obtain ⟨ce351, hce351, hMe351, hcc351⟩ := Kd.V_get HO_0.out z30 x10_2 p351 (by first | exact q351 | exact of_decide_eq_true (by first | (with_reducible assumption) | assumption) | (have e_ := (Kd.V_reads' HO_0.out).1; omega)); obtain ⟨ua351_1, uc351_1, rfl, ul351_1, ge351_1⟩ := k30_openF hMe351; have hv351_1 := hcc351 1 _ rfl; rw [add_field _ _ 1 (by omega)] at hv351_1; replace hv351_1 := Option.some.inj (hv351_1.symm.trans hx351_1); injection hv351_1 with hva_ hvn_ hvc_; rw [hva_] at ge351_1; rw [hvc_] at ul351_1; have HL351_1 := zK (show Kd.V k47 47 _ w.heap.size _ _ ((rd_T30 l0 x10_2).f0.f1) from Kd.V_mk ul351_1 ge351_1); clear hva_ hvn_ hvc_ ge351_1 ul351_1; clear hcc351 hce351; have HR351_1 := zK hi351_1; have HC351_1 := zK hl351_1; clear hi351_1 hl351_1; replace p351 := eq_true p351; replace q351 := eq_true q351))
              go_roundg k2
              case measure => have := HJ3.out; have := HK2.out; omega
              case rel => exact ⟨(y348), (true), (wrap64 (x10_2 + 1)), (x343000_2), (x343002_2), (by first | rfl | (simp; done) | (simp [*]; done)), (by first | rfl | (simp; done) | (simp [*]; done)), H', ⟨by have := HJ3.out; have := HK2.out; omega⟩, ⟨by (with_reducible repeat (first | apply vA | apply vN | apply vD)); exact vM HO_0.out (fun _ hk => ⟨hk.1.1, ⟨hk.2, hk.1.2⟩⟩)⟩, ⟨by (with_reducible repeat (first | apply nA | apply nN | apply nD)); exact HO350.out⟩, ⟨by (with_reducible repeat (first | refine zN ?_ _ | refine zD ?_ | refine zA ?_ _)); exact BK342.out⟩, ⟨by repeat (first | (with_reducible first | exact HB.out | apply yA | apply yN | apply yD | refine yS ?_ GE342.out) | exact HB.out)⟩⟩
             ·replace c19 := Bool.eq_false_iff.mpr c19
              subst c19
              have H1 : (sequiturref28_Sum.l0 k2 l0 l1 a2 y348 false (wrap64 (x10_2 + 1))) = some (r1, r2, r3, r4) := by rw [if_neg (show ¬ (false = true) by decide)] at H; exact H
              clear H
              have H := H1
              clear H1
              have H' := zK H
              clear H
              have p343 : 0 ≤ (x10_2 : Int) := of_decide_eq_true (by first | (with_reducible assumption) | assumption)
              have q343 : x10_2 < (l0.length : Int) := of_decide_eq_true (by first | (with_reducible assumption) | assumption)
              obtain ⟨ad343, A343_1, c343_1, e343, hx343_0, hx343_1, hx343_2, hl343_1, hi343_1⟩ := at_T30 (Kd.V_reads' HO_0.out).2.2 x10_2 p343 q343
              (try rw [← Nbq16.out] at hx343_2)
              (try rw [← Nbq16.out] at A12)
              cases e343
              obtain ⟨ce343, hce343, hMe343, hcc343⟩ := Kd.V_get HO_0.out z30 x10_2 p343 (by first | exact q343 | exact of_decide_eq_true (by first | (with_reducible assumption) | assumption) | (have e_ := (Kd.V_reads' HO_0.out).1; omega))
              obtain ⟨ua343_1, uc343_1, rfl, ul343_1, ge343_1⟩ := k30_openF hMe343
              have hv343_1 := hcc343 1 _ rfl
              rw [add_field _ _ 1 (by omega)] at hv343_1
              replace hv343_1 := Option.some.inj (hv343_1.symm.trans hx343_1)
              injection hv343_1 with hva_ hvn_ hvc_
              rw [hva_] at ge343_1
              rw [hvc_] at ul343_1
              have HL343_1 := zK (show Kd.V k47 47 _ w.heap.size _ _ ((rd_T30 l0 x10_2).f0.f1) from Kd.V_mk ul343_1 ge343_1)
              clear hva_ hvn_ hvc_ ge343_1 ul343_1
              clear hcc343 hce343
              have HR343_1 := zK hi343_1
              have HC343_1 := zK hl343_1
              clear hi343_1 hl343_1
              replace p343 := eq_true p343
              replace q343 := eq_true q343
              go_wp2_with (first | ((with_reducible refine zC (f := 17) rfl ?_); refine goesL_ (some 42) rfl rfl Try.func17 (by kernel_rfl) rfl #[.agg #[.int .i64 ((rd_T30 l0 x10_2).f0.f0), .slice A343_1 ((rd_T30 l0 x10_2).f0.f1).length c343_1]] rfl (by (try simp only [List.map_toArray, List.map_cons, List.map_nil]); first | done | rfl | (simp only [List.length_drop, List.length_take]; rfl)) ?_; (with_reducible refine (sequiturref28_Form.calls k2 ((rd_T30 l0 x10_2).f0.f0) _ _ ((rd_T30 l0 x10_2).f0.f1) true _ ?side1 ?side2 A12.out).mono ?_); (case side1 => repeat (first | exact (by repeat (first | (with_reducible exact HR343_1.out) | (with_reducible refine cA ?_ _) | (with_reducible refine cN ?_ _) | (with_reducible refine cD ?_) | exact HR343_1.out)) | (with_reducible refine cA ?_ _) | (with_reducible refine cN ?_ _) | (with_reducible refine cD ?_))); (case side2 => exact HC343_1.out); rintro e w22 ⟨rfl, hb⟩; refine ⟨_, rfl, ?_⟩; have n0_ := zK (Kd.V_below (by (with_reducible repeat (first | apply vA | apply vN | apply vD)); exact HO_0.out) hb); have n1_ := zK (Kd.N_below (by (with_reducible repeat (first | apply nA | apply nN | apply nD)); exact HO_8.out) hb); have n2_ := zK (Kd.V_below (by (with_reducible repeat (first | apply vA | apply vN | apply vD)); exact HL343_1.out) hb); have n3_ := zK (blk_below (g := gb342) (o := .cells #[.int .i64 x343000_2, .slice none 0 0, .bool x343002_2] 30 (0, 0)) (by (with_reducible repeat (first | refine zN ?_ _ | refine zD ?_ | refine zA ?_ _)); exact BK342.out) hb); have n4_ := zK (Kd.C_below (by repeat (first | (with_reducible exact HR343_1.out) | (with_reducible refine cA ?_ _) | (with_reducible refine cN ?_ _) | (with_reducible refine cD ?_) | exact HR343_1.out)) hb); have n5_ := zK (below_step (by repeat (first | (with_reducible first | exact HB.out | apply yA | apply yN | apply yD | refine yS ?_ GE342.out) | exact HB.out)) hb); clear HO_0; clear HO_8; clear HL343_1; clear BK342; clear HR343_1; clear HB; have HO_0 := n0_; have HO_8 := n1_; have HL343_1 := n2_; have BK342 := n3_; have HR343_1 := n4_; have HB := n5_; clear n0_ n1_ n2_ n3_ n4_ n5_; (try clear hb); (try clear hb2); (try clear hk); (try clear hi); have p345 : 0 ≤ (x10_2 : Int) := of_decide_eq_true (by first | (with_reducible assumption) | assumption); have q345 : x10_2 < (l1.length : Int) := of_decide_eq_true (by first | (with_reducible assumption) | assumption); obtain ⟨ad345, e345, hx345_0⟩ := Kd.at_int HR1.out x10_2 p345 q345; cases e345; replace hx345_0 := (HB.out.cell (World.block_lt_of_cell? w _ hx345_0)).trans hx345_0; replace p345 := eq_true p345; replace q345 := eq_true q345; have p346 : 0 ≤ (x10_2 : Int) := of_decide_eq_true (by first | (with_reducible assumption) | assumption); have q346 : x10_2 < (l0.length : Int) := of_decide_eq_true (by first | (with_reducible assumption) | assumption); obtain ⟨ad346, A346_1, c346_1, e346, hx346_0, hx346_1, hx346_2, hl346_1, hi346_1⟩ := at_T30 (Kd.V_reads' HO_0.out).2.2 x10_2 p346 q346; (try rw [← Nbq16.out] at hx346_2); obtain rfl : ad343 = ad346 := (by injection e346); obtain ⟨ce346, hce346, hMe346, hcc346⟩ := Kd.V_get HO_0.out z30 x10_2 p346 (by first | exact q346 | exact of_decide_eq_true (by first | (with_reducible assumption) | assumption) | (have e_ := (Kd.V_reads' HO_0.out).1; omega)); obtain ⟨ua346_1, uc346_1, rfl, ul346_1, ge346_1⟩ := k30_openF hMe346; have hv346_1 := hcc346 1 _ rfl; rw [add_field _ _ 1 (by omega)] at hv346_1; replace hv346_1 := Option.some.inj (hv346_1.symm.trans hx346_1); injection hv346_1 with hva_ hvn_ hvc_; rw [hva_] at ge346_1; rw [hvc_] at ul346_1; have HL346_1 := zK (show Kd.V k47 47 _ w.heap.size _ _ ((rd_T30 l0 x10_2).f0.f1) from Kd.V_mk ul346_1 ge346_1); clear hva_ hvn_ hvc_ ge346_1 ul346_1; clear hcc346 hce346; have HR346_1 := zK hi346_1; have HC346_1 := zK hl346_1; clear hi346_1 hl346_1; replace p346 := eq_true p346; replace q346 := eq_true q346; have p347 : 0 ≤ (x10_2 : Int) := of_decide_eq_true (by first | (with_reducible assumption) | assumption); have q347 : x10_2 < (l0.length : Int) := of_decide_eq_true (by first | (with_reducible assumption) | assumption); obtain ⟨ad347, A347_1, c347_1, e347, hx347_0, hx347_1, hx347_2, hl347_1, hi347_1⟩ := at_T30 (Kd.V_reads' HO_0.out).2.2 x10_2 p347 q347; (try rw [← Nbq16.out] at hx347_2); obtain rfl : ad343 = ad347 := (by injection e347); obtain ⟨ce347, hce347, hMe347, hcc347⟩ := Kd.V_get HO_0.out z30 x10_2 p347 (by first | exact q347 | exact of_decide_eq_true (by first | (with_reducible assumption) | assumption) | (have e_ := (Kd.V_reads' HO_0.out).1; omega)); obtain ⟨ua347_1, uc347_1, rfl, ul347_1, ge347_1⟩ := k30_openF hMe347; have hv347_1 := hcc347 1 _ rfl; rw [add_field _ _ 1 (by omega)] at hv347_1; replace hv347_1 := Option.some.inj (hv347_1.symm.trans hx347_1); injection hv347_1 with hva_ hvn_ hvc_; rw [hva_] at ge347_1; rw [hvc_] at ul347_1; have HL347_1 := zK (show Kd.V k47 47 _ w.heap.size _ _ ((rd_T30 l0 x10_2).f0.f1) from Kd.V_mk ul347_1 ge347_1); clear hva_ hvn_ hvc_ ge347_1 ul347_1; clear hcc347 hce347; have HR347_1 := zK hi347_1; have HC347_1 := zK hl347_1; clear hi347_1 hl347_1; replace p347 := eq_true p347; replace q347 := eq_true q347; have ea_ := Option.some.inj (hx346_1.symm.trans hx347_1); injection ea_ with ea_ en_ ec_; subst ea_; subst ec_; clear en_) | ((with_reducible refine gate_builtin (b := .append) (xs := #[.tmp 60, .tmp 66]) rfl ?_); (try (refine zG (by rfl) ?_; dsimp only)); at_builtin; refine Kd.N_append k28 (w0 := w) w.heap.size rfl (.tmp 60) (.tmp 66) 48 28 (.agg #[(.int .i64 0), (.slice none 0 0)]) 32 rfl Try.underlying48 info28 rfl (by decide) (by omega) u8 x8_2 (⟨(rd_T30 l0 x10_2).f0.f0, (rd_T30 l0 x10_2).f0.f1⟩ : S28) [.int .i64 ((rd_T30 l0 x10_2).f0.f0), .slice A346_1 ((rd_T30 l0 x10_2).f0.f1).length c346_1] (fun k_ => (P0_ k_ ∨ w.heap.size ≤ k_) ∧ k_ ≠ gb342) (fun k_ => ((fun k_ => (P0_ k_ ∨ w.heap.size ≤ k_) ∧ k_ ≠ gb342)) k_ ∧ some k_ ≠ (u8 : Value).ownBlock) rfl rfl ?aP (fun _ hk => hk) ?aF ?aO ?aB ?aS ?aL ?_; (case aP => exact (k28_mkF _ _ (⟨(rd_T30 l0 x10_2).f0.f0, (rd_T30 l0 x10_2).f0.f1⟩ : S28) (Kd.V_reads' (vM (ok' := (fun k_ => ((fun k_ => (P0_ k_ ∨ w.heap.size ≤ k_) ∧ k_ ≠ gb342)) k_ ∧ some k_ ≠ (u8 : Value).ownBlock)) (HL347_1.out) (fun k_ hk => ⟨⟨hk.1, hk.2.2⟩, hk.2.1⟩))).2.1 (Kd.V_F (vM (ok' := (fun k_ => ((fun k_ => (P0_ k_ ∨ w.heap.size ≤ k_) ∧ k_ ≠ gb342)) k_ ∧ some k_ ≠ (u8 : Value).ownBlock)) (HL347_1.out) (fun k_ hk => ⟨⟨hk.1, hk.2.2⟩, hk.2.1⟩))))); (case aB => exact (by repeat (first | (with_reducible first | exact HB.out | apply yA | apply yN | apply yD | refine yS ?_ GE342.out) | exact HB.out))); (case aF => exact (fun k_ hk => ⟨(.inr (Nat.le_trans (below_size (by repeat (first | (with_reducible first | exact HB.out | apply yA | apply yN | apply yD | refine yS ?_ GE342.out) | exact HB.out))) hk)), Kd.freshB (g := gb342) (o := .cells #[.int .i64 x343000_2, .slice none 0 0, .bool x343002_2] 30 (0, 0)) (by (with_reducible repeat (first | refine zN ?_ _ | refine zD ?_ | refine zA ?_ _)); exact BK342.out) k_ hk⟩)); (case aO => exact (by (with_reducible repeat (first | apply nA | apply nN | apply nD)); exact HO_8.out)); (case aS => exact (below_size (by repeat (first | (with_reducible first | exact HB.out | apply yA | apply yN | apply yD | refine yS ?_ GE342.out) | exact HB.out)))); (case aL => have := LMc18.out; omega); intro v349 w23 ho hb hg hat; rw [← Ny348.out] at ho; have n0_ := zK (Kd.V_afterv (ok := (fun k_ => (P0_ k_ ∨ w.heap.size ≤ k_) ∧ k_ ≠ gb342)) (by (with_reducible repeat (first | apply vA | apply vN | apply vD)); exact vM HO_0.out (fun _ hk => ⟨⟨hk.1, hk.2.2⟩, hk.2.1⟩)) hg hat); have n1_ := zK (blk_grown (g := gb342) (o := .cells #[.int .i64 x343000_2, .slice none 0 0, .bool x343002_2] 30 (0, 0)) (by (with_reducible repeat (first | refine zN ?_ _ | refine zD ?_ | refine zA ?_ _)); exact BK342.out) hg (Kd.N_ne HO_8.out BK342.out (by decide))); have n2_ := zK (Kd.V_afterv (ok := (fun k_ => (P0_ k_ ∨ w.heap.size ≤ k_) ∧ k_ ≠ gb342)) (by (with_reducible repeat (first | apply vA | apply vN | apply vD)); exact vM HL343_1.out (fun _ hk => ⟨⟨hk.1, hk.2.2⟩, hk.2.1⟩)) hg hat); have n3_ := zK (Kd.V_afterv (ok := (fun k_ => (P0_ k_ ∨ w.heap.size ≤ k_) ∧ k_ ≠ gb342)) (by (with_reducible repeat (first | apply vA | apply vN | apply vD)); exact vM HL346_1.out (fun _ hk => ⟨⟨hk.1, hk.2.2⟩, hk.2.1⟩)) hg hat); have n4_ := zK (Kd.V_afterv (ok := (fun k_ => (P0_ k_ ∨ w.heap.size ≤ k_) ∧ k_ ≠ gb342)) (by (with_reducible repeat (first | apply vA | apply vN | apply vD)); exact vM HL347_1.out (fun _ hk => ⟨⟨hk.1, hk.2.2⟩, hk.2.1⟩)) hg hat); have n5_ := zK (hb); have n6_ := zK (ho); clear HO_0; clear BK342; clear HL343_1; clear HL346_1; clear HL347_1; clear HB; clear HO_8; have HO_0 := n0_; have BK342 := n1_; have HL343_1 := n2_; have HL346_1 := n3_; have HL347_1 := n4_; have HB := n5_; have HO350 := n6_; clear n0_ n1_ n2_ n3_ n4_ n5_ n6_; clear ho hb hg hat))
              go_roundg k2
              case measure => have := HJ3.out; have := HK2.out; omega
              case rel => exact ⟨(y348), (false), (wrap64 (x10_2 + 1)), (x343000_2), (x343002_2), (by first | rfl | (simp; done) | (simp [*]; done)), (by first | rfl | (simp; done) | (simp [*]; done)), H', ⟨by have := HJ3.out; have := HK2.out; omega⟩, ⟨by (with_reducible repeat (first | apply vA | apply vN | apply vD)); exact vM HO_0.out (fun _ hk => ⟨hk.1.1, ⟨hk.2, hk.1.2⟩⟩)⟩, ⟨by (with_reducible repeat (first | apply nA | apply nN | apply nD)); exact HO350.out⟩, ⟨by (with_reducible repeat (first | refine zN ?_ _ | refine zD ?_ | refine zA ?_ _)); exact BK342.out⟩, ⟨by repeat (first | (with_reducible first | exact HB.out | apply yA | apply yN | apply yD | refine yS ?_ GE342.out) | exact HB.out)⟩⟩
            ·rw [if_neg c18] at H
             exact absurd H (by simp)
           ·replace c17 := Bool.eq_false_iff.mpr c17
            subst c17
            have H1 : (some (0, ([] : List (S47)), false, 1)) = some (r1, r2, r3, r4) := by rw [if_neg (show ¬ (false = true) by decide)] at H; exact H
            clear H
            have H := H1
            clear H1
            simp only [Option.some.injEq, Prod.mk.injEq] at H
            obtain ⟨rfl, rfl, rfl, rfl⟩ := H
            have p343 : 0 ≤ (x10_2 : Int) := of_decide_eq_true (by first | (with_reducible assumption) | assumption)
            have q343 : x10_2 < (l0.length : Int) := of_decide_eq_true (by first | (with_reducible assumption) | assumption)
            obtain ⟨ad343, A343_1, c343_1, e343, hx343_0, hx343_1, hx343_2, hl343_1, hi343_1⟩ := at_T30 (Kd.V_reads' HO_0.out).2.2 x10_2 p343 q343
            (try rw [← Nbq16.out] at hx343_2)
            (try rw [← Nbq16.out] at A12)
            cases e343
            obtain ⟨ce343, hce343, hMe343, hcc343⟩ := Kd.V_get HO_0.out z30 x10_2 p343 (by first | exact q343 | exact of_decide_eq_true (by first | (with_reducible assumption) | assumption) | (have e_ := (Kd.V_reads' HO_0.out).1; omega))
            obtain ⟨ua343_1, uc343_1, rfl, ul343_1, ge343_1⟩ := k30_openF hMe343
            have hv343_1 := hcc343 1 _ rfl
            rw [add_field _ _ 1 (by omega)] at hv343_1
            replace hv343_1 := Option.some.inj (hv343_1.symm.trans hx343_1)
            injection hv343_1 with hva_ hvn_ hvc_
            rw [hva_] at ge343_1
            rw [hvc_] at ul343_1
            have HL343_1 := zK (show Kd.V k47 47 _ w.heap.size _ _ ((rd_T30 l0 x10_2).f0.f1) from Kd.V_mk ul343_1 ge343_1)
            clear hva_ hvn_ hvc_ ge343_1 ul343_1
            clear hcc343 hce343
            have HR343_1 := zK hi343_1
            have HC343_1 := zK hl343_1
            clear hi343_1 hl343_1
            replace p343 := eq_true p343
            replace q343 := eq_true q343
            go_wp2_with (first | ((with_reducible refine zC (f := 17) rfl ?_); refine goesL_ (some 42) rfl rfl Try.func17 (by kernel_rfl) rfl #[.agg #[.int .i64 ((rd_T30 l0 x10_2).f0.f0), .slice A343_1 ((rd_T30 l0 x10_2).f0.f1).length c343_1]] rfl (by (try simp only [List.map_toArray, List.map_cons, List.map_nil]); first | done | rfl | (simp only [List.length_drop, List.length_take]; rfl)) ?_; (with_reducible refine (sequiturref28_Form.calls k2 ((rd_T30 l0 x10_2).f0.f0) _ _ ((rd_T30 l0 x10_2).f0.f1) true _ ?side1 ?side2 A12.out).mono ?_); (case side1 => repeat (first | exact (by repeat (first | (with_reducible exact HR343_1.out) | (with_reducible refine cA ?_ _) | (with_reducible refine cN ?_ _) | (with_reducible refine cD ?_) | exact HR343_1.out)) | (with_reducible refine cA ?_ _) | (with_reducible refine cN ?_ _) | (with_reducible refine cD ?_))); (case side2 => exact HC343_1.out); rintro e w24 ⟨rfl, hb⟩; refine ⟨_, rfl, ?_⟩; have n0_ := zK (Kd.V_below (by (with_reducible repeat (first | apply vA | apply vN | apply vD)); exact HO_0.out) hb); have n1_ := zK (Kd.N_below (by (with_reducible repeat (first | apply nA | apply nN | apply nD)); exact HO_8.out) hb); have n2_ := zK (Kd.V_below (by (with_reducible repeat (first | apply vA | apply vN | apply vD)); exact HL343_1.out) hb); have n3_ := zK (blk_below (g := gb342) (o := .cells #[.int .i64 x343000_2, .slice none 0 0, .bool x343002_2] 30 (0, 0)) (by (with_reducible repeat (first | refine zN ?_ _ | refine zD ?_ | refine zA ?_ _)); exact BK342.out) hb); have n4_ := zK (Kd.C_below (by repeat (first | (with_reducible exact HR343_1.out) | (with_reducible refine cA ?_ _) | (with_reducible refine cN ?_ _) | (with_reducible refine cD ?_) | exact HR343_1.out)) hb); have n5_ := zK (below_step (by repeat (first | (with_reducible first | exact HB.out | apply yA | apply yN | apply yD | refine yS ?_ GE342.out) | exact HB.out)) hb); clear HO_0; clear HO_8; clear HL343_1; clear BK342; clear HR343_1; clear HB; have HO_0 := n0_; have HO_8 := n1_; have HL343_1 := n2_; have BK342 := n3_; have HR343_1 := n4_; have HB := n5_; clear n0_ n1_ n2_ n3_ n4_ n5_; (try clear hb); (try clear hb2); (try clear hk); (try clear hi); have p345 : 0 ≤ (x10_2 : Int) := of_decide_eq_true (by first | (with_reducible assumption) | assumption); have q345 : x10_2 < (l1.length : Int) := of_decide_eq_true (by first | (with_reducible assumption) | assumption); obtain ⟨ad345, e345, hx345_0⟩ := Kd.at_int HR1.out x10_2 p345 q345; cases e345; replace hx345_0 := (HB.out.cell (World.block_lt_of_cell? w _ hx345_0)).trans hx345_0; replace p345 := eq_true p345; replace q345 := eq_true q345; have p346 : 0 ≤ (x10_2 : Int) := of_decide_eq_true (by first | (with_reducible assumption) | assumption); have q346 : x10_2 < (l0.length : Int) := of_decide_eq_true (by first | (with_reducible assumption) | assumption); obtain ⟨ad346, A346_1, c346_1, e346, hx346_0, hx346_1, hx346_2, hl346_1, hi346_1⟩ := at_T30 (Kd.V_reads' HO_0.out).2.2 x10_2 p346 q346; (try rw [← Nbq16.out] at hx346_2); obtain rfl : ad343 = ad346 := (by injection e346); obtain ⟨ce346, hce346, hMe346, hcc346⟩ := Kd.V_get HO_0.out z30 x10_2 p346 (by first | exact q346 | exact of_decide_eq_true (by first | (with_reducible assumption) | assumption) | (have e_ := (Kd.V_reads' HO_0.out).1; omega)); obtain ⟨ua346_1, uc346_1, rfl, ul346_1, ge346_1⟩ := k30_openF hMe346; have hv346_1 := hcc346 1 _ rfl; rw [add_field _ _ 1 (by omega)] at hv346_1; replace hv346_1 := Option.some.inj (hv346_1.symm.trans hx346_1); injection hv346_1 with hva_ hvn_ hvc_; rw [hva_] at ge346_1; rw [hvc_] at ul346_1; have HL346_1 := zK (show Kd.V k47 47 _ w.heap.size _ _ ((rd_T30 l0 x10_2).f0.f1) from Kd.V_mk ul346_1 ge346_1); clear hva_ hvn_ hvc_ ge346_1 ul346_1; clear hcc346 hce346; have HR346_1 := zK hi346_1; have HC346_1 := zK hl346_1; clear hi346_1 hl346_1; replace p346 := eq_true p346; replace q346 := eq_true q346; have hcz25_0 : w24.cell? ⟨gb342, 0, none⟩ = some (.int .i64 x343000_2) := (blk_cell BK342.out 0).trans rfl; have hcz25_1 : w24.cell? ⟨gb342, 1, none⟩ = some (.slice none 0 0) := (blk_cell BK342.out 1).trans rfl; have hcz25_2 : w24.cell? ⟨gb342, 2, none⟩ = some (.bool x343002_2) := (blk_cell BK342.out 2).trans rfl; have hfz25_0 := blk_frozen BK342.out 0; have hfz25_1 := blk_frozen BK342.out 1; have hfz25_2 := blk_frozen BK342.out 2))
            refine bodyPost_ret (results_ct rfl _ _ gb342 30 #[.int .i64 0, .slice none 0 0, .bool false] (0, 0) _ rfl (by (with_reducible repeat (first | refine zN ?_ _ | refine zD ?_ | refine zA ?_ _)); refine blk_put (cs := #[.int .i64 0, .slice none 0 0, .bool x343002_2]) ?_ 2 _ rfl; (with_reducible repeat (first | refine zN ?_ _ | refine zD ?_ | refine zA ?_ _)); refine blk_put (cs := #[.int .i64 0, .slice none 0 0, .bool x343002_2]) ?_ 1 _ rfl; (with_reducible repeat (first | refine zN ?_ _ | refine zD ?_ | refine zA ?_ _)); refine blk_put (cs := #[.int .i64 x343000_2, .slice none 0 0, .bool x343002_2]) ?_ 0 _ rfl; (with_reducible repeat (first | refine zN ?_ _ | refine zD ?_ | refine zA ?_ _)); exact BK342.out) Try.underlying30 rfl (by kernel_rfl)) rfl ?_
            exact ⟨_, by first | rfl | (simp [errW_none, errW_some] <;> rfl) | (simp [*, errW_none, errW_some] <;> rfl), by first | exact Kd.R_nil _ _ _ _ _ | exact Kd.N_nil _ _ _ _ _ | exact Kd.V_nil _ _ _ _ _ | exact Kd.Q_nil _ _ _ _ _ | exact Kd.S_nil _ _ _ _ _, by repeat (first | (with_reducible first | exact HB.out | apply yA | apply yN | apply yD | refine yS ?_ GE342.out) | exact HB.out)⟩
          ·rw [if_neg c15] at H
           have c15b0 : decide ((rd l1 x10_2) < 0) = false := decide_eq_false c15
           clear c15
           by_cases c26 : x8_2.length < 4398046511104
           ·rw [if_pos c26] at H
            have LMc26 := zK c26
            clear c26
            obtain ⟨y353, hy353⟩ : ∃ y_ : List (S28), y_ = (x8_2 ++ [(⟨(rd_T30 l0 x10_2).f0.f0, (rd_T30 l0 x10_2).f0.f1⟩ : S28)]) := ⟨_, rfl⟩
            replace H : (if x9_2 = true then (sequiturref28_Sum.l0 k2 l0 l1 a2 y353 ((rd_T30 l0 x10_2).f1) (wrap64 (x10_2 + 1))) else (sequiturref28_Sum.l0 k2 l0 l1 a2 y353 false (wrap64 (x10_2 + 1)))) = some (r1, r2, r3, r4) := by first | (rw [hy353]; with_reducible exact H) | (have H2_ := (Option.bind_some _ _).symm.trans H; rw [hy353]; with_reducible exact H2_) | (have H2_ := (Option.bind_some _ _).symm.trans H; with_reducible exact H2_) | with_reducible exact H | (rw [hy353]; exact H) | exact H
            have Ny353 := zK hy353
            clear hy353
            by_cases c27 : x9_2 = true
            ·subst c27
             have H1 : (sequiturref28_Sum.l0 k2 l0 l1 a2 y353 ((rd_T30 l0 x10_2).f1) (wrap64 (x10_2 + 1))) = some (r1, r2, r3, r4) := by rw [if_pos rfl] at H; exact H
             clear H
             have H := H1
             clear H1
             have H' := zK H
             clear H
             have p343 : 0 ≤ (x10_2 : Int) := of_decide_eq_true (by first | (with_reducible assumption) | assumption)
             have q343 : x10_2 < (l0.length : Int) := of_decide_eq_true (by first | (with_reducible assumption) | assumption)
             obtain ⟨ad343, A343_1, c343_1, e343, hx343_0, hx343_1, hx343_2, hl343_1, hi343_1⟩ := at_T30 (Kd.V_reads' HO_0.out).2.2 x10_2 p343 q343
             cases e343
             obtain ⟨ce343, hce343, hMe343, hcc343⟩ := Kd.V_get HO_0.out z30 x10_2 p343 (by first | exact q343 | exact of_decide_eq_true (by first | (with_reducible assumption) | assumption) | (have e_ := (Kd.V_reads' HO_0.out).1; omega))
             obtain ⟨ua343_1, uc343_1, rfl, ul343_1, ge343_1⟩ := k30_openF hMe343
             have hv343_1 := hcc343 1 _ rfl
             rw [add_field _ _ 1 (by omega)] at hv343_1
             replace hv343_1 := Option.some.inj (hv343_1.symm.trans hx343_1)
             injection hv343_1 with hva_ hvn_ hvc_
             rw [hva_] at ge343_1
             rw [hvc_] at ul343_1
             have HL343_1 := zK (show Kd.V k47 47 _ w.heap.size _ _ ((rd_T30 l0 x10_2).f0.f1) from Kd.V_mk ul343_1 ge343_1)
             clear hva_ hvn_ hvc_ ge343_1 ul343_1
             clear hcc343 hce343
             have HR343_1 := zK hi343_1
             have HC343_1 := zK hl343_1
             clear hi343_1 hl343_1
             replace p343 := eq_true p343
             replace q343 := eq_true q343
             go_wp2_with (first | ((with_reducible refine zC (f := 17) rfl ?_); refine goesL_ (some 42) rfl rfl Try.func17 (by kernel_rfl) rfl #[.agg #[.int .i64 ((rd_T30 l0 x10_2).f0.f0), .slice A343_1 ((rd_T30 l0 x10_2).f0.f1).length c343_1]] rfl (by (try simp only [List.map_toArray, List.map_cons, List.map_nil]); first | done | rfl | (simp only [List.length_drop, List.length_take]; rfl)) ?_; (with_reducible refine (sequiturref28_Form.calls k2 ((rd_T30 l0 x10_2).f0.f0) _ _ ((rd_T30 l0 x10_2).f0.f1) true _ ?side1 ?side2 A12.out).mono ?_); (case side1 => repeat (first | exact (by repeat (first | (with_reducible exact HR343_1.out) | (with_reducible refine cA ?_ _) | (with_reducible refine cN ?_ _) | (with_reducible refine cD ?_) | exact HR343_1.out)) | (with_reducible refine cA ?_ _) | (with_reducible refine cN ?_ _) | (with_reducible refine cD ?_))); (case side2 => exact HC343_1.out); rintro e w28 ⟨rfl, hb⟩; refine ⟨_, rfl, ?_⟩; have n0_ := zK (Kd.V_below (by (with_reducible repeat (first | apply vA | apply vN | apply vD)); exact HO_0.out) hb); have n1_ := zK (Kd.N_below (by (with_reducible repeat (first | apply nA | apply nN | apply nD)); exact HO_8.out) hb); have n2_ := zK (Kd.V_below (by (with_reducible repeat (first | apply vA | apply vN | apply vD)); exact HL343_1.out) hb); have n3_ := zK (blk_below (g := gb342) (o := .cells #[.int .i64 x343000_2, .slice none 0 0, .bool x343002_2] 30 (0, 0)) (by (with_reducible repeat (first | refine zN ?_ _ | refine zD ?_ | refine zA ?_ _)); exact BK342.out) hb); have n4_ := zK (Kd.C_below (by repeat (first | (with_reducible exact HR343_1.out) | (with_reducible refine cA ?_ _) | (with_reducible refine cN ?_ _) | (with_reducible refine cD ?_) | exact HR343_1.out)) hb); have n5_ := zK (below_step (by repeat (first | (with_reducible first | exact HB.out | apply yA | apply yN | apply yD | refine yS ?_ GE342.out) | exact HB.out)) hb); clear HO_0; clear HO_8; clear HL343_1; clear BK342; clear HR343_1; clear HB; have HO_0 := n0_; have HO_8 := n1_; have HL343_1 := n2_; have BK342 := n3_; have HR343_1 := n4_; have HB := n5_; clear n0_ n1_ n2_ n3_ n4_ n5_; (try clear hb); (try clear hb2); (try clear hk); (try clear hi); have p345 : 0 ≤ (x10_2 : Int) := of_decide_eq_true (by first | (with_reducible assumption) | assumption); have q345 : x10_2 < (l1.length : Int) := of_decide_eq_true (by first | (with_reducible assumption) | assumption); obtain ⟨ad345, e345, hx345_0⟩ := Kd.at_int HR1.out x10_2 p345 q345; cases e345; replace hx345_0 := (HB.out.cell (World.block_lt_of_cell? w _ hx345_0)).trans hx345_0; replace p345 := eq_true p345; replace q345 := eq_true q345; have p352 : 0 ≤ (x10_2 : Int) := of_decide_eq_true (by first | (with_reducible assumption) | assumption); have q352 : x10_2 < (l0.length : Int) := of_decide_eq_true (by first | (with_reducible assumption) | assumption); obtain ⟨ad352, A352_1, c352_1, e352, hx352_0, hx352_1, hx352_2, hl352_1, hi352_1⟩ := at_T30 (Kd.V_reads' HO_0.out).2.2 x10_2 p352 q352; obtain rfl : ad343 = ad352 := (by injection e352); obtain ⟨ce352, hce352, hMe352, hcc352⟩ := Kd.V_get HO_0.out z30 x10_2 p352 (by first | exact q352 | exact of_decide_eq_true (by first | (with_reducible assumption) | assumption) | (have e_ := (Kd.V_reads' HO_0.out).1; omega)); obtain ⟨ua352_1, uc352_1, rfl, ul352_1, ge352_1⟩ := k30_openF hMe352; have hv352_1 := hcc352 1 _ rfl; rw [add_field _ _ 1 (by omega)] at hv352_1; replace hv352_1 := Option.some.inj (hv352_1.symm.trans hx352_1); injection hv352_1 with hva_ hvn_ hvc_; rw [hva_] at ge352_1; rw [hvc_] at ul352_1; have HL352_1 := zK (show Kd.V k47 47 _ w.heap.size _ _ ((rd_T30 l0 x10_2).f0.f1) from Kd.V_mk ul352_1 ge352_1); clear hva_ hvn_ hvc_ ge352_1 ul352_1; clear hcc352 hce352; have HR352_1 := zK hi352_1; have HC352_1 := zK hl352_1; clear hi352_1 hl352_1; replace p352 := eq_true p352; replace q352 := eq_true q352) | ((with_reducible refine gate_builtin (b := .append) (xs := #[.tmp 60, .tmp 66]) rfl ?_); (try (refine zG (by rfl) ?_; dsimp only)); at_builtin; refine Kd.N_append k28 (w0 := w) w.heap.size rfl (.tmp 60) (.tmp 66) 48 28 (.agg #[(.int .i64 0), (.slice none 0 0)]) 32 rfl Try.underlying48 info28 rfl (by decide) (by omega) u8 x8_2 (⟨(rd_T30 l0 x10_2).f0.f0, (rd_T30 l0 x10_2).f0.f1⟩ : S28) [.int .i64 ((rd_T30 l0 x10_2).f0.f0), .slice A352_1 ((rd_T30 l0 x10_2).f0.f1).length c352_1] (fun k_ => (P0_ k_ ∨ w.heap.size ≤ k_) ∧ k_ ≠ gb342) (fun k_ => ((fun k_ => (P0_ k_ ∨ w.heap.size ≤ k_) ∧ k_ ≠ gb342)) k_ ∧ some k_ ≠ (u8 : Value).ownBlock) rfl rfl ?aP (fun _ hk => hk) ?aF ?aO ?aB ?aS ?aL ?_; (case aP => exact (k28_mkF _ _ (⟨(rd_T30 l0 x10_2).f0.f0, (rd_T30 l0 x10_2).f0.f1⟩ : S28) (Kd.V_reads' (vM (ok' := (fun k_ => ((fun k_ => (P0_ k_ ∨ w.heap.size ≤ k_) ∧ k_ ≠ gb342)) k_ ∧ some k_ ≠ (u8 : Value).ownBlock)) (HL352_1.out) (fun k_ hk => ⟨⟨hk.1, hk.2.2⟩, hk.2.1⟩))).2.1 (Kd.V_F (vM (ok' := (fun k_ => ((fun k_ => (P0_ k_ ∨ w.heap.size ≤ k_) ∧ k_ ≠ gb342)) k_ ∧ some k_ ≠ (u8 : Value).ownBlock)) (HL352_1.out) (fun k_ hk => ⟨⟨hk.1, hk.2.2⟩, hk.2.1⟩))))); (case aB => exact (by repeat (first | (with_reducible first | exact HB.out | apply yA | apply yN | apply yD | refine yS ?_ GE342.out) | exact HB.out))); (case aF => exact (fun k_ hk => ⟨(.inr (Nat.le_trans (below_size (by repeat (first | (with_reducible first | exact HB.out | apply yA | apply yN | apply yD | refine yS ?_ GE342.out) | exact HB.out))) hk)), Kd.freshB (g := gb342) (o := .cells #[.int .i64 x343000_2, .slice none 0 0, .bool x343002_2] 30 (0, 0)) (by (with_reducible repeat (first | refine zN ?_ _ | refine zD ?_ | refine zA ?_ _)); exact BK342.out) k_ hk⟩)); (case aO => exact (by (with_reducible repeat (first | apply nA | apply nN | apply nD)); exact HO_8.out)); (case aS => exact (below_size (by repeat (first | (with_reducible first | exact HB.out | apply yA | apply yN | apply yD | refine yS ?_ GE342.out) | exact HB.out)))); (case aL => have := LMc26.out; omega); intro v354 w29 ho hb hg hat; rw [← Ny353.out] at ho; have n0_ := zK (Kd.V_afterv (ok := (fun k_ => (P0_ k_ ∨ w.heap.size ≤ k_) ∧ k_ ≠ gb342)) (by (with_reducible repeat (first | apply vA | apply vN | apply vD)); exact vM HO_0.out (fun _ hk => ⟨⟨hk.1, hk.2.2⟩, hk.2.1⟩)) hg hat); have n1_ := zK (blk_grown (g := gb342) (o := .cells #[.int .i64 x343000_2, .slice none 0 0, .bool x343002_2] 30 (0, 0)) (by (with_reducible repeat (first | refine zN ?_ _ | refine zD ?_ | refine zA ?_ _)); exact BK342.out) hg (Kd.N_ne HO_8.out BK342.out (by decide))); have n2_ := zK (Kd.V_afterv (ok := (fun k_ => (P0_ k_ ∨ w.heap.size ≤ k_) ∧ k_ ≠ gb342)) (by (with_reducible repeat (first | apply vA | apply vN | apply vD)); exact vM HL343_1.out (fun _ hk => ⟨⟨hk.1, hk.2.2⟩, hk.2.1⟩)) hg hat); have n3_ := zK (Kd.V_afterv (ok := (fun k_ => (P0_ k_ ∨ w.heap.size ≤ k_) ∧ k_ ≠ gb342)) (by (with_reducible repeat (first | apply vA | apply vN | apply vD)); exact vM HL352_1.out (fun _ hk => ⟨⟨hk.1, hk.2.2⟩, hk.2.1⟩)) hg hat); have n4_ := zK (hb); have n5_ := zK (ho); clear HO_0; clear BK342; clear HL343_1; clear HL352_1; clear HB; clear HO_8; have HO_0 := n0_; have BK342 := n1_; have HL343_1 := n2_; have HL352_1 := n3_; have HB := n4_; have HO355 := n5_; clear n0_ n1_ n2_ n3_ n4_ n5_; clear ho hb hg hat; have p356 : 0 ≤ (x10_2 : Int) := of_decide_eq_true (by first | (with_reducible assumption) | assumption); have q356 : x10_2 < (l0.length : Int) := of_decide_eq_true (by first | (with_reducible assumption) | assumption); obtain ⟨ad356, A356_1, c356_1, e356, hx356_0, hx356_1, hx356_2, hl356_1, hi356_1⟩ := at_T30 (Kd.V_reads' HO_0.out).2.2 x10_2 p356 q356; obtain rfl : ad343 = ad356 := (by injection e356); obtain ⟨ce356, hce356, hMe356, hcc356⟩ := Kd.V_get HO_0.out z30 x10_2 p356 (by first | exact q356 | exact of_decide_eq_true (by first | (with_reducible assumption) | assumption) | (have e_ := (Kd.V_reads' HO_0.out).1; omega)); obtain ⟨ua356_1, uc356_1, rfl, ul356_1, ge356_1⟩ := k30_openF hMe356; have hv356_1 := hcc356 1 _ rfl; rw [add_field _ _ 1 (by omega)] at hv356_1; replace hv356_1 := Option.some.inj (hv356_1.symm.trans hx356_1); injection hv356_1 with hva_ hvn_ hvc_; rw [hva_] at ge356_1; rw [hvc_] at ul356_1; have HL356_1 := zK (show Kd.V k47 47 _ w.heap.size _ _ ((rd_T30 l0 x10_2).f0.f1) from Kd.V_mk ul356_1 ge356_1); clear hva_ hvn_ hvc_ ge356_1 ul356_1; clear hcc356 hce356; have HR356_1 := zK hi356_1; have HC356_1 := zK hl356_1; clear hi356_1 hl356_1; replace p356 := eq_true p356; replace q356 := eq_true q356))
             go_roundg k2
             case measure => have := HJ3.out; have := HK2.out; omega
             case rel => exact ⟨(y353), ((rd_T30 l0 x10_2).f1), (wrap64 (x10_2 + 1)), (x343000_2), (x343002_2), (by first | rfl | (simp; done) | (simp [*]; done)), (by first | rfl | (simp; done) | (simp [*]; done)), H', ⟨by have := HJ3.out; have := HK2.out; omega⟩, ⟨by (with_reducible repeat (first | apply vA | apply vN | apply vD)); exact vM HO_0.out (fun _ hk => ⟨hk.1.1, ⟨hk.2, hk.1.2⟩⟩)⟩, ⟨by (with_reducible repeat (first | apply nA | apply nN | apply nD)); exact HO355.out⟩, ⟨by (with_reducible repeat (first | refine zN ?_ _ | refine zD ?_ | refine zA ?_ _)); exact BK342.out⟩, ⟨by repeat (first | (with_reducible first | exact HB.out | apply yA | apply yN | apply yD | refine yS ?_ GE342.out) | exact HB.out)⟩⟩
            ·replace c27 := Bool.eq_false_iff.mpr c27
             subst c27
             have H1 : (sequiturref28_Sum.l0 k2 l0 l1 a2 y353 false (wrap64 (x10_2 + 1))) = some (r1, r2, r3, r4) := by rw [if_neg (show ¬ (false = true) by decide)] at H; exact H
             clear H
             have H := H1
             clear H1
             have H' := zK H
             clear H
             have p343 : 0 ≤ (x10_2 : Int) := of_decide_eq_true (by first | (with_reducible assumption) | assumption)
             have q343 : x10_2 < (l0.length : Int) := of_decide_eq_true (by first | (with_reducible assumption) | assumption)
             obtain ⟨ad343, A343_1, c343_1, e343, hx343_0, hx343_1, hx343_2, hl343_1, hi343_1⟩ := at_T30 (Kd.V_reads' HO_0.out).2.2 x10_2 p343 q343
             cases e343
             obtain ⟨ce343, hce343, hMe343, hcc343⟩ := Kd.V_get HO_0.out z30 x10_2 p343 (by first | exact q343 | exact of_decide_eq_true (by first | (with_reducible assumption) | assumption) | (have e_ := (Kd.V_reads' HO_0.out).1; omega))
             obtain ⟨ua343_1, uc343_1, rfl, ul343_1, ge343_1⟩ := k30_openF hMe343
             have hv343_1 := hcc343 1 _ rfl
             rw [add_field _ _ 1 (by omega)] at hv343_1
             replace hv343_1 := Option.some.inj (hv343_1.symm.trans hx343_1)
             injection hv343_1 with hva_ hvn_ hvc_
             rw [hva_] at ge343_1
             rw [hvc_] at ul343_1
             have HL343_1 := zK (show Kd.V k47 47 _ w.heap.size _ _ ((rd_T30 l0 x10_2).f0.f1) from Kd.V_mk ul343_1 ge343_1)
             clear hva_ hvn_ hvc_ ge343_1 ul343_1
             clear hcc343 hce343
             have HR343_1 := zK hi343_1
             have HC343_1 := zK hl343_1
             clear hi343_1 hl343_1
             replace p343 := eq_true p343
             replace q343 := eq_true q343
             go_wp2_with (first | ((with_reducible refine zC (f := 17) rfl ?_); refine goesL_ (some 42) rfl rfl Try.func17 (by kernel_rfl) rfl #[.agg #[.int .i64 ((rd_T30 l0 x10_2).f0.f0), .slice A343_1 ((rd_T30 l0 x10_2).f0.f1).length c343_1]] rfl (by (try simp only [List.map_toArray, List.map_cons, List.map_nil]); first | done | rfl | (simp only [List.length_drop, List.length_take]; rfl)) ?_; (with_reducible refine (sequiturref28_Form.calls k2 ((rd_T30 l0 x10_2).f0.f0) _ _ ((rd_T30 l0 x10_2).f0.f1) true _ ?side1 ?side2 A12.out).mono ?_); (case side1 => repeat (first | exact (by repeat (first | (with_reducible exact HR343_1.out) | (with_reducible refine cA ?_ _) | (with_reducible refine cN ?_ _) | (with_reducible refine cD ?_) | exact HR343_1.out)) | (with_reducible refine cA ?_ _) | (with_reducible refine cN ?_ _) | (with_reducible refine cD ?_))); (case side2 => exact HC343_1.out); rintro e w30 ⟨rfl, hb⟩; refine ⟨_, rfl, ?_⟩; have n0_ := zK (Kd.V_below (by (with_reducible repeat (first | apply vA | apply vN | apply vD)); exact HO_0.out) hb); have n1_ := zK (Kd.N_below (by (with_reducible repeat (first | apply nA | apply nN | apply nD)); exact HO_8.out) hb); have n2_ := zK (Kd.V_below (by (with_reducible repeat (first | apply vA | apply vN | apply vD)); exact HL343_1.out) hb); have n3_ := zK (blk_below (g := gb342) (o := .cells #[.int .i64 x343000_2, .slice none 0 0, .bool x343002_2] 30 (0, 0)) (by (with_reducible repeat (first | refine zN ?_ _ | refine zD ?_ | refine zA ?_ _)); exact BK342.out) hb); have n4_ := zK (Kd.C_below (by repeat (first | (with_reducible exact HR343_1.out) | (with_reducible refine cA ?_ _) | (with_reducible refine cN ?_ _) | (with_reducible refine cD ?_) | exact HR343_1.out)) hb); have n5_ := zK (below_step (by repeat (first | (with_reducible first | exact HB.out | apply yA | apply yN | apply yD | refine yS ?_ GE342.out) | exact HB.out)) hb); clear HO_0; clear HO_8; clear HL343_1; clear BK342; clear HR343_1; clear HB; have HO_0 := n0_; have HO_8 := n1_; have HL343_1 := n2_; have BK342 := n3_; have HR343_1 := n4_; have HB := n5_; clear n0_ n1_ n2_ n3_ n4_ n5_; (try clear hb); (try clear hb2); (try clear hk); (try clear hi); have p345 : 0 ≤ (x10_2 : Int) := of_decide_eq_true (by first | (with_reducible assumption) | assumption); have q345 : x10_2 < (l1.length : Int) := of_decide_eq_true (by first | (with_reducible assumption) | assumption); obtain ⟨ad345, e345, hx345_0⟩ := Kd.at_int HR1.out x10_2 p345 q345; cases e345; replace hx345_0 := (HB.out.cell (World.block_lt_of_cell? w _ hx345_0)).trans hx345_0; replace p345 := eq_true p345; replace q345 := eq_true q345; have p352 : 0 ≤ (x10_2 : Int) := of_decide_eq_true (by first | (with_reducible assumption) | assumption); have q352 : x10_2 < (l0.length : Int) := of_decide_eq_true (by first | (with_reducible assumption) | assumption); obtain ⟨ad352, A352_1, c352_1, e352, hx352_0, hx352_1, hx352_2, hl352_1, hi352_1⟩ := at_T30 (Kd.V_reads' HO_0.out).2.2 x10_2 p352 q352; obtain rfl : ad343 = ad352 := (by injection e352); obtain ⟨ce352, hce352, hMe352, hcc352⟩ := Kd.V_get HO_0.out z30 x10_2 p352 (by first | exact q352 | exact of_decide_eq_true (by first | (with_reducible assumption) | assumption) | (have e_ := (Kd.V_reads' HO_0.out).1; omega)); obtain ⟨ua352_1, uc352_1, rfl, ul352_1, ge352_1⟩ := k30_openF hMe352; have hv352_1 := hcc352 1 _ rfl; rw [add_field _ _ 1 (by omega)] at hv352_1; replace hv352_1 := Option.some.inj (hv352_1.symm.trans hx352_1); injection hv352_1 with hva_ hvn_ hvc_; rw [hva_] at ge352_1; rw [hvc_] at ul352_1; have HL352_1 := zK (show Kd.V k47 47 _ w.heap.size _ _ ((rd_T30 l0 x10_2).f0.f1) from Kd.V_mk ul352_1 ge352_1); clear hva_ hvn_ hvc_ ge352_1 ul352_1; clear hcc352 hce352; have HR352_1 := zK hi352_1; have HC352_1 := zK hl352_1; clear hi352_1 hl352_1; replace p352 := eq_true p352; replace q352 := eq_true q352) | ((with_reducible refine gate_builtin (b := .append) (xs := #[.tmp 60, .tmp 66]) rfl ?_); (try (refine zG (by rfl) ?_; dsimp only)); at_builtin; refine Kd.N_append k28 (w0 := w) w.heap.size rfl (.tmp 60) (.tmp 66) 48 28 (.agg #[(.int .i64 0), (.slice none 0 0)]) 32 rfl Try.underlying48 info28 rfl (by decide) (by omega) u8 x8_2 (⟨(rd_T30 l0 x10_2).f0.f0, (rd_T30 l0 x10_2).f0.f1⟩ : S28) [.int .i64 ((rd_T30 l0 x10_2).f0.f0), .slice A352_1 ((rd_T30 l0 x10_2).f0.f1).length c352_1] (fun k_ => (P0_ k_ ∨ w.heap.size ≤ k_) ∧ k_ ≠ gb342) (fun k_ => ((fun k_ => (P0_ k_ ∨ w.heap.size ≤ k_) ∧ k_ ≠ gb342)) k_ ∧ some k_ ≠ (u8 : Value).ownBlock) rfl rfl ?aP (fun _ hk => hk) ?aF ?aO ?aB ?aS ?aL ?_; (case aP => exact (k28_mkF _ _ (⟨(rd_T30 l0 x10_2).f0.f0, (rd_T30 l0 x10_2).f0.f1⟩ : S28) (Kd.V_reads' (vM (ok' := (fun k_ => ((fun k_ => (P0_ k_ ∨ w.heap.size ≤ k_) ∧ k_ ≠ gb342)) k_ ∧ some k_ ≠ (u8 : Value).ownBlock)) (HL352_1.out) (fun k_ hk => ⟨⟨hk.1, hk.2.2⟩, hk.2.1⟩))).2.1 (Kd.V_F (vM (ok' := (fun k_ => ((fun k_ => (P0_ k_ ∨ w.heap.size ≤ k_) ∧ k_ ≠ gb342)) k_ ∧ some k_ ≠ (u8 : Value).ownBlock)) (HL352_1.out) (fun k_ hk => ⟨⟨hk.1, hk.2.2⟩, hk.2.1⟩))))); (case aB => exact (by repeat (first | (with_reducible first | exact HB.out | apply yA | apply yN | apply yD | refine yS ?_ GE342.out) | exact HB.out))); (case aF => exact (fun k_ hk => ⟨(.inr (Nat.le_trans (below_size (by repeat (first | (with_reducible first | exact HB.out | apply yA | apply yN | apply yD | refine yS ?_ GE342.out) | exact HB.out))) hk)), Kd.freshB (g := gb342) (o := .cells #[.int .i64 x343000_2, .slice none 0 0, .bool x343002_2] 30 (0, 0)) (by (with_reducible repeat (first | refine zN ?_ _ | refine zD ?_ | refine zA ?_ _)); exact BK342.out) k_ hk⟩)); (case aO => exact (by (with_reducible repeat (first | apply nA | apply nN | apply nD)); exact HO_8.out)); (case aS => exact (below_size (by repeat (first | (with_reducible first | exact HB.out | apply yA | apply yN | apply yD | refine yS ?_ GE342.out) | exact HB.out)))); (case aL => have := LMc26.out; omega); intro v354 w31 ho hb hg hat; rw [← Ny353.out] at ho; have n0_ := zK (Kd.V_afterv (ok := (fun k_ => (P0_ k_ ∨ w.heap.size ≤ k_) ∧ k_ ≠ gb342)) (by (with_reducible repeat (first | apply vA | apply vN | apply vD)); exact vM HO_0.out (fun _ hk => ⟨⟨hk.1, hk.2.2⟩, hk.2.1⟩)) hg hat); have n1_ := zK (blk_grown (g := gb342) (o := .cells #[.int .i64 x343000_2, .slice none 0 0, .bool x343002_2] 30 (0, 0)) (by (with_reducible repeat (first | refine zN ?_ _ | refine zD ?_ | refine zA ?_ _)); exact BK342.out) hg (Kd.N_ne HO_8.out BK342.out (by decide))); have n2_ := zK (Kd.V_afterv (ok := (fun k_ => (P0_ k_ ∨ w.heap.size ≤ k_) ∧ k_ ≠ gb342)) (by (with_reducible repeat (first | apply vA | apply vN | apply vD)); exact vM HL343_1.out (fun _ hk => ⟨⟨hk.1, hk.2.2⟩, hk.2.1⟩)) hg hat); have n3_ := zK (Kd.V_afterv (ok := (fun k_ => (P0_ k_ ∨ w.heap.size ≤ k_) ∧ k_ ≠ gb342)) (by (with_reducible repeat (first | apply vA | apply vN | apply vD)); exact vM HL352_1.out (fun _ hk => ⟨⟨hk.1, hk.2.2⟩, hk.2.1⟩)) hg hat); have n4_ := zK (hb); have n5_ := zK (ho); clear HO_0; clear BK342; clear HL343_1; clear HL352_1; clear HB; clear HO_8; have HO_0 := n0_; have BK342 := n1_; have HL343_1 := n2_; have HL352_1 := n3_; have HB := n4_; have HO355 := n5_; clear n0_ n1_ n2_ n3_ n4_ n5_; clear ho hb hg hat))
             go_roundg k2
             case measure => have := HJ3.out; have := HK2.out; omega
             case rel => exact ⟨(y353), (false), (wrap64 (x10_2 + 1)), (x343000_2), (x343002_2), (by first | rfl | (simp; done) | (simp [*]; done)), (by first | rfl | (simp; done) | (simp [*]; done)), H', ⟨by have := HJ3.out; have := HK2.out; omega⟩, ⟨by (with_reducible repeat (first | apply vA | apply vN | apply vD)); exact vM HO_0.out (fun _ hk => ⟨hk.1.1, ⟨hk.2, hk.1.2⟩⟩)⟩, ⟨by (with_reducible repeat (first | apply nA | apply nN | apply nD)); exact HO355.out⟩, ⟨by (with_reducible repeat (first | refine zN ?_ _ | refine zD ?_ | refine zA ?_ _)); exact BK342.out⟩, ⟨by repeat (first | (with_reducible first | exact HB.out | apply yA | apply yN | apply yD | refine yS ?_ GE342.out) | exact HB.out)⟩⟩
           ·rw [if_neg c26] at H
            exact absurd H (by simp)
         ·rw [if_neg c14] at H
          exact absurd H (by simp)
        ·replace c13 := Bool.eq_false_iff.mpr c13
         subst c13
         have H1 : (some (0, ([] : List (S47)), false, 1)) = some (r1, r2, r3, r4) := by rw [if_neg (show ¬ (false = true) by decide)] at H; exact H
         clear H
         have H := H1
         clear H1
         simp only [Option.some.injEq, Prod.mk.injEq] at H
         obtain ⟨rfl, rfl, rfl, rfl⟩ := H
         have p343 : 0 ≤ (x10_2 : Int) := of_decide_eq_true (by first | (with_reducible assumption) | assumption)
         have q343 : x10_2 < (l0.length : Int) := of_decide_eq_true (by first | (with_reducible assumption) | assumption)
         obtain ⟨ad343, A343_1, c343_1, e343, hx343_0, hx343_1, hx343_2, hl343_1, hi343_1⟩ := at_T30 (Kd.V_reads' HO_0.out).2.2 x10_2 p343 q343
         cases e343
         obtain ⟨ce343, hce343, hMe343, hcc343⟩ := Kd.V_get HO_0.out z30 x10_2 p343 (by first | exact q343 | exact of_decide_eq_true (by first | (with_reducible assumption) | assumption) | (have e_ := (Kd.V_reads' HO_0.out).1; omega))
         obtain ⟨ua343_1, uc343_1, rfl, ul343_1, ge343_1⟩ := k30_openF hMe343
         have hv343_1 := hcc343 1 _ rfl
         rw [add_field _ _ 1 (by omega)] at hv343_1
         replace hv343_1 := Option.some.inj (hv343_1.symm.trans hx343_1)
         injection hv343_1 with hva_ hvn_ hvc_
         rw [hva_] at ge343_1
         rw [hvc_] at ul343_1
         have HL343_1 := zK (show Kd.V k47 47 _ w.heap.size _ _ ((rd_T30 l0 x10_2).f0.f1) from Kd.V_mk ul343_1 ge343_1)
         clear hva_ hvn_ hvc_ ge343_1 ul343_1
         clear hcc343 hce343
         have HR343_1 := zK hi343_1
         have HC343_1 := zK hl343_1
         clear hi343_1 hl343_1
         replace p343 := eq_true p343
         replace q343 := eq_true q343
         go_wp2_with (first | ((with_reducible refine zC (f := 17) rfl ?_); refine goesL_ (some 42) rfl rfl Try.func17 (by kernel_rfl) rfl #[.agg #[.int .i64 ((rd_T30 l0 x10_2).f0.f0), .slice A343_1 ((rd_T30 l0 x10_2).f0.f1).length c343_1]] rfl (by (try simp only [List.map_toArray, List.map_cons, List.map_nil]); first | done | rfl | (simp only [List.length_drop, List.length_take]; rfl)) ?_; (with_reducible refine (sequiturref28_Form.calls k2 ((rd_T30 l0 x10_2).f0.f0) _ _ ((rd_T30 l0 x10_2).f0.f1) false _ ?side1 ?side2 A12.out).mono ?_); (case side1 => repeat (first | exact (by repeat (first | (with_reducible exact HR343_1.out) | (with_reducible refine cA ?_ _) | (with_reducible refine cN ?_ _) | (with_reducible refine cD ?_) | exact HR343_1.out)) | (with_reducible refine cA ?_ _) | (with_reducible refine cN ?_ _) | (with_reducible refine cD ?_))); (case side2 => exact HC343_1.out); rintro e w32 ⟨rfl, hb⟩; refine ⟨_, rfl, ?_⟩; have n0_ := zK (Kd.V_below (by (with_reducible repeat (first | apply vA | apply vN | apply vD)); exact HO_0.out) hb); have n1_ := zK (Kd.N_below (by (with_reducible repeat (first | apply nA | apply nN | apply nD)); exact HO_8.out) hb); have n2_ := zK (Kd.V_below (by (with_reducible repeat (first | apply vA | apply vN | apply vD)); exact HL343_1.out) hb); have n3_ := zK (blk_below (g := gb342) (o := .cells #[.int .i64 x343000_2, .slice none 0 0, .bool x343002_2] 30 (0, 0)) (by (with_reducible repeat (first | refine zN ?_ _ | refine zD ?_ | refine zA ?_ _)); exact BK342.out) hb); have n4_ := zK (Kd.C_below (by repeat (first | (with_reducible exact HR343_1.out) | (with_reducible refine cA ?_ _) | (with_reducible refine cN ?_ _) | (with_reducible refine cD ?_) | exact HR343_1.out)) hb); have n5_ := zK (below_step (by repeat (first | (with_reducible first | exact HB.out | apply yA | apply yN | apply yD | refine yS ?_ GE342.out) | exact HB.out)) hb); clear HO_0; clear HO_8; clear HL343_1; clear BK342; clear HR343_1; clear HB; have HO_0 := n0_; have HO_8 := n1_; have HL343_1 := n2_; have BK342 := n3_; have HR343_1 := n4_; have HB := n5_; clear n0_ n1_ n2_ n3_ n4_ n5_; (try clear hb); (try clear hb2); (try clear hk); (try clear hi); have hcz33_0 : w32.cell? ⟨gb342, 0, none⟩ = some (.int .i64 x343000_2) := (blk_cell BK342.out 0).trans rfl; have hcz33_1 : w32.cell? ⟨gb342, 1, none⟩ = some (.slice none 0 0) := (blk_cell BK342.out 1).trans rfl; have hcz33_2 : w32.cell? ⟨gb342, 2, none⟩ = some (.bool x343002_2) := (blk_cell BK342.out 2).trans rfl; have hfz33_0 := blk_frozen BK342.out 0; have hfz33_1 := blk_frozen BK342.out 1; have hfz33_2 := blk_frozen BK342.out 2))
         refine bodyPost_ret (results_ct rfl _ _ gb342 30 #[.int .i64 0, .slice none 0 0, .bool false] (0, 0) _ rfl (by (with_reducible repeat (first | refine zN ?_ _ | refine zD ?_ | refine zA ?_ _)); refine blk_put (cs := #[.int .i64 0, .slice none 0 0, .bool x343002_2]) ?_ 2 _ rfl; (with_reducible repeat (first | refine zN ?_ _ | refine zD ?_ | refine zA ?_ _)); refine blk_put (cs := #[.int .i64 0, .slice none 0 0, .bool x343002_2]) ?_ 1 _ rfl; (with_reducible repeat (first | refine zN ?_ _ | refine zD ?_ | refine zA ?_ _)); refine blk_put (cs := #[.int .i64 x343000_2, .slice none 0 0, .bool x343002_2]) ?_ 0 _ rfl; (with_reducible repeat (first | refine zN ?_ _ | refine zD ?_ | refine zA ?_ _)); exact BK342.out) Try.underlying30 rfl (by kernel_rfl)) rfl ?_
         exact ⟨_, by first | rfl | (simp [errW_none, errW_some] <;> rfl) | (simp [*, errW_none, errW_some] <;> rfl), by first | exact Kd.R_nil _ _ _ _ _ | exact Kd.N_nil _ _ _ _ _ | exact Kd.V_nil _ _ _ _ _ | exact Kd.Q_nil _ _ _ _ _ | exact Kd.S_nil _ _ _ _ _, by repeat (first | (with_reducible first | exact HB.out | apply yA | apply yN | apply yD | refine yS ?_ GE342.out) | exact HB.out)⟩
       ·rw [if_neg c11] at H
        exact absurd H (by simp)
      ·rw [if_neg c10] at H
       have c10b0 : decide (x10_2 < (l0.length : Int)) = false := decide_eq_false c10
       clear c10
       replace H := Option.bind_eq_some_iff.mp H
       obtain ⟨⟨t357, t358, t361⟩, A340, H⟩ := H
       replace H : (if t361 = 0 then (sequiturref28_Sum.l1 k2 a2 x9_2 0 t357 t358) else (some (0, ([] : List (S47)), false, t361))) = some (r1, r2, r3, r4) := H
       have A34 := zK A340
       clear A340
       by_cases c35 : t361 = 0
       ·rw [if_pos c35] at H
        have c35b0 : (t361 == 0) = true := beq_iff_eq.mpr c35
        have c35b1 : (t361 != 0) = false := bne_eq_false_iff_eq.mpr c35
        clear c35
        have H' := zK H
        clear H
        obtain ⟨Ao36, co36, eo36⟩ := Kd.N_slice HO_8.out
        subst eo36
        go_wp2_with (first | ((with_reducible refine zC (f := 32) rfl ?_); refine goesL_ (some 79) rfl rfl Try.func32 (by kernel_rfl) rfl #[.slice Ao36 x8_2.length co36, .slice A1 l1.length c1] rfl (by (try simp only [List.map_toArray, List.map_cons, List.map_nil]); first | done | rfl | (simp only [List.length_drop, List.length_take]; rfl)) ?_; (with_reducible refine (sequiturref28_Lin.calls k2 _ _ x8_2 _ _ l1 t357 t358 t361 _ ?side1 ?side2 ?side3 ?side4 A34.out).mono ?_); (case side1 => repeat (first | exact (Kd.N_reads' HO_8.out).2.2 | (with_reducible refine cA ?_ _) | (with_reducible refine cN ?_ _) | (with_reducible refine cD ?_))); (case side2 => exact (Kd.N_reads' HO_8.out).2.1); (case side3 => repeat (first | exact (Kd.C_below HR1.out HB.out) | (with_reducible refine cA ?_ _) | (with_reducible refine cN ?_ _) | (with_reducible refine cD ?_))); (case side4 => exact HC1.out); rintro e w37 ⟨v359, rfl, ho0, hb⟩; refine ⟨_, rfl, ?_⟩; have n0_ := zK (Kd.V_elder' (by (with_reducible repeat (first | apply vA | apply vN | apply vD)); exact HO_0.out) (Kd.R_base ho0) hb); have n1_ := zK (Kd.N_elder' (by (with_reducible repeat (first | apply nA | apply nN | apply nD)); exact HO_8.out) (Kd.R_base ho0) hb); have n2_ := zK (Kd.R_lower (Kd.R_newM (M := fun k_ => (w.heap.size ≤ k_)) ho0 (below_size (by repeat (first | (with_reducible first | exact HB.out | apply yA | apply yN | apply yD | refine yS ?_ GE342.out) | exact HB.out))) (fun k_ h_ => h_)) (below_size (by repeat (first | (with_reducible first | exact HB.out | apply yA | apply yN | apply yD | refine yS ?_ GE342.out) | exact HB.out)))); have n3_ := zK (blk_below (g := gb342) (o := .cells #[.int .i64 x343000_2, .slice none 0 0, .bool x343002_2] 30 (0, 0)) (by (with_reducible repeat (first | refine zN ?_ _ | refine zD ?_ | refine zA ?_ _)); exact BK342.out) hb); have n4_ := zK (below_step (by repeat (first | (with_reducible first | exact HB.out | apply yA | apply yN | apply yD | refine yS ?_ GE342.out) | exact HB.out)) hb); clear HO_0; clear HO_8; clear BK342; clear HB; have HO_0 := n0_; have HO_8 := n1_; have HO360 := n2_; have BK342 := n3_; have HB := n4_; clear n0_ n1_ n2_ n3_ n4_; (try clear hb); (try clear hb2); (try clear hk); (try clear hi); (try clear ho0)) | ((with_reducible refine gate_dst (N := 11) rfl ?_); (try (refine zG (by rfl) ?_; dsimp only)); refine box_event ?hg (N := 11) ?hd (cs := #[.int .i64 0, .slice none 0 0]) (t := 28) ?hr ?_; (case hd => rfl); (case hg => rfl); (case hr => first | (go_simp; done) | (go_simp; rfl)); intro gb362 hg w38 hbox hb; have n0_ := zK (Kd.V_below (Kd.V_elderB (by (with_reducible repeat (first | apply vA | apply vN | apply vD)); exact HO_0.out) gb362 (Nat.le_of_eq hg.symm)) hb); have n1_ := zK (Kd.N_below (Kd.N_elderB (by (with_reducible repeat (first | apply nA | apply nN | apply nD)); exact HO_8.out) gb362 (Nat.le_of_eq hg.symm)) hb); have n2_ := zK (Kd.R_below (by (with_reducible repeat (first | apply Kd.R_alloc | apply Kd.R_drewN | apply Kd.R_drew)); exact HO360.out) hb); have n3_ := zK (blk_below (g := gb342) (o := .cells #[.int .i64 x343000_2, .slice none 0 0, .bool x343002_2] 30 (0, 0)) (by (with_reducible repeat (first | refine zN ?_ _ | refine zD ?_ | refine zA ?_ _)); exact BK342.out) hb); have n4_ := zK (below_step (by repeat (first | (with_reducible first | exact HB.out | apply yA | apply yN | apply yD | refine yS ?_ GE342.out) | exact HB.out)) hb); have n5_ := zK (hbox); have n6_ := zK ((by rw [hg]; exact (below_size (by repeat (first | (with_reducible first | exact HB.out | apply yA | apply yN | apply yD | refine yS ?_ GE342.out) | exact HB.out))) : w.heap.size ≤ gb362)); have n7_ := zK ((by rw [hg]; exact (below_size (by repeat (first | (with_reducible first | exact HB.out | apply yA | apply yN | apply yD | refine yS ?_ GE342.out) | exact HB.out))) : w.heap.size ≤ gb362)); have n8_ := zK ((by rw [hg]; exact Nat.ne_of_lt (blk_lt (g := gb342) (o := .cells #[.int .i64 x343000_2, .slice none 0 0, .bool x343002_2] 30 (0, 0)) (by (with_reducible repeat (first | refine zN ?_ _ | refine zD ?_ | refine zA ?_ _)); exact BK342.out)) : gb342 ≠ gb362)); have n9_ := zK ((by rw [hg]; exact Nat.ne_of_gt (blk_lt (g := gb342) (o := .cells #[.int .i64 x343000_2, .slice none 0 0, .bool x343002_2] 30 (0, 0)) (by (with_reducible repeat (first | refine zN ?_ _ | refine zD ?_ | refine zA ?_ _)); exact BK342.out)) : gb362 ≠ gb342)); clear HO_0; clear HO_8; clear HO360; clear BK342; clear HB; have HO_0 := n0_; have HO_8 := n1_; have HO360 := n2_; have BK342 := n3_; have HB := n4_; have BK362 := n5_; have GW362 := n6_; have GE362 := n7_; have NB342_362 := n8_; have NB362_342 := n9_; clear n0_ n1_ n2_ n3_ n4_ n5_ n6_ n7_ n8_ n9_; clear hb hbox hg; have hnb39 := NB362_342.out; have hnc39 := NB342_362.out; have hcz40_0 : w38.cell? ⟨gb362, 0, none⟩ = some (.int .i64 0) := (blk_cell BK362.out 0).trans rfl; have hcz40_1 : w38.cell? ⟨gb362, 1, none⟩ = some (.slice none 0 0) := (blk_cell BK362.out 1).trans rfl; have hfz40_0 := blk_frozen BK362.out 0; have hfz40_1 := blk_frozen BK362.out 1; obtain ⟨Ao41, co41, eo41⟩ := Kd.R_slice HO360.out; subst eo41))
        go_loopg [13] k2 (fun kq v13 w' => ∃ (x13_3 : Int) (x343000_3 : Int) (x343002_3 : Bool), v13 = .int .i64 x13_3 ∧ Aside0 (sequiturref28_Sum.l1 kq a2 x9_2 x13_3 t357 t358 = some (r1, r2, r3, r4)) ∧ Aside0 (kq ≤ k2) ∧ Aside0 (Kd.R k47 47 w' w.heap.size (fun k_ => (w.heap.size ≤ k_)) (.slice Ao41 t358.length co41) t358) ∧ Aside0 (w'.heap[gb342]? = some (.cells #[.int .i64 x343000_3, (.slice none 0 0), .bool x343002_3] 30 (0, 0))) ∧ Aside0 (w'.heap[gb362]? = some (.cells #[.int .i64 t357, (.slice Ao41 t358.length co41)] 28 (0, 0))) ∧ Aside0 (Below w.heap.size w w'))
        case atStart => exact ⟨(0), (x343000_2), (x343002_2), (by first | rfl | (simp; done) | (simp [*]; done)), H', ⟨Nat.le_refl _⟩, ⟨by (with_reducible repeat (first | apply Kd.R_alloc | apply Kd.R_drewN | apply Kd.R_drew)); exact Kd.R_mono (Kd.R_far (p := ⟨gb362, 1, none⟩) (Kd.R_far (p := ⟨gb362, 0, none⟩) (Kd.R_types HO360.out BK362.out (by decide)) (fun _ hk => hk.2) (.int .i64 t357)) (fun _ hk => hk.2) (.slice Ao41 t358.length co41)) (fun _ hk => hk.1.1)⟩, ⟨by (with_reducible repeat (first | refine zN ?_ _ | refine zD ?_ | refine zA ?_ _)); refine blk_far ?_ NB342_362.out _; (with_reducible repeat (first | refine zN ?_ _ | refine zD ?_ | refine zA ?_ _)); refine blk_far ?_ NB342_362.out _; (with_reducible repeat (first | refine zN ?_ _ | refine zD ?_ | refine zA ?_ _)); exact BK342.out⟩, ⟨by (with_reducible repeat (first | refine zN ?_ _ | refine zD ?_ | refine zA ?_ _)); refine blk_put (cs := #[.int .i64 t357, .slice none 0 0]) ?_ 1 _ rfl; (with_reducible repeat (first | refine zN ?_ _ | refine zD ?_ | refine zA ?_ _)); refine blk_put (cs := #[.int .i64 0, .slice none 0 0]) ?_ 0 _ rfl; (with_reducible repeat (first | refine zN ?_ _ | refine zD ?_ | refine zA ?_ _)); exact BK362.out⟩, ⟨by repeat (first | (with_reducible first | exact HB.out | apply yA | apply yN | apply yD | refine yS ?_ GE342.out | refine yS ?_ GE362.out) | exact HB.out)⟩⟩
        case round =>
         clear H'
         try clear c1
         try clear q1
         try clear c2
         try clear p2
         try clear c3
         try clear p3
         try clear q3
         try clear hx3
         try clear c6
         try clear c6b0
         try clear c6b1
         try clear c6b2
         try clear p6
         try clear c7
         try clear c7b0
         try clear c7b1
         try clear c7b2
         try clear c8
         try clear c10
         try clear c10b0
         try clear c11
         try clear c11b0
         try clear c12
         try clear c13
         try clear c14
         try clear c14b0
         try clear c15
         try clear c15b0
         try clear q16
         try clear c17
         try clear c18
         try clear c19
         try clear c26
         try clear c27
         try clear c32
         try clear c34
         try clear p34
         try clear q34
         try clear hx34
         try clear c35
         try clear c35b0
         try clear c35b1
         try clear p35
         try clear q35
         try clear hx35
         try clear c39
         try clear hcz25_0
         try clear hcz25_1
         try clear hcz25_2
         try clear hcz33_0
         try clear hcz33_1
         try clear hcz33_2
         try clear hcz40_0
         try clear hcz40_1
         try clear hcz9_0
         try clear hcz9_1
         try clear hcz9_2
         try clear hfz25_0
         try clear hfz25_1
         try clear hfz25_2
         try clear hfz33_0
         try clear hfz33_1
         try clear hfz33_2
         try clear hfz40_0
         try clear hfz40_1
         try clear hfz9_0
         try clear hfz9_1
         try clear hfz9_2
         try clear hx343_0
         try clear hx343_1
         try clear hx343_2
         try clear hx345_0
         try clear hx346_0
         try clear hx346_1
         try clear hx346_2
         try clear hx347_0
         try clear hx347_1
         try clear hx347_2
         try clear hx351_0
         try clear hx351_1
         try clear hx351_2
         try clear hx352_0
         try clear hx352_1
         try clear hx352_2
         try clear hx356_0
         try clear hx356_1
         try clear hx356_2
         try clear p2
         try clear p343
         try clear p345
         try clear p346
         try clear p347
         try clear p351
         try clear p352
         try clear p356
         try clear q343
         try clear q345
         try clear q346
         try clear q347
         try clear q351
         try clear q352
         try clear q356
         obtain ⟨x13_3, x343000_3, x343002_3, rfl, HA, HK3, HO_363001, BK342, BK362, HB⟩ := hrel
         cases gk with
         | zero => exact absurd HA.out (by simp [sequiturref28_Sum.l1])
         | succ k3 =>
          have H := HA.out
          clear HA
          simp only [sequiturref28_Sum.l1] at H
          by_cases c42 : x13_3 < (t358.length : Int)
          ·rw [if_pos c42] at H
           have c42b0 : decide (x13_3 < (t358.length : Int)) = true := decide_eq_true c42
           clear c42
           by_cases c43 : 0 ≤ x13_3
           ·rw [if_pos c43] at H
            have c43b0 : decide (0 ≤ x13_3) = true := decide_eq_true c43
            clear c43
            by_cases c44 : a2 = 0
            ·rw [if_pos c44] at H
             exact absurd H (by simp)
            ·rw [if_neg c44] at H
             have c44b0 : (a2 == 0) = false := beq_eq_false_iff_ne.mpr c44
             have c44b1 : (a2 != 0) = true := bne_iff_ne.mpr c44
             by_cases c45 : (Int.tmod ((rd_T47 t358 x13_3).f1) a2) = 0
             ·rw [if_pos c45] at H
              have c45b0 : ((Int.tmod ((rd_T47 t358 x13_3).f1) a2) == 0) = true := beq_iff_eq.mpr c45
              have c45b1 : ((Int.tmod ((rd_T47 t358 x13_3).f1) a2) != 0) = false := bne_eq_false_iff_eq.mpr c45
              clear c45
              have H' := zK H
              clear H
              have hnb46 := NB362_342.out
              have hnc46 := NB342_362.out
              have hcz47_0 : wr.cell? ⟨gb362, 0, none⟩ = some (.int .i64 t357) := (blk_cell BK362.out 0).trans rfl
              have hcz47_1 : wr.cell? ⟨gb362, 1, none⟩ = some (.slice Ao41 t358.length co41) := (blk_cell BK362.out 1).trans rfl
              have hfz47_0 := blk_frozen BK362.out 0
              have hfz47_1 := blk_frozen BK362.out 1
              have p363 : 0 ≤ (x13_3 : Int) := of_decide_eq_true (by first | (with_reducible assumption) | assumption)
              have q363 : x13_3 < (t358.length : Int) := of_decide_eq_true (by first | (with_reducible assumption) | assumption)
              obtain ⟨ad363, e363, hx363_0, hx363_1⟩ := at_T47 (Kd.R_reads' HO_363001.out).2.2 x13_3 p363 q363
              cases e363
              replace p363 := eq_true p363
              replace q363 := eq_true q363
              go_wp2
              go_roundg k3
              case measure => have := HJ3.out; have := HK2.out; have := HK3.out; omega
              case rel => exact ⟨(wrap64 (x13_3 + 1)), (x343000_3), (x343002_3), (by first | rfl | (simp; done) | (simp [*]; done)), H', ⟨by have := HJ3.out; have := HK2.out; have := HK3.out; omega⟩, ⟨by (with_reducible repeat (first | apply Kd.R_alloc | apply Kd.R_drewN | apply Kd.R_drew)); exact HO_363001.out⟩, ⟨by (with_reducible repeat (first | refine zN ?_ _ | refine zD ?_ | refine zA ?_ _)); exact BK342.out⟩, ⟨by (with_reducible repeat (first | refine zN ?_ _ | refine zD ?_ | refine zA ?_ _)); exact BK362.out⟩, ⟨by repeat (first | (with_reducible first | exact HB.out | apply yA | apply yN | apply yD | refine yS ?_ GE342.out | refine yS ?_ GE362.out) | exact HB.out)⟩⟩
             ·rw [if_neg c45] at H
              have c45b0 : ((Int.tmod ((rd_T47 t358 x13_3).f1) a2) == 0) = false := beq_eq_false_iff_ne.mpr c45
              have c45b1 : ((Int.tmod ((rd_T47 t358 x13_3).f1) a2) != 0) = true := bne_iff_ne.mpr c45
              simp only [Option.some.injEq, Prod.mk.injEq] at H
              obtain ⟨rfl, rfl, rfl, rfl⟩ := H
              have hnb48 := NB362_342.out
              have hnc48 := NB342_362.out
              have hcz49_0 : wr.cell? ⟨gb362, 0, none⟩ = some (.int .i64 t357) := (blk_cell BK362.out 0).trans rfl
              have hcz49_1 : wr.cell? ⟨gb362, 1, none⟩ = some (.slice Ao41 t358.length co41) := (blk_cell BK362.out 1).trans rfl
              have hfz49_0 := blk_frozen BK362.out 0
              have hfz49_1 := blk_frozen BK362.out 1
              have p363 : 0 ≤ (x13_3 : Int) := of_decide_eq_true (by first | (with_reducible assumption) | assumption)
              have q363 : x13_3 < (t358.length : Int) := of_decide_eq_true (by first | (with_reducible assumption) | assumption)
              obtain ⟨ad363, e363, hx363_0, hx363_1⟩ := at_T47 (Kd.R_reads' HO_363001.out).2.2 x13_3 p363 q363
              cases e363
              replace p363 := eq_true p363
              replace q363 := eq_true q363
              have hcz50_0 : wr.cell? ⟨gb342, 0, none⟩ = some (.int .i64 x343000_3) := (blk_cell BK342.out 0).trans rfl
              have hcz50_1 : wr.cell? ⟨gb342, 1, none⟩ = some (.slice none 0 0) := (blk_cell BK342.out 1).trans rfl
              have hcz50_2 : wr.cell? ⟨gb342, 2, none⟩ = some (.bool x343002_3) := (blk_cell BK342.out 2).trans rfl
              have hfz50_0 := blk_frozen BK342.out 0
              have hfz50_1 := blk_frozen BK342.out 1
              have hfz50_2 := blk_frozen BK342.out 2
              go_wp2
              refine bodyPost_ret (results_ct rfl _ _ gb342 30 #[.int .i64 0, .slice none 0 0, .bool false] (0, 0) _ rfl (by (with_reducible repeat (first | refine zN ?_ _ | refine zD ?_ | refine zA ?_ _)); refine blk_put (cs := #[.int .i64 0, .slice none 0 0, .bool x343002_3]) ?_ 2 _ rfl; (with_reducible repeat (first | refine zN ?_ _ | refine zD ?_ | refine zA ?_ _)); refine blk_put (cs := #[.int .i64 0, .slice none 0 0, .bool x343002_3]) ?_ 1 _ rfl; (with_reducible repeat (first | refine zN ?_ _ | refine zD ?_ | refine zA ?_ _)); refine blk_put (cs := #[.int .i64 x343000_3, .slice none 0 0, .bool x343002_3]) ?_ 0 _ rfl; (with_reducible repeat (first | refine zN ?_ _ | refine zD ?_ | refine zA ?_ _)); exact BK342.out) Try.underlying30 rfl (by kernel_rfl)) rfl ?_
              exact ⟨_, by first | rfl | (simp [errW_none, errW_some] <;> rfl) | (simp [*, errW_none, errW_some] <;> rfl), by first | exact Kd.R_nil _ _ _ _ _ | exact Kd.N_nil _ _ _ _ _ | exact Kd.V_nil _ _ _ _ _ | exact Kd.Q_nil _ _ _ _ _ | exact Kd.S_nil _ _ _ _ _, by repeat (first | (with_reducible first | exact HB.out | apply yA | apply yN | apply yD | refine yS ?_ GE342.out | refine yS ?_ GE362.out) | exact HB.out)⟩
           ·rw [if_neg c43] at H
            exact absurd H (by simp)
          ·rw [if_neg c42] at H
           have c42b0 : decide (x13_3 < (t358.length : Int)) = false := decide_eq_false c42
           clear c42
           replace H := Option.bind_eq_some_iff.mp H
           obtain ⟨⟨t364, t365⟩, A510, H⟩ := H
           replace H : (some (t364, t365, x9_2, 0)) = some (r1, r2, r3, r4) := H
           have A51 := zK A510
           clear A510
           simp only [Option.some.injEq, Prod.mk.injEq] at H
           obtain ⟨rfl, rfl, rfl, rfl⟩ := H
           have hnb52 := NB362_342.out
           have hnc52 := NB342_362.out
           have hcz53_0 : wr.cell? ⟨gb362, 0, none⟩ = some (.int .i64 t357) := (blk_cell BK362.out 0).trans rfl
           have hcz53_1 : wr.cell? ⟨gb362, 1, none⟩ = some (.slice Ao41 t358.length co41) := (blk_cell BK362.out 1).trans rfl
           have hfz53_0 := blk_frozen BK362.out 0
           have hfz53_1 := blk_frozen BK362.out 1
           go_wp2_with (first | ((with_reducible refine zC (f := 33) rfl ?_); refine goesL_ (some 105) rfl rfl Try.func33 (by kernel_rfl) rfl #[.agg #[.int .i64 t357, .slice Ao41 t358.length co41], .int .i64 a2] rfl (by (try simp only [List.map_toArray, List.map_cons, List.map_nil]); first | done | rfl | (simp only [List.length_drop, List.length_take]; rfl)) ?_; (with_reducible refine (sequiturref28_by.calls k3 t357 _ _ t358 a2 t364 t365 _ ?side1 ?side2 A51.out).mono ?_); (case side1 => repeat (first | exact (Kd.R_reads' HO_363001.out).2.2 | (with_reducible refine cA ?_ _) | (with_reducible refine cN ?_ _) | (with_reducible refine cD ?_))); (case side2 => exact (Kd.R_reads' HO_363001.out).2.1); rintro e w54 ⟨v366, rfl, ho0, hb⟩; refine ⟨_, rfl, ?_⟩; have n0_ := zK (Kd.R_elder' (by (with_reducible repeat (first | apply Kd.R_alloc | apply Kd.R_drewN | apply Kd.R_drew)); exact HO_363001.out) (Kd.R_base ho0) hb); have n1_ := zK (Kd.R_lower (Kd.R_new' (Kd.R_newM (M := fun k_ => (w.heap.size ≤ k_)) ho0 (below_size (by repeat (first | (with_reducible first | exact HB.out | apply yA | apply yN | apply yD | refine yS ?_ GE342.out | refine yS ?_ GE362.out) | exact HB.out))) (fun k_ h_ => h_)) (Kd.R_lt (by (with_reducible repeat (first | apply Kd.R_alloc | apply Kd.R_drewN | apply Kd.R_drew)); exact HO_363001.out))) (below_size (by repeat (first | (with_reducible first | exact HB.out | apply yA | apply yN | apply yD | refine yS ?_ GE342.out | refine yS ?_ GE362.out) | exact HB.out)))); have n2_ := zK (blk_below (g := gb342) (o := .cells #[.int .i64 x343000_3, .slice none 0 0, .bool x343002_3] 30 (0, 0)) (by (with_reducible repeat (first | refine zN ?_ _ | refine zD ?_ | refine zA ?_ _)); exact BK342.out) hb); have n3_ := zK (blk_below (g := gb362) (o := .cells #[.int .i64 t357, .slice Ao41 t358.length co41] 28 (0, 0)) (by (with_reducible repeat (first | refine zN ?_ _ | refine zD ?_ | refine zA ?_ _)); exact BK362.out) hb); have n4_ := zK (below_step (by repeat (first | (with_reducible first | exact HB.out | apply yA | apply yN | apply yD | refine yS ?_ GE342.out | refine yS ?_ GE362.out) | exact HB.out)) hb); clear HO_363001; clear BK342; clear BK362; clear HB; have HO_363001 := n0_; have HO367 := n1_; have BK342 := n2_; have BK362 := n3_; have HB := n4_; clear n0_ n1_ n2_ n3_ n4_; (try clear hb); (try clear hb2); (try clear hk); (try clear hi); (try clear ho0); obtain ⟨Ao55, co55, eo55⟩ := Kd.R_slice HO367.out; subst eo55; have hcz56_0 : w54.cell? ⟨gb342, 0, none⟩ = some (.int .i64 x343000_3) := (blk_cell BK342.out 0).trans rfl; have hcz56_1 : w54.cell? ⟨gb342, 1, none⟩ = some (.slice none 0 0) := (blk_cell BK342.out 1).trans rfl; have hcz56_2 : w54.cell? ⟨gb342, 2, none⟩ = some (.bool x343002_3) := (blk_cell BK342.out 2).trans rfl; have hfz56_0 := blk_frozen BK342.out 0; have hfz56_1 := blk_frozen BK342.out 1; have hfz56_2 := blk_frozen BK342.out 2))
           refine bodyPost_ret (results_ct rfl _ _ gb342 30 #[.int .i64 t364, .slice Ao55 t365.length co55, .bool x9_2] (0, 0) _ rfl (by (with_reducible repeat (first | refine zN ?_ _ | refine zD ?_ | refine zA ?_ _)); refine blk_put (cs := #[.int .i64 t364, .slice Ao55 t365.length co55, .bool x343002_3]) ?_ 2 _ rfl; (with_reducible repeat (first | refine zN ?_ _ | refine zD ?_ | refine zA ?_ _)); refine blk_put (cs := #[.int .i64 t364, .slice none 0 0, .bool x343002_3]) ?_ 1 _ rfl; (with_reducible repeat (first | refine zN ?_ _ | refine zD ?_ | refine zA ?_ _)); refine blk_put (cs := #[.int .i64 x343000_3, .slice none 0 0, .bool x343002_3]) ?_ 0 _ rfl; (with_reducible repeat (first | refine zN ?_ _ | refine zD ?_ | refine zA ?_ _)); exact BK342.out) Try.underlying30 rfl (by kernel_rfl)) rfl ?_
           exact ⟨_, by first | rfl | (simp [errW_none, errW_some] <;> rfl) | (simp [*, errW_none, errW_some] <;> rfl), by (with_reducible repeat (first | apply Kd.R_alloc | apply Kd.R_drewN | apply Kd.R_drew)); exact Kd.R_mono (Kd.R_far (p := ⟨gb342, 2, none⟩) (Kd.R_far (p := ⟨gb342, 1, none⟩) (Kd.R_far (p := ⟨gb342, 0, none⟩) (Kd.R_types HO367.out BK342.out (by decide)) (fun _ hk => hk.2) (.int .i64 t364)) (fun _ hk => hk.2) (.slice Ao55 t365.length co55)) (fun _ hk => hk.2) (.bool x9_2)) (fun _ hk => hk.1.1.1), by repeat (first | (with_reducible first | exact HB.out | apply yA | apply yN | apply yD | refine yS ?_ GE342.out | refine yS ?_ GE362.out) | exact HB.out)⟩
       ·rw [if_neg c35] at H
        have c35b0 : (t361 == 0) = false := beq_eq_false_iff_ne.mpr c35
        have c35b1 : (t361 != 0) = true := bne_iff_ne.mpr c35
        simp only [Option.some.injEq, Prod.mk.injEq] at H
        obtain ⟨rfl, rfl, rfl, rfl⟩ := H
        obtain ⟨Ao57, co57, eo57⟩ := Kd.N_slice HO_8.out
        subst eo57
        go_wp2_with (first | ((with_reducible refine zC (f := 32) rfl ?_); refine goesL_ (some 79) rfl rfl Try.func32 (by kernel_rfl) rfl #[.slice Ao57 x8_2.length co57, .slice A1 l1.length c1] rfl (by (try simp only [List.map_toArray, List.map_cons, List.map_nil]); first | done | rfl | (simp only [List.length_drop, List.length_take]; rfl)) ?_; (with_reducible refine (sequiturref28_Lin.calls k2 _ _ x8_2 _ _ l1 t357 t358 t361 _ ?side1 ?side2 ?side3 ?side4 A34.out).mono ?_); (case side1 => repeat (first | exact (Kd.N_reads' HO_8.out).2.2 | (with_reducible refine cA ?_ _) | (with_reducible refine cN ?_ _) | (with_reducible refine cD ?_))); (case side2 => exact (Kd.N_reads' HO_8.out).2.1); (case side3 => repeat (first | exact (Kd.C_below HR1.out HB.out) | (with_reducible refine cA ?_ _) | (with_reducible refine cN ?_ _) | (with_reducible refine cD ?_))); (case side4 => exact HC1.out); rintro e w58 ⟨v359, rfl, ho0, hb⟩; refine ⟨_, rfl, ?_⟩; have n0_ := zK (Kd.V_elder' (by (with_reducible repeat (first | apply vA | apply vN | apply vD)); exact HO_0.out) (Kd.R_base ho0) hb); have n1_ := zK (Kd.N_elder' (by (with_reducible repeat (first | apply nA | apply nN | apply nD)); exact HO_8.out) (Kd.R_base ho0) hb); have n2_ := zK (Kd.R_lower (Kd.R_newM (M := fun k_ => (w.heap.size ≤ k_)) ho0 (below_size (by repeat (first | (with_reducible first | exact HB.out | apply yA | apply yN | apply yD | refine yS ?_ GE342.out) | exact HB.out))) (fun k_ h_ => h_)) (below_size (by repeat (first | (with_reducible first | exact HB.out | apply yA | apply yN | apply yD | refine yS ?_ GE342.out) | exact HB.out)))); have n3_ := zK (blk_below (g := gb342) (o := .cells #[.int .i64 x343000_2, .slice none 0 0, .bool x343002_2] 30 (0, 0)) (by (with_reducible repeat (first | refine zN ?_ _ | refine zD ?_ | refine zA ?_ _)); exact BK342.out) hb); have n4_ := zK (below_step (by repeat (first | (with_reducible first | exact HB.out | apply yA | apply yN | apply yD | refine yS ?_ GE342.out) | exact HB.out)) hb); clear HO_0; clear HO_8; clear BK342; clear HB; have HO_0 := n0_; have HO_8 := n1_; have HO360 := n2_; have BK342 := n3_; have HB := n4_; clear n0_ n1_ n2_ n3_ n4_; (try clear hb); (try clear hb2); (try clear hk); (try clear hi); (try clear ho0)) | ((with_reducible refine gate_dst (N := 11) rfl ?_); (try (refine zG (by rfl) ?_; dsimp only)); refine box_event ?hg (N := 11) ?hd (cs := #[.int .i64 0, .slice none 0 0]) (t := 28) ?hr ?_; (case hd => rfl); (case hg => rfl); (case hr => first | (go_simp; done) | (go_simp; rfl)); intro gb362 hg w59 hbox hb; have n0_ := zK (Kd.V_below (Kd.V_elderB (by (with_reducible repeat (first | apply vA | apply vN | apply vD)); exact HO_0.out) gb362 (Nat.le_of_eq hg.symm)) hb); have n1_ := zK (Kd.N_below (Kd.N_elderB (by (with_reducible repeat (first | apply nA | apply nN | apply nD)); exact HO_8.out) gb362 (Nat.le_of_eq hg.symm)) hb); have n2_ := zK (Kd.R_below (by (with_reducible repeat (first | apply Kd.R_alloc | apply Kd.R_drewN | apply Kd.R_drew)); exact HO360.out) hb); have n3_ := zK (blk_below (g := gb342) (o := .cells #[.int .i64 x343000_2, .slice none 0 0, .bool x343002_2] 30 (0, 0)) (by (with_reducible repeat (first | refine zN ?_ _ | refine zD ?_ | refine zA ?_ _)); exact BK342.out) hb); have n4_ := zK (below_step (by repeat (first | (with_reducible first | exact HB.out | apply yA | apply yN | apply yD | refine yS ?_ GE342.out) | exact HB.out)) hb); have n5_ := zK (hbox); have n6_ := zK ((by rw [hg]; exact (below_size (by repeat (first | (with_reducible first | exact HB.out | apply yA | apply yN | apply yD | refine yS ?_ GE342.out) | exact HB.out))) : w.heap.size ≤ gb362)); have n7_ := zK ((by rw [hg]; exact (below_size (by repeat (first | (with_reducible first | exact HB.out | apply yA | apply yN | apply yD | refine yS ?_ GE342.out) | exact HB.out))) : w.heap.size ≤ gb362)); have n8_ := zK ((by rw [hg]; exact Nat.ne_of_lt (blk_lt (g := gb342) (o := .cells #[.int .i64 x343000_2, .slice none 0 0, .bool x343002_2] 30 (0, 0)) (by (with_reducible repeat (first | refine zN ?_ _ | refine zD ?_ | refine zA ?_ _)); exact BK342.out)) : gb342 ≠ gb362)); have n9_ := zK ((by rw [hg]; exact Nat.ne_of_gt (blk_lt (g := gb342) (o := .cells #[.int .i64 x343000_2, .slice none 0 0, .bool x343002_2] 30 (0, 0)) (by (with_reducible repeat (first | refine zN ?_ _ | refine zD ?_ | refine zA ?_ _)); exact BK342.out)) : gb362 ≠ gb342)); clear HO_0; clear HO_8; clear HO360; clear BK342; clear HB; have HO_0 := n0_; have HO_8 := n1_; have HO360 := n2_; have BK342 := n3_; have HB := n4_; have BK362 := n5_; have GW362 := n6_; have GE362 := n7_; have NB342_362 := n8_; have NB362_342 := n9_; clear n0_ n1_ n2_ n3_ n4_ n5_ n6_ n7_ n8_ n9_; clear hb hbox hg; have hnb60 := NB362_342.out; have hnc60 := NB342_362.out; have hcz61_0 : w59.cell? ⟨gb362, 0, none⟩ = some (.int .i64 0) := (blk_cell BK362.out 0).trans rfl; have hcz61_1 : w59.cell? ⟨gb362, 1, none⟩ = some (.slice none 0 0) := (blk_cell BK362.out 1).trans rfl; have hfz61_0 := blk_frozen BK362.out 0; have hfz61_1 := blk_frozen BK362.out 1; obtain ⟨Ao62, co62, eo62⟩ := Kd.R_slice HO360.out; subst eo62; have hcz63_0 : w59.cell? ⟨gb342, 0, none⟩ = some (.int .i64 x343000_2) := (blk_cell BK342.out 0).trans rfl; have hcz63_1 : w59.cell? ⟨gb342, 1, none⟩ = some (.slice none 0 0) := (blk_cell BK342.out 1).trans rfl; have hcz63_2 : w59.cell? ⟨gb342, 2, none⟩ = some (.bool x343002_2) := (blk_cell BK342.out 2).trans rfl; have hfz63_0 := blk_frozen BK342.out 0; have hfz63_1 := blk_frozen BK342.out 1; have hfz63_2 := blk_frozen BK342.out 2))
        refine bodyPost_ret (results_ct rfl _ _ gb342 30 #[.int .i64 0, .slice none 0 0, .bool false] (0, 0) _ rfl (by (with_reducible repeat (first | refine zN ?_ _ | refine zD ?_ | refine zA ?_ _)); refine blk_put (cs := #[.int .i64 0, .slice none 0 0, .bool x343002_2]) ?_ 2 _ rfl; (with_reducible repeat (first | refine zN ?_ _ | refine zD ?_ | refine zA ?_ _)); refine blk_put (cs := #[.int .i64 0, .slice none 0 0, .bool x343002_2]) ?_ 1 _ rfl; (with_reducible repeat (first | refine zN ?_ _ | refine zD ?_ | refine zA ?_ _)); refine blk_put (cs := #[.int .i64 x343000_2, .slice none 0 0, .bool x343002_2]) ?_ 0 _ rfl; (with_reducible repeat (first | refine zN ?_ _ | refine zD ?_ | refine zA ?_ _)); refine blk_far ?_ NB342_362.out _; (with_reducible repeat (first | refine zN ?_ _ | refine zD ?_ | refine zA ?_ _)); refine blk_far ?_ NB342_362.out _; (with_reducible repeat (first | refine zN ?_ _ | refine zD ?_ | refine zA ?_ _)); exact BK342.out) Try.underlying30 rfl (by kernel_rfl)) rfl ?_
        exact ⟨_, by first | rfl | (simp [errW_none, errW_some] <;> rfl) | (simp [*, errW_none, errW_some] <;> rfl), by first | exact Kd.R_nil _ _ _ _ _ | exact Kd.N_nil _ _ _ _ _ | exact Kd.V_nil _ _ _ _ _ | exact Kd.Q_nil _ _ _ _ _ | exact Kd.S_nil _ _ _ _ _, by repeat (first | (with_reducible first | exact HB.out | apply yA | apply yN | apply yD | refine yS ?_ GE342.out | refine yS ?_ GE362.out) | exact HB.out)⟩

/-! ### sequiturbase_Monos: function 55 -/
def sequiturbase_Monos.l0 : Nat → List (S47) → List (S47) → Int → Option (Bool)
 | 0, _, _, _ => none
 | k + 1, x0, x1, x5 => if x5 < (x0.length : Int) then (if 0 ≤ x5 then (if x5 < (x1.length : Int) then (if (!(((rd_T47 x0 x5).f0) == ((rd_T47 x1 x5).f0)) || (!(((rd_T47 x0 x5).f1) == ((rd_T47 x1 x5).f1)))) = true then (some false) else (sequiturbase_Monos.l0 k x0 x1 (wrap64 (x5 + 1)))) else (none)) else (none)) else (some true)
def sequiturbase_Monos.f (k : Nat) (l0 : List (S47)) (l1 : List (S47)) : Option (Bool) := if (l0.length : Int) = (l1.length : Int) then (sequiturbase_Monos.l0 k l0 l1 0) else (some false)
theorem sequiturbase_Monos.mono_l : ∀ k, (∀ y0 y1 y2, LeO (sequiturbase_Monos.l0 k y0 y1 y2) (sequiturbase_Monos.l0 (k + 1) y0 y1 y2))
 | 0 => fun _ _ _ r h => by simp [sequiturbase_Monos.l0] at h
 | k + 1 => by
  have ih0 := sequiturbase_Monos.mono_l k
  ·intro y0 y1 y2
   unfold sequiturbase_Monos.l0
   repeat' first
   | (with_reducible exact ih0 _ _ _)
   | (with_reducible exact LeO.refl _)
   | (with_reducible exact LeO.none _)
   | (with_reducible refine LeO.ite ?_ ?_)
   | (with_reducible refine LeO.bind ?_ (fun _ => ?_))
   | exact ih0 _ _ _
   | exact LeO.none _
   | refine LeO.ite ?_ ?_
   | refine LeO.bind ?_ (fun _ => ?_)
theorem sequiturbase_Monos.mono : ∀ a0 a1 k, LeO (sequiturbase_Monos.f k a0 a1) (sequiturbase_Monos.f (k + 1) a0 a1) := by
 intro a0 a1 k
 have ih0 := sequiturbase_Monos.mono_l k
 unfold sequiturbase_Monos.f
 repeat' first
   | (with_reducible exact ih0 _ _ _)
   | (with_reducible exact LeO.refl _)
   | (with_reducible exact LeO.none _)
   | (with_reducible refine LeO.ite ?_ ?_)
   | (with_reducible refine LeO.bind ?_ (fun _ => ?_))
   | exact ih0 _ _ _
   | exact LeO.none _
   | refine LeO.ite ?_ ?_
   | refine LeO.bind ?_ (fun _ => ?_)
set_option maxHeartbeats 8000000 in
set_option maxRecDepth 100000 in
theorem sequiturbase_Monos.calls (k : Nat) (A0 : Option Addr) (c0 : Nat) (l0 : List (S47)) (A1 : Option Addr) (c1 : Nat) (l1 : List (S47)) (r : Bool) (w : World) (hr0 : Kd.C k47 w A0 l0.length l0) (hc0 : l0.length ≤ c0) (hr1 : Kd.C k47 w A1 l1.length l1) (hc1 : l1.length ≤ c1) (h : sequiturbase_Monos.f k l0 l1 = some r) :
  Calls Try.prog 55 #[.slice A0 l0.length c0, .slice A1 l1.length c1] w fun e w' => e = .returned (.bool r) ∧ Drawn0 w w' := by
 have hu47 := Try.underlying47
 have HR0 := zK hr0
 have HC0 := zK hc0
 clear hr0 hc0
 have HR1 := zK hr1
 have HC1 := zK hc1
 clear hr1 hc1
 have H : (if (l0.length : Int) = (l1.length : Int) then (sequiturbase_Monos.l0 k l0 l1 0) else (some false)) = some r := h
 clear h
 by_cases c3 : (l0.length : Int) = (l1.length : Int)
 ·rw [if_pos c3] at H
  have c3b0 : ((l0.length : Int) == (l1.length : Int)) = true := beq_iff_eq.mpr c3
  have c3b1 : ((l0.length : Int) != (l1.length : Int)) = false := bne_eq_false_iff_eq.mpr c3
  have c3b2 : (l0.length == l1.length) = true := by first | simpa using c3 | (simp at c3 ⊢; omega)
  clear c3
  have H' := zK H
  clear H
  go_enter Try.func55, Try.ntmps55
  go_wp2
  repeat (go_quiet (fail); try go_wp2)
  go_loopg [5] k (fun kq v5 w' => ∃ (x5_1 : Int), v5 = .int .i64 x5_1 ∧ Aside0 (sequiturbase_Monos.l0 kq l0 l1 x5_1 = some r) ∧ Aside0 (kq ≤ k) ∧ Drawn0 w w')
  case atStart => exact ⟨(0), (by first | rfl | (simp; done) | (simp [*]; done)), H', ⟨Nat.le_refl _⟩, by repeat (first | exact Drawn0.refl _ | apply Drawn0.step)⟩
  case round =>
   clear H'
   try clear c1
   try clear p2
   try clear c3
   try clear c3b0
   try clear c3b1
   try clear c3b2
   obtain ⟨x5_1, rfl, HA, HK1, ⟨m1, rfl⟩⟩ := hrel
   cases gk with
   | zero => exact absurd HA.out (by simp [sequiturbase_Monos.l0])
   | succ k1 =>
    have H := HA.out
    clear HA
    simp only [sequiturbase_Monos.l0] at H
    by_cases c4 : x5_1 < (l0.length : Int)
    ·rw [if_pos c4] at H
     have c4b0 : decide (x5_1 < (l0.length : Int)) = true := decide_eq_true c4
     clear c4
     by_cases c5 : 0 ≤ x5_1
     ·rw [if_pos c5] at H
      have c5b0 : decide (0 ≤ x5_1) = true := decide_eq_true c5
      clear c5
      by_cases c6 : x5_1 < (l1.length : Int)
      ·rw [if_pos c6] at H
       have c6b0 : decide (x5_1 < (l1.length : Int)) = true := decide_eq_true c6
       clear c6
       by_cases c7 : (!(((rd_T47 l0 x5_1).f0) == ((rd_T47 l1 x5_1).f0)) || (!(((rd_T47 l0 x5_1).f1) == ((rd_T47 l1 x5_1).f1)))) = true
       ·rw [if_pos c7] at H
        have c7b0 : (!(((rd_T47 l0 x5_1).f0) == ((rd_T47 l1 x5_1).f0)) || (!(((rd_T47 l0 x5_1).f1) == ((rd_T47 l1 x5_1).f1)))) = true := c7
        clear c7
        obtain rfl := Option.some.inj H
        have p368 : 0 ≤ (x5_1 : Int) := of_decide_eq_true (by first | (with_reducible assumption) | assumption)
        have q368 : x5_1 < (l0.length : Int) := of_decide_eq_true (by first | (with_reducible assumption) | assumption)
        obtain ⟨ad368, e368, hx368_0, hx368_1⟩ := at_T47 HR0.out x5_1 p368 q368
        cases e368
        replace p368 := eq_true p368
        replace q368 := eq_true q368
        have p369 : 0 ≤ (x5_1 : Int) := of_decide_eq_true (by first | (with_reducible assumption) | assumption)
        have q369 : x5_1 < (l1.length : Int) := of_decide_eq_true (by first | (with_reducible assumption) | assumption)
        obtain ⟨ad369, e369, hx369_0, hx369_1⟩ := at_T47 HR1.out x5_1 p369 q369
        cases e369
        replace p369 := eq_true p369
        replace q369 := eq_true q369
        go_wp2
        repeat (go_quiet (fail); try go_wp2)
        go_ret
        exact ⟨by first | rfl | (simp; done) | (simp [*]; done), by repeat (first | exact Drawn0.refl _ | apply Drawn0.step)⟩
       ·rw [if_neg c7] at H
        have c7b0 : (!(((rd_T47 l0 x5_1).f0) == ((rd_T47 l1 x5_1).f0)) || (!(((rd_T47 l0 x5_1).f1) == ((rd_T47 l1 x5_1).f1)))) = false := by simpa using c7
        clear c7
        have H' := zK H
        clear H
        have p368 : 0 ≤ (x5_1 : Int) := of_decide_eq_true (by first | (with_reducible assumption) | assumption)
        have q368 : x5_1 < (l0.length : Int) := of_decide_eq_true (by first | (with_reducible assumption) | assumption)
        obtain ⟨ad368, e368, hx368_0, hx368_1⟩ := at_T47 HR0.out x5_1 p368 q368
        cases e368
        replace p368 := eq_true p368
        replace q368 := eq_true q368
        have p369 : 0 ≤ (x5_1 : Int) := of_decide_eq_true (by first | (with_reducible assumption) | assumption)
        have q369 : x5_1 < (l1.length : Int) := of_decide_eq_true (by first | (with_reducible assumption) | assumption)
        obtain ⟨ad369, e369, hx369_0, hx369_1⟩ := at_T47 HR1.out x5_1 p369 q369
        cases e369
        replace p369 := eq_true p369
        replace q369 := eq_true q369
        go_wp2
        repeat (go_quiet (fail); try go_wp2)
        go_roundg k1
        case measure => have := HK1.out; omega
        case rel => exact ⟨(wrap64 (x5_1 + 1)), (by first | rfl | (simp; done) | (simp [*]; done)), H', ⟨by have := HK1.out; omega⟩, by repeat (first | exact Drawn0.refl _ | apply Drawn0.step)⟩
      ·rw [if_neg c6] at H
       exact absurd H (by simp)
     ·rw [if_neg c5] at H
      exact absurd H (by simp)
    ·rw [if_neg c4] at H
     have c4b0 : decide (x5_1 < (l0.length : Int)) = false := decide_eq_false c4
     clear c4
     obtain rfl := Option.some.inj H
     go_wp2
     repeat (go_quiet (fail); try go_wp2)
     go_ret
     exact ⟨by first | rfl | (simp; done) | (simp [*]; done), by repeat (first | exact Drawn0.refl _ | apply Drawn0.step)⟩
 ·rw [if_neg c3] at H
  have c3b0 : ((l0.length : Int) == (l1.length : Int)) = false := beq_eq_false_iff_ne.mpr c3
  have c3b1 : ((l0.length : Int) != (l1.length : Int)) = true := bne_iff_ne.mpr c3
  have c3b2 : (l0.length == l1.length) = false := by first | simpa using c3 | (simp at c3 ⊢; omega)
  obtain rfl := Option.some.inj H
  go_enter Try.func55, Try.ntmps55
  go_wp2
  repeat (go_quiet (fail); try go_wp2)
  go_ret
  exact ⟨by first | rfl | (simp; done) | (simp [*]; done), by repeat (first | exact Drawn0.refl _ | apply Drawn0.step)⟩

end Go.Proofs.Ytmedciidghmkkaa.PIneqSums
