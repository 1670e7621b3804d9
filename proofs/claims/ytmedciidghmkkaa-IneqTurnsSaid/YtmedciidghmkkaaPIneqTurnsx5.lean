/- What the call of each function that the law reaches comes to: it answers as the plain function of the same name does, wherever that one answers; and the law itself out of its plain form. Written by a program of this session (an extended copy of the printer); no condition but what stands in each theorem. -/
import Derived.Test.YtmedciidghmkkaaPIneqTurnsx0
import Derived.Test.YtmedciidghmkkaaPIneqTurnsx2
import Derived.Test.YtmedciidghmkkaaPIneqTurnsx4
namespace Go.Proofs.Ytmedciidghmkkaa.PIneqTurns
open Go.RowKit Go.Proofs.YtmedciidghmkkaaW.PrintWords Go.Proofs.YtmedciidghmkkaaW.PrintLast Go.Proofs.YtmedciidghmkkaaW.PrintMore
open Go.Proofs.YtmedciidghmkkaaW.PrintWords renaming blk_drewN → zN, blk_drew → zD, blk_alloc → zA, below_alloc → yA, pw_below_drewN → yN, below_drew1 → yD, below_set → yS, gate_callee → zC, gate_guard → zG
open Go.Proofs.YtmedciidghmkkaaW.PrintWords.Kd renaming V_alloc → vA, V_drewN → vN, V_drew → vD, N_alloc → nA, N_drewN → nN, N_drew → nD, C_alloc → cA, C_drewN → cN, C_drew → cD, V_mono → vM, V_far → vF
open Go.Proofs.YtmedciidghmkkaaW.PrintWords.Aside0 renaming mk → zK
attribute [local go_sem] max2_int min2_int max_two min_two max_three min_three max_four min_four   -- for this text's walks alone
set_option linter.unusedVariables false
set_option linter.unusedSimpArgs false

/-! ### ineq_Sum: function 11 -/
mutual
def ineq_Sum.j0 : Nat → List (S30) → List Int → Bool → Int → Option (Int × (List (S47)) × Bool × Int)
 | 0, _, _, _, _ => none
 | k + 1, x0, x1, x30, x141000 => if x30 = true then (some (0, ([] : List (S47)), false, 1)) else (ineq_Sum.l0 k x1 ([] : List (S28)) (x141000 == 1) x0 (x0.length : Int) 0 x141000)
def ineq_Sum.l0 : Nat → List Int → List (S28) → Bool → List (S30) → Int → Int → Int → Option (Int × (List (S47)) × Bool × Int)
 | 0, _, _, _, _, _, _, _ => none
 | k + 1, x1, x8, x9, x34, x35, x36, x141000 => if x36 < x35 then (if 0 ≤ x36 then (if x36 < (x34.length : Int) then ((ineq_Right.f k ((rd_T30 x34 x36).f0.f0) ((rd_T30 x34 x36).f0.f1) ((rd_T30 x34 x36).f1)).bind fun t144 => (if t144 = 0 then (if x36 < (x1.length : Int) then (if (rd x1 x36) < 0 then (if ((rd_T30 x34 x36).f1 = true) then (if x9 = true then (if x8.length < 4398046511104 then (ineq_Sum.l0 k x1 (x8 ++ [(⟨(rd_T30 x34 x36).f0.f0, (rd_T30 x34 x36).f0.f1⟩ : S28)]) ((rd_T30 x34 x36).f1) x34 x35 (wrap64 (x36 + 1)) x141000) else (none)) else (if x8.length < 4398046511104 then (ineq_Sum.l0 k x1 (x8 ++ [(⟨(rd_T30 x34 x36).f0.f0, (rd_T30 x34 x36).f0.f1⟩ : S28)]) false x34 x35 (wrap64 (x36 + 1)) x141000) else (none))) else (some (0, ([] : List (S47)), false, 1))) else (if x9 = true then (if x8.length < 4398046511104 then (ineq_Sum.l0 k x1 (x8 ++ [(⟨(rd_T30 x34 x36).f0.f0, (rd_T30 x34 x36).f0.f1⟩ : S28)]) ((rd_T30 x34 x36).f1) x34 x35 (wrap64 (x36 + 1)) x141000) else (none)) else (if x8.length < 4398046511104 then (ineq_Sum.l0 k x1 (x8 ++ [(⟨(rd_T30 x34 x36).f0.f0, (rd_T30 x34 x36).f0.f1⟩ : S28)]) false x34 x35 (wrap64 (x36 + 1)) x141000) else (none)))) else (none)) else (some (0, ([] : List (S47)), false, 1)))) else (none)) else (none)) else ((lin_Sum.f k x8 x1).bind fun bt158 => (if bt158.2.2 = 0 then (ineq_Sum.l1 k x9 ([] : List Int) bt158.2.1 (bt158.2.1.length : Int) 0 x141000 bt158.1 bt158.2.1) else (some (0, ([] : List (S47)), false, bt158.2.2))))
def ineq_Sum.l1 : Nat → Bool → List Int → List (S47) → Int → Int → Int → Int → List (S47) → Option (Int × (List (S47)) × Bool × Int)
 | 0, _, _, _, _, _, _, _, _ => none
 | k + 1, x9, x14, x79, x80, x81, x141000, x164000, x164001 => if x81 < x80 then (if 0 ≤ x81 then (if x81 < (x79.length : Int) then (if x14.length < 17592186044416 then (ineq_Sum.l1 k x9 (x14 ++ [(rd_T47 x79 x81).f1]) x79 x80 (wrap64 (x81 + 1)) x141000 x164000 x164001) else (none)) else (none)) else (none)) else ((ineq_all.f x141000 x14).bind fun t169 => (if t169 = true then ((ineq_divided.f k x164000 x164001 x141000).bind fun bt170 => (some (bt170.1, bt170.2, x9, 0))) else (some (0, ([] : List (S47)), false, 30))))
end
def ineq_Sum.f (k : Nat) (l0 : List (S30)) (l1 : List Int) (a2 : Int) : Option (Int × (List (S47)) × Bool × Int) := if (l0.length : Int) = 0 then (ineq_Sum.j0 k l0 l1 true a2) else (if (l0.length : Int) = (l1.length : Int) then (ineq_Sum.j0 k l0 l1 (decide (a2 < 1)) a2) else (ineq_Sum.j0 k l0 l1 true a2))
theorem ineq_Sum.mono_l : ∀ k, (∀ y0 y1 y2 y3, LeO (ineq_Sum.j0 k y0 y1 y2 y3) (ineq_Sum.j0 (k + 1) y0 y1 y2 y3)) ∧ (∀ y0 y1 y2 y3 y4 y5 y6, LeO (ineq_Sum.l0 k y0 y1 y2 y3 y4 y5 y6) (ineq_Sum.l0 (k + 1) y0 y1 y2 y3 y4 y5 y6)) ∧ (∀ y0 y1 y2 y3 y4 y5 y6 y7, LeO (ineq_Sum.l1 k y0 y1 y2 y3 y4 y5 y6 y7) (ineq_Sum.l1 (k + 1) y0 y1 y2 y3 y4 y5 y6 y7))
 | 0 => ⟨fun _ _ _ _ r h => by simp [ineq_Sum.j0] at h, fun _ _ _ _ _ _ _ r h => by simp [ineq_Sum.l0] at h, fun _ _ _ _ _ _ _ _ r h => by simp [ineq_Sum.l1] at h⟩
 | k + 1 => by
  obtain ⟨ih0, ih1, ih2⟩ := ineq_Sum.mono_l k
  refine ⟨?_, ?_, ?_⟩
  ·intro y0 y1 y2 y3
   unfold ineq_Sum.j0
   repeat' first
   | (with_reducible exact ih0 _ _ _ _)
   | (with_reducible exact ih1 _ _ _ _ _ _ _)
   | (with_reducible exact ih2 _ _ _ _ _ _ _ _)
   | (with_reducible exact ineq_Right.mono _ _ _ _)
   | (with_reducible exact ineq_divided.mono _ _ _ _)
   | (with_reducible exact lin_Sum.mono _ _ _)
   | (with_reducible exact LeO.refl _)
   | (with_reducible exact LeO.none _)
   | (with_reducible refine LeO.ite ?_ ?_)
   | (with_reducible refine LeO.bind ?_ (fun _ => ?_))
   | exact ih0 _ _ _ _
   | exact ih1 _ _ _ _ _ _ _
   | exact ih2 _ _ _ _ _ _ _ _
   | exact ineq_Right.mono _ _ _ _
   | exact ineq_divided.mono _ _ _ _
   | exact lin_Sum.mono _ _ _
   | exact LeO.none _
   | refine LeO.ite ?_ ?_
   | refine LeO.bind ?_ (fun _ => ?_)
  ·intro y0 y1 y2 y3 y4 y5 y6
   unfold ineq_Sum.l0
   repeat' first
   | (with_reducible exact ih0 _ _ _ _)
   | (with_reducible exact ih1 _ _ _ _ _ _ _)
   | (with_reducible exact ih2 _ _ _ _ _ _ _ _)
   | (with_reducible exact ineq_Right.mono _ _ _ _)
   | (with_reducible exact ineq_divided.mono _ _ _ _)
   | (with_reducible exact lin_Sum.mono _ _ _)
   | (with_reducible exact LeO.refl _)
   | (with_reducible exact LeO.none _)
   | (with_reducible refine LeO.ite ?_ ?_)
   | (with_reducible refine LeO.bind ?_ (fun _ => ?_))
   | exact ih0 _ _ _ _
   | exact ih1 _ _ _ _ _ _ _
   | exact ih2 _ _ _ _ _ _ _ _
   | exact ineq_Right.mono _ _ _ _
   | exact ineq_divided.mono _ _ _ _
   | exact lin_Sum.mono _ _ _
   | exact LeO.none _
   | refine LeO.ite ?_ ?_
   | refine LeO.bind ?_ (fun _ => ?_)
  ·intro y0 y1 y2 y3 y4 y5 y6 y7
   unfold ineq_Sum.l1
   repeat' first
   | (with_reducible exact ih0 _ _ _ _)
   | (with_reducible exact ih1 _ _ _ _ _ _ _)
   | (with_reducible exact ih2 _ _ _ _ _ _ _ _)
   | (with_reducible exact ineq_Right.mono _ _ _ _)
   | (with_reducible exact ineq_divided.mono _ _ _ _)
   | (with_reducible exact lin_Sum.mono _ _ _)
   | (with_reducible exact LeO.refl _)
   | (with_reducible exact LeO.none _)
   | (with_reducible refine LeO.ite ?_ ?_)
   | (with_reducible refine LeO.bind ?_ (fun _ => ?_))
   | exact ih0 _ _ _ _
   | exact ih1 _ _ _ _ _ _ _
   | exact ih2 _ _ _ _ _ _ _ _
   | exact ineq_Right.mono _ _ _ _
   | exact ineq_divided.mono _ _ _ _
   | exact lin_Sum.mono _ _ _
   | exact LeO.none _
   | refine LeO.ite ?_ ?_
   | refine LeO.bind ?_ (fun _ => ?_)
theorem ineq_Sum.mono : ∀ a0 a1 a2 k, LeO (ineq_Sum.f k a0 a1 a2) (ineq_Sum.f (k + 1) a0 a1 a2) := by
 intro a0 a1 a2 k
 obtain ⟨ih0, ih1, ih2⟩ := ineq_Sum.mono_l k
 unfold ineq_Sum.f
 repeat' first
   | (with_reducible exact ih0 _ _ _ _)
   | (with_reducible exact ih1 _ _ _ _ _ _ _)
   | (with_reducible exact ih2 _ _ _ _ _ _ _ _)
   | (with_reducible exact ineq_Right.mono _ _ _ _)
   | (with_reducible exact ineq_divided.mono _ _ _ _)
   | (with_reducible exact lin_Sum.mono _ _ _)
   | (with_reducible exact LeO.refl _)
   | (with_reducible exact LeO.none _)
   | (with_reducible refine LeO.ite ?_ ?_)
   | (with_reducible refine LeO.bind ?_ (fun _ => ?_))
   | exact ih0 _ _ _ _
   | exact ih1 _ _ _ _ _ _ _
   | exact ih2 _ _ _ _ _ _ _ _
   | exact ineq_Right.mono _ _ _ _
   | exact ineq_divided.mono _ _ _ _
   | exact lin_Sum.mono _ _ _
   | exact LeO.none _
   | refine LeO.ite ?_ ?_
   | refine LeO.bind ?_ (fun _ => ?_)
set_option maxHeartbeats 8000000 in
set_option maxRecDepth 100000 in
theorem ineq_Sum.calls (k : Nat) (P0_ : Nat → Prop) (A0 : Option Addr) (c0 : Nat) (l0 : List (S30)) (A1 : Option Addr) (c1 : Nat) (l1 : List Int) (a2 : Int) (r1 : Int) (r2 : List (S47)) (r3 : Bool) (r4 : Int) (w : World) (hs0 : Kd.V k30 30 w w.heap.size (fun k_ => P0_ k_) (.slice A0 l0.length c0) l0) (hr1 : Kd.C (Kd.int .i64) w A1 l1.length l1) (hc1 : l1.length ≤ c1) (h : ineq_Sum.f k l0 l1 a2 = some (r1, r2, r3, r4)) :
  Calls Try.prog 11 #[.slice A0 l0.length c0, .slice A1 l1.length c1, .int .i64 a2] w fun e w' => ∃ v1_ : Value, e = .returned (.tuple #[.agg #[.int .i64 r1, v1_, .bool r3], .int .i64 r4]) ∧ Kd.R k47 47 w' w.heap.size (fun k_ => (w.heap.size ≤ k_)) v1_ r2 ∧ Below w.heap.size w w' := by
 have hu30 := Try.underlying30
 have hu28 := Try.underlying28
 have hu47 := Try.underlying47
 have HO0 := zK (show Kd.V k30 30 w w.heap.size (fun k_ => (P0_ k_ ∨ w.heap.size ≤ k_)) (.slice A0 l0.length c0) l0 from vM hs0 (fun k_ hk => .inl hk))
 have HR1 := zK hr1
 have HC1 := zK hc1
 clear hr1 hc1
 have HB := zK (Below.refl w.heap.size w)
 have H : (if (l0.length : Int) = 0 then (ineq_Sum.j0 k l0 l1 true a2) else (if (l0.length : Int) = (l1.length : Int) then (ineq_Sum.j0 k l0 l1 (decide (a2 < 1)) a2) else (ineq_Sum.j0 k l0 l1 true a2))) = some (r1, r2, r3, r4) := h
 clear h
 have HC4 := zK H
 clear H
 go_enter Try.func11, Try.ntmps11
 go_upto_region 1 with (first | ((with_reducible refine gate_dst (N := 5) rfl ?_); (try (refine zG (by rfl) ?_; dsimp only)); refine box_event ?hg (N := 5) ?hd (cs := #[.int .i64 a2]) (t := 2) ?hr ?_; (case hd => rfl); (case hg => rfl); (case hr => first | (go_simp; done) | (go_simp; rfl)); intro gb140 hg w5 hbox hb; replace HO0 := zK (Kd.V_below (Kd.V_elderB (zv HO0) gb140 (Nat.le_of_eq hg.symm)) hb); have BK140 := zK (hbox); have GW140 := zK ((by rw [hg]; exact (below_size (zo HB)) : w.heap.size ≤ gb140)); have GE140 := zK ((by rw [hg]; exact (below_size (zo HB)) : w.heap.size ≤ gb140)); replace HB := zK (below_step (zo HB) hb); clear hb hbox hg) | ((with_reducible refine gate_dst (N := 6) rfl ?_); (try (refine zG (by rfl) ?_; dsimp only)); refine box_event ?hg (N := 6) ?hd (cs := #[.int .i64 0, .slice none 0 0, .bool false]) (t := 30) ?hr ?_; (case hd => rfl); (case hg => rfl); (case hr => first | (go_simp; done) | (go_simp; rfl)); intro gb141 hg w6 hbox hb; replace HO0 := zK (Kd.V_below (Kd.V_elderB (zv HO0) gb141 (Nat.le_of_eq hg.symm)) hb); have BK141 := zK (hbox); have GW141 := zK ((by rw [hg]; exact (below_size (zo HB)) : w.heap.size ≤ gb141)); have GE141 := zK ((by rw [hg]; exact (below_size (zo HB)) : w.heap.size ≤ gb141)); replace HB := zK (below_step (zo HB) hb); have NB140_141 := zK ((by rw [hg]; exact Nat.ne_of_lt (blk_lt (g := gb140) (o := .cells #[.int .i64 a2] 2 (0, 0)) (zb BK140)) : gb140 ≠ gb141)); have NB141_140 := zK ((by rw [hg]; exact Nat.ne_of_gt (blk_lt (g := gb140) (o := .cells #[.int .i64 a2] 2 (0, 0)) (zb BK140)) : gb141 ≠ gb140)); replace BK140 := zK (blk_below (g := gb140) (o := .cells #[.int .i64 a2] 2 (0, 0)) (zb BK140) hb); clear hb hbox hg))
 (try simp only [Act.put, List.setIfInBounds_toArray, List.set_cons_zero, List.set_cons_succ])
 go_cut [30] (fun v30 wc => ∃ (kq : Nat) (x30_3 : Bool), v30 = .bool x30_3 ∧ Aside0 (ineq_Sum.j0 kq l0 l1 x30_3 a2 = some (r1, r2, r3, r4)) ∧ Aside0 (kq ≤ k) ∧ Aside0 (Kd.V k30 30 wc w.heap.size (fun k_ => (P0_ k_ ∨ w.heap.size ≤ k_) ∧ k_ ≠ gb140 ∧ k_ ≠ gb141) (.slice A0 l0.length c0) l0) ∧ Aside0 (wc.heap[gb140]? = some (.cells #[.int .i64 a2] 2 (0, 0))) ∧ Aside0 (wc.heap[gb141]? = some (.cells #[.int .i64 0, (.slice none 0 0), .bool false] 30 (0, 0))) ∧ Aside0 (Below w.heap.size w wc))
 case first =>
  have H := HC4.out
  clear HC4
  by_cases c7 : (l0.length : Int) = 0
  ·rw [if_pos c7] at H
   have c7b0 : ((l0.length : Int) == 0) = true := beq_iff_eq.mpr c7
   have c7b1 : ((l0.length : Int) != 0) = false := bne_eq_false_iff_eq.mpr c7
   clear c7
   (first | rw [c7b0] | (simp only [i64_w, i32_w]; rw [c7b0]) | skip)
   have H' := zK H
   clear H
   go_wp2
   go_meet
   case rel => exact ⟨_, (true), (by first | rfl | (simp; done) | (simp [*]; done)), H', ⟨by first | omega | exact Nat.le_refl _⟩, ⟨by (with_reducible repeat (first | apply vA | apply vN | apply vD)); exact vM HO0.out (fun _ hk => ⟨hk.1.1, ⟨hk.1.2, hk.2⟩⟩)⟩, ⟨zb BK140⟩, ⟨zb BK141⟩, ⟨zo HB⟩⟩
  ·rw [if_neg c7] at H
   have c7b0 : ((l0.length : Int) == 0) = false := beq_eq_false_iff_ne.mpr c7
   have c7b1 : ((l0.length : Int) != 0) = true := bne_iff_ne.mpr c7
   have c7b2 : ¬ (l0 = []) := fun h_ => c7 (by rw [h_]; rfl)
   (first | rw [c7b0] | (simp only [i64_w, i32_w]; rw [c7b0]) | skip)
   by_cases c8 : (l0.length : Int) = (l1.length : Int)
   ·rw [if_pos c8] at H
    have c8b0 : ((l0.length : Int) == (l1.length : Int)) = true := beq_iff_eq.mpr c8
    have c8b1 : ((l0.length : Int) != (l1.length : Int)) = false := bne_eq_false_iff_eq.mpr c8
    have c8b2 : (l0.length == l1.length) = true := by first | simpa using c8 | (simp at c8 ⊢; omega)
    clear c8
    have H' := zK H
    clear H
    have hnb9 := NB140_141.out
    have hnc9 := NB141_140.out
    have hcz10_0 : w6.cell? ⟨gb140, 0, none⟩ = some (.int .i64 a2) := (blk_cell BK140.out 0).trans rfl
    have hfz10_0 := blk_frozen BK140.out 0
    go_wp2
    go_meet
    case rel => exact ⟨_, (decide (a2 < 1)), (by first | rfl | (simp; done) | (simp [*]; done)), H', ⟨by first | omega | exact Nat.le_refl _⟩, ⟨by (with_reducible repeat (first | apply vA | apply vN | apply vD)); exact vM HO0.out (fun _ hk => ⟨hk.1.1, ⟨hk.1.2, hk.2⟩⟩)⟩, ⟨zb BK140⟩, ⟨zb BK141⟩, ⟨zo HB⟩⟩
   ·rw [if_neg c8] at H
    have c8b0 : ((l0.length : Int) == (l1.length : Int)) = false := beq_eq_false_iff_ne.mpr c8
    have c8b1 : ((l0.length : Int) != (l1.length : Int)) = true := bne_iff_ne.mpr c8
    have c8b2 : (l0.length == l1.length) = false := by first | simpa using c8 | (simp at c8 ⊢; omega)
    have H' := zK H
    clear H
    go_wp2
    go_meet
    case rel => exact ⟨_, (true), (by first | rfl | (simp; done) | (simp [*]; done)), H', ⟨by first | omega | exact Nat.le_refl _⟩, ⟨by (with_reducible repeat (first | apply vA | apply vN | apply vD)); exact vM HO0.out (fun _ hk => ⟨hk.1.1, ⟨hk.1.2, hk.2⟩⟩)⟩, ⟨zb BK140⟩, ⟨zb BK141⟩, ⟨zo HB⟩⟩
 case rest =>
  clear HC4
  try clear c1
  try clear p2
  try clear c7
  try clear c7b0
  try clear c7b1
  try clear c7b2
  try clear c8
  try clear c8b0
  try clear c8b1
  try clear c8b2
  try clear c9
  try clear hcz10_0
  try clear hfz10_0
  obtain ⟨kq, x30_3, rfl, HA, HJ3, HO_0, BK140, BK141, HB⟩ := hcut
  cases kq with
  | zero => exact absurd HA.out (by simp [ineq_Sum.j0])
  | succ kj3 =>
   have H := HA.out
   clear HA
   simp only [ineq_Sum.j0] at H
   by_cases c11 : x30_3 = true
   ·subst c11
    have H1 : (some (0, ([] : List (S47)), false, 1)) = some (r1, r2, r3, r4) := by rw [if_pos rfl] at H; exact H
    clear H
    have H := H1
    clear H1
    simp only [Option.some.injEq, Prod.mk.injEq] at H
    obtain ⟨rfl, rfl, rfl, rfl⟩ := H
    have hnb12 := NB141_140.out
    have hnc12 := NB140_141.out
    have hcz13_0 : wc.cell? ⟨gb141, 0, none⟩ = some (.int .i64 0) := (blk_cell BK141.out 0).trans rfl
    have hcz13_1 : wc.cell? ⟨gb141, 1, none⟩ = some (.slice none 0 0) := (blk_cell BK141.out 1).trans rfl
    have hcz13_2 : wc.cell? ⟨gb141, 2, none⟩ = some (.bool false) := (blk_cell BK141.out 2).trans rfl
    have hfz13_0 := blk_frozen BK141.out 0
    have hfz13_1 := blk_frozen BK141.out 1
    have hfz13_2 := blk_frozen BK141.out 2
    go_wp2
    refine bodyPost_ret (results_ct rfl _ _ gb141 30 #[.int .i64 0, .slice none 0 0, .bool false] (0, 0) _ rfl (by refine zM ?_; refine blk_put (cs := #[.int .i64 0, .slice none 0 0, .bool false]) ?_ 2 _ rfl; refine zM ?_; refine blk_put (cs := #[.int .i64 0, .slice none 0 0, .bool false]) ?_ 1 _ rfl; refine zM ?_; refine blk_put (cs := #[.int .i64 0, .slice none 0 0, .bool false]) ?_ 0 _ rfl; refine zM ?_; exact BK141.out) Try.underlying30 rfl (by kernel_rfl)) rfl ?_
    exact ⟨_, by first | rfl | (simp [errW_none, errW_some] <;> rfl) | (simp [*, errW_none, errW_some] <;> rfl), by first | exact Kd.R_nil _ _ _ _ _ | exact Kd.N_nil _ _ _ _ _ | exact Kd.V_nil _ _ _ _ _ | exact Kd.Q_nil _ _ _ _ _ | exact Kd.S_nil _ _ _ _ _, zo HB⟩
   ·replace c11 := Bool.eq_false_iff.mpr c11
    subst c11
    have H1 : (ineq_Sum.l0 kj3 l1 ([] : List (S28)) (a2 == 1) l0 (l0.length : Int) 0 a2) = some (r1, r2, r3, r4) := by rw [if_neg (show ¬ (false = true) by decide)] at H; exact H
    clear H
    have H := H1
    clear H1
    have H' := zK H
    clear H
    have hnb14 := NB140_141.out
    have hnc14 := NB141_140.out
    have hcz15_0 : wc.cell? ⟨gb140, 0, none⟩ = some (.int .i64 a2) := (blk_cell BK140.out 0).trans rfl
    have hfz15_0 := blk_frozen BK140.out 0
    go_wp2
    go_loopg [8, 9, 36] kj3 (fun kq v8 v9 v36 w' => ∃ (x8_2 : List (S28)) (x9_2 : Bool) (x36_2 : Int) (x142000_2 : Int) (x142002_2 : Bool), v9 = .bool x9_2 ∧ v36 = .int .i64 x36_2 ∧ Aside0 (ineq_Sum.l0 kq l1 x8_2 x9_2 l0 (l0.length : Int) x36_2 a2 = some (r1, r2, r3, r4)) ∧ Aside0 (kq ≤ kj3) ∧ Aside0 (Kd.N k28 28 w' w.heap.size (fun k_ => (P0_ k_ ∨ w.heap.size ≤ k_) ∧ k_ ≠ gb140 ∧ k_ ≠ gb141) v8 x8_2) ∧ Aside0 (Kd.V k30 30 w' w.heap.size (fun k_ => (P0_ k_ ∨ w.heap.size ≤ k_) ∧ some k_ ≠ (v8 : Value).ownBlock ∧ k_ ≠ gb140 ∧ k_ ≠ gb141) (.slice A0 l0.length c0) l0) ∧ Aside0 (w'.heap[gb140]? = some (.cells #[.int .i64 a2] 2 (0, 0))) ∧ Aside0 (w'.heap[gb141]? = some (.cells #[.int .i64 x142000_2, (.slice none 0 0), .bool x142002_2] 30 (0, 0))) ∧ Aside0 (Below w.heap.size w w'))
    case atStart => exact ⟨(([] : List (S28))), ((a2 == 1)), (0), (0), (false), (by first | rfl | (simp; done) | (simp [*]; done)), (by first | rfl | (simp; done) | (simp [*]; done)), H', ⟨Nat.le_refl _⟩, ⟨by first | exact Kd.S_nil _ _ _ _ _ | exact Kd.N_nil _ _ _ _ _ | exact Kd.V_nil _ _ _ _ _ | exact Kd.Q_nil _ _ _ _ _ | exact Kd.R_nil _ _ _ _ _⟩, ⟨by (with_reducible repeat (first | apply vA | apply vN | apply vD)); exact vM HO_0.out (fun _ hk => ⟨hk.1, ⟨(by simp [Value.ownBlock]), ⟨hk.2.1, hk.2.2⟩⟩⟩)⟩, ⟨zb BK140⟩, ⟨zb BK141⟩, ⟨zo HB⟩⟩
    case round =>
     clear H'
     try clear c1
     try clear p2
     try clear c7
     try clear c7b0
     try clear c7b1
     try clear c7b2
     try clear c8
     try clear c8b0
     try clear c8b1
     try clear c8b2
     try clear c9
     try clear c11
     try clear c12
     try clear c14
     try clear hcz10_0
     try clear hcz13_0
     try clear hcz13_1
     try clear hcz13_2
     try clear hcz15_0
     try clear hfz10_0
     try clear hfz13_0
     try clear hfz13_1
     try clear hfz13_2
     try clear hfz15_0
     try clear p2
     obtain ⟨x8_2, x9_2, x36_2, x142000_2, x142002_2, rfl, rfl, HA, HK2, HO_8, HO_34, BK140, BK141, HB⟩ := hrel
     cases gk with
     | zero => exact absurd HA.out (by simp [ineq_Sum.l0])
     | succ k2 =>
      have H := HA.out
      clear HA
      simp only [ineq_Sum.l0] at H
      by_cases c16 : x36_2 < (l0.length : Int)
      ·rw [if_pos c16] at H
       have c16b0 : decide (x36_2 < (l0.length : Int)) = true := decide_eq_true c16
       clear c16
       by_cases c17 : 0 ≤ x36_2
       ·rw [if_pos c17] at H
        have c17b0 : decide (0 ≤ x36_2) = true := decide_eq_true c17
        clear c17
        by_cases c18 : x36_2 < (l0.length : Int)
        ·rw [if_pos c18] at H
         have c18b0 : decide (x36_2 < (l0.length : Int)) = true := decide_eq_true c18
         clear c18
         replace H := Option.bind_eq_some_iff.mp H
         obtain ⟨t144, A190, H⟩ := H
         replace H : (if t144 = 0 then (if x36_2 < (l1.length : Int) then (if (rd l1 x36_2) < 0 then (if ((rd_T30 l0 x36_2).f1 = true) then (if x9_2 = true then (if x8_2.length < 4398046511104 then (ineq_Sum.l0 k2 l1 (x8_2 ++ [(⟨(rd_T30 l0 x36_2).f0.f0, (rd_T30 l0 x36_2).f0.f1⟩ : S28)]) ((rd_T30 l0 x36_2).f1) l0 (l0.length : Int) (wrap64 (x36_2 + 1)) a2) else (none)) else (if x8_2.length < 4398046511104 then (ineq_Sum.l0 k2 l1 (x8_2 ++ [(⟨(rd_T30 l0 x36_2).f0.f0, (rd_T30 l0 x36_2).f0.f1⟩ : S28)]) false l0 (l0.length : Int) (wrap64 (x36_2 + 1)) a2) else (none))) else (some (0, ([] : List (S47)), false, 1))) else (if x9_2 = true then (if x8_2.length < 4398046511104 then (ineq_Sum.l0 k2 l1 (x8_2 ++ [(⟨(rd_T30 l0 x36_2).f0.f0, (rd_T30 l0 x36_2).f0.f1⟩ : S28)]) ((rd_T30 l0 x36_2).f1) l0 (l0.length : Int) (wrap64 (x36_2 + 1)) a2) else (none)) else (if x8_2.length < 4398046511104 then (ineq_Sum.l0 k2 l1 (x8_2 ++ [(⟨(rd_T30 l0 x36_2).f0.f0, (rd_T30 l0 x36_2).f0.f1⟩ : S28)]) false l0 (l0.length : Int) (wrap64 (x36_2 + 1)) a2) else (none)))) else (none)) else (some (0, ([] : List (S47)), false, 1))) = some (r1, r2, r3, r4) := H
         have A19 := zK A190
         clear A190
         by_cases c20 : t144 = 0
         ·rw [if_pos c20] at H
          have c20b0 : (t144 == 0) = true := beq_iff_eq.mpr c20
          have c20b1 : (t144 != 0) = false := bne_eq_false_iff_eq.mpr c20
          clear c20
          by_cases c21 : x36_2 < (l1.length : Int)
          ·rw [if_pos c21] at H
           have c21b0 : decide (x36_2 < (l1.length : Int)) = true := decide_eq_true c21
           clear c21
           by_cases c22 : (rd l1 x36_2) < 0
           ·rw [if_pos c22] at H
            have c22b0 : decide ((rd l1 x36_2) < 0) = true := decide_eq_true c22
            clear c22
            obtain ⟨bq23, hbq23⟩ : ∃ b_ : Bool, b_ = ((rd_T30 l0 x36_2).f1) := ⟨_, rfl⟩
            replace H : (if (bq23 = true) then (if x9_2 = true then (if x8_2.length < 4398046511104 then (ineq_Sum.l0 k2 l1 (x8_2 ++ [(⟨(rd_T30 l0 x36_2).f0.f0, (rd_T30 l0 x36_2).f0.f1⟩ : S28)]) bq23 l0 (l0.length : Int) (wrap64 (x36_2 + 1)) a2) else (none)) else (if x8_2.length < 4398046511104 then (ineq_Sum.l0 k2 l1 (x8_2 ++ [(⟨(rd_T30 l0 x36_2).f0.f0, (rd_T30 l0 x36_2).f0.f1⟩ : S28)]) false l0 (l0.length : Int) (wrap64 (x36_2 + 1)) a2) else (none))) else (some (0, ([] : List (S47)), false, 1))) = some (r1, r2, r3, r4) := by rw [← hbq23] at H; exact H
            have Nbq23 := zK hbq23
            clear hbq23
            by_cases c24 : (bq23 = true)
            ·subst c24
             have H1 : (if x9_2 = true then (if x8_2.length < 4398046511104 then (ineq_Sum.l0 k2 l1 (x8_2 ++ [(⟨(rd_T30 l0 x36_2).f0.f0, (rd_T30 l0 x36_2).f0.f1⟩ : S28)]) true l0 (l0.length : Int) (wrap64 (x36_2 + 1)) a2) else (none)) else (if x8_2.length < 4398046511104 then (ineq_Sum.l0 k2 l1 (x8_2 ++ [(⟨(rd_T30 l0 x36_2).f0.f0, (rd_T30 l0 x36_2).f0.f1⟩ : S28)]) false l0 (l0.length : Int) (wrap64 (x36_2 + 1)) a2) else (none))) = some (r1, r2, r3, r4) := by rw [if_pos rfl] at H; exact H
             clear H
             have H := H1
             clear H1
             by_cases c25 : x9_2 = true
             ·subst c25
              have H1 : (if x8_2.length < 4398046511104 then (ineq_Sum.l0 k2 l1 (x8_2 ++ [(⟨(rd_T30 l0 x36_2).f0.f0, (rd_T30 l0 x36_2).f0.f1⟩ : S28)]) true l0 (l0.length : Int) (wrap64 (x36_2 + 1)) a2) else (none)) = some (r1, r2, r3, r4) := by rw [if_pos rfl] at H; exact H
              clear H
              have H := H1
              clear H1
              by_cases c26 : x8_2.length < 4398046511104
              ·rw [if_pos c26] at H
               have LMc26 := zK c26
               clear c26
               obtain ⟨y146, hy146⟩ : ∃ y_ : List (S28), y_ = (x8_2 ++ [(⟨(rd_T30 l0 x36_2).f0.f0, (rd_T30 l0 x36_2).f0.f1⟩ : S28)]) := ⟨_, rfl⟩
               replace H : (ineq_Sum.l0 k2 l1 y146 true l0 (l0.length : Int) (wrap64 (x36_2 + 1)) a2) = some (r1, r2, r3, r4) := by first | (rw [hy146]; with_reducible exact H) | (have H2_ := (Option.bind_some _ _).symm.trans H; rw [hy146]; with_reducible exact H2_) | (have H2_ := (Option.bind_some _ _).symm.trans H; with_reducible exact H2_) | with_reducible exact H | (rw [hy146]; exact H) | exact H
               have Ny146 := zK hy146
               clear hy146
               have H' := zK H
               clear H
               have p142 : 0 ≤ (x36_2 : Int) := of_decide_eq_true (by first | (with_reducible assumption) | assumption)
               have q142 : x36_2 < (l0.length : Int) := of_decide_eq_true (by first | (with_reducible assumption) | assumption)
               obtain ⟨ad142, A142_1, c142_1, e142, hx142_0, hx142_1, hx142_2, hl142_1, hi142_1⟩ := at_T30 (Kd.V_reads' HO_34.out).2.2 x36_2 p142 q142
               (try rw [← Nbq23.out] at hx142_2)
               (try rw [← Nbq23.out] at A19)
               cases e142
               obtain ⟨ce142, hce142, hMe142, hcc142⟩ := Kd.V_get HO_34.out z30 x36_2 p142 (by first | exact q142 | exact of_decide_eq_true (by first | (with_reducible assumption) | assumption) | (have e_ := (Kd.V_reads' HO_34.out).1; omega))
               obtain ⟨ua142_1, uc142_1, rfl, ul142_1, ge142_1⟩ := k30_openF hMe142
               have hv142_1 := hcc142 1 _ rfl
               rw [add_field _ _ 1 (by omega)] at hv142_1
               replace hv142_1 := Option.some.inj (hv142_1.symm.trans hx142_1)
               injection hv142_1 with hva_ hvn_ hvc_
               rw [hva_] at ge142_1
               rw [hvc_] at ul142_1
               have HL142_1 := zK (show Kd.V k47 47 _ w.heap.size _ _ ((rd_T30 l0 x36_2).f0.f1) from Kd.V_mk ul142_1 ge142_1)
               clear hva_ hvn_ hvc_ ge142_1 ul142_1 hcc142 hce142
               have HR142_1 := zK hi142_1
               have HC142_1 := zK hl142_1
               clear hi142_1 hl142_1
               replace p142 := eq_true p142
               replace q142 := eq_true q142
               go_wp2_with (first | ((with_reducible refine gate_dst (N := 11) rfl ?_); (try (refine zG (by rfl) ?_; dsimp only)); refine box_event ?hg (N := 11) ?hd (cs := #[.int .i64 0, .slice none 0 0, .bool false]) (t := 30) ?hr ?_; (case hd => rfl); (case hg => rfl); (case hr => first | (go_simp; done) | (go_simp; rfl)); intro gb143 hg w27 hbox hb; replace HO_8 := zK (Kd.N_below (Kd.N_elderB (zn HO_8) gb143 (Nat.le_of_eq hg.symm)) hb); replace HO_34 := zK (Kd.V_below (Kd.V_elderB (zv HO_34) gb143 (Nat.le_of_eq hg.symm)) hb); replace HL142_1 := zK (Kd.V_below (Kd.V_elderB (zv HL142_1) gb143 (Nat.le_of_eq hg.symm)) hb); replace HR142_1 := zK (Kd.C_below (by repeat (first | (with_reducible exact HR142_1.out) | (with_reducible refine cA ?_ _) | (with_reducible refine cN ?_ _) | (with_reducible refine cD ?_) | exact HR142_1.out)) hb); have BK143 := zK (hbox); have GW143 := zK ((by rw [hg]; exact (below_size (zo HB)) : w.heap.size ≤ gb143)); have GE143 := zK ((by rw [hg]; exact (below_size (zo HB)) : w.heap.size ≤ gb143)); replace HB := zK (below_step (zo HB) hb); have NB140_143 := zK ((by rw [hg]; exact Nat.ne_of_lt (blk_lt (g := gb140) (o := .cells #[.int .i64 a2] 2 (0, 0)) (zb BK140)) : gb140 ≠ gb143)); have NB143_140 := zK ((by rw [hg]; exact Nat.ne_of_gt (blk_lt (g := gb140) (o := .cells #[.int .i64 a2] 2 (0, 0)) (zb BK140)) : gb143 ≠ gb140)); replace BK140 := zK (blk_below (g := gb140) (o := .cells #[.int .i64 a2] 2 (0, 0)) (zb BK140) hb); have NB141_143 := zK ((by rw [hg]; exact Nat.ne_of_lt (blk_lt (g := gb141) (o := .cells #[.int .i64 x142000_2, .slice none 0 0, .bool x142002_2] 30 (0, 0)) (zb BK141)) : gb141 ≠ gb143)); have NB143_141 := zK ((by rw [hg]; exact Nat.ne_of_gt (blk_lt (g := gb141) (o := .cells #[.int .i64 x142000_2, .slice none 0 0, .bool x142002_2] 30 (0, 0)) (zb BK141)) : gb143 ≠ gb141)); replace BK141 := zK (blk_below (g := gb141) (o := .cells #[.int .i64 x142000_2, .slice none 0 0, .bool x142002_2] 30 (0, 0)) (zb BK141) hb); clear hb hbox hg; have hnb28 := NB143_140.out; have hnc28 := NB140_143.out; have hnb29 := NB143_141.out; have hnc29 := NB141_143.out; have hcz30_0 : w27.cell? ⟨gb143, 0, none⟩ = some (.int .i64 0) := (blk_cell BK143.out 0).trans rfl; have hcz30_1 : w27.cell? ⟨gb143, 1, none⟩ = some (.slice none 0 0) := (blk_cell BK143.out 1).trans rfl; have hcz30_2 : w27.cell? ⟨gb143, 2, none⟩ = some (.bool false) := (blk_cell BK143.out 2).trans rfl; have hfz30_0 := blk_frozen BK143.out 0; have hfz30_1 := blk_frozen BK143.out 1; have hfz30_2 := blk_frozen BK143.out 2) | ((with_reducible refine zC (f := 18) rfl ?_); refine goesL_ (some 42) rfl rfl Try.func18 (by kernel_rfl) rfl #[.agg #[.int .i64 ((rd_T30 l0 x36_2).f0.f0), .slice A142_1 ((rd_T30 l0 x36_2).f0.f1).length c142_1, .bool true]] rfl (by (try simp only [List.map_toArray, List.map_cons, List.map_nil]); first | done | rfl | (simp only [List.length_drop, List.length_take]; rfl)) ?_; (with_reducible refine (ineq_Right.calls k2 ((rd_T30 l0 x36_2).f0.f0) _ _ ((rd_T30 l0 x36_2).f0.f1) true t144 _ ?side1 ?side2 A19.out).mono ?_); (case side1 => repeat (first | exact ((Kd.V_reads' (by (with_reducible repeat (first | apply vA | apply vN | apply vD)); exact (vM (vF (p := ⟨gb143, 2, none⟩) (vF (p := ⟨gb143, 1, none⟩) (vF (p := ⟨gb143, 0, none⟩) (vM HL142_1.out (fun k_ hk => (⟨hk, hk.2⟩ : _ ∧ k_ ≠ gb143))) (fun _ hk => hk.2) (.int .i64 ((rd_T30 l0 x36_2).f0.f0))) (fun _ hk => hk.2) (.slice A142_1 ((rd_T30 l0 x36_2).f0.f1).length c142_1)) (fun _ hk => hk.2) (.bool true)) (fun _ h_ => h_.1)))).2.2) | (with_reducible refine cA ?_ _) | (with_reducible refine cN ?_ _) | (with_reducible refine cD ?_))); (case side2 => exact HC142_1.out); rintro e w31 ⟨rfl, hb⟩; refine ⟨_, rfl, ?_⟩; replace HO_8 := zK (Kd.N_below (by (with_reducible repeat (first | apply nA | apply nN | apply nD)); exact (Kd.N_mono (Kd.N_far (p := ⟨gb143, 2, none⟩) (Kd.N_far (p := ⟨gb143, 1, none⟩) (Kd.N_far (p := ⟨gb143, 0, none⟩) (Kd.N_mono HO_8.out (fun k_ hk => (⟨hk, hk.2⟩ : _ ∧ k_ ≠ gb143))) (fun _ hk => hk.2) (.int .i64 ((rd_T30 l0 x36_2).f0.f0))) (fun _ hk => hk.2) (.slice A142_1 ((rd_T30 l0 x36_2).f0.f1).length c142_1)) (fun _ hk => hk.2) (.bool true)) (fun _ h_ => h_.1))) hb); replace HO_34 := zK (Kd.V_below (by (with_reducible repeat (first | apply vA | apply vN | apply vD)); exact (vM (vF (p := ⟨gb143, 2, none⟩) (vF (p := ⟨gb143, 1, none⟩) (vF (p := ⟨gb143, 0, none⟩) (vM HO_34.out (fun k_ hk => (⟨hk, hk.2⟩ : _ ∧ k_ ≠ gb143))) (fun _ hk => hk.2) (.int .i64 ((rd_T30 l0 x36_2).f0.f0))) (fun _ hk => hk.2) (.slice A142_1 ((rd_T30 l0 x36_2).f0.f1).length c142_1)) (fun _ hk => hk.2) (.bool true)) (fun _ h_ => h_.1))) hb); replace BK140 := zK (blk_below (g := gb140) (o := .cells #[.int .i64 a2] 2 (0, 0)) (zb BK140) hb); replace BK141 := zK (blk_below (g := gb141) (o := .cells #[.int .i64 x142000_2, .slice none 0 0, .bool x142002_2] 30 (0, 0)) (zb BK141) hb); replace HR142_1 := zK (Kd.C_below ((Kd.V_reads' (by (with_reducible repeat (first | apply vA | apply vN | apply vD)); exact (vM (vF (p := ⟨gb143, 2, none⟩) (vF (p := ⟨gb143, 1, none⟩) (vF (p := ⟨gb143, 0, none⟩) (vM HL142_1.out (fun k_ hk => (⟨hk, hk.2⟩ : _ ∧ k_ ≠ gb143))) (fun _ hk => hk.2) (.int .i64 ((rd_T30 l0 x36_2).f0.f0))) (fun _ hk => hk.2) (.slice A142_1 ((rd_T30 l0 x36_2).f0.f1).length c142_1)) (fun _ hk => hk.2) (.bool true)) (fun _ h_ => h_.1)))).2.2) hb); replace HL142_1 := zK (Kd.V_below (by (with_reducible repeat (first | apply vA | apply vN | apply vD)); exact (vM (vF (p := ⟨gb143, 2, none⟩) (vF (p := ⟨gb143, 1, none⟩) (vF (p := ⟨gb143, 0, none⟩) (vM HL142_1.out (fun k_ hk => (⟨hk, hk.2⟩ : _ ∧ k_ ≠ gb143))) (fun _ hk => hk.2) (.int .i64 ((rd_T30 l0 x36_2).f0.f0))) (fun _ hk => hk.2) (.slice A142_1 ((rd_T30 l0 x36_2).f0.f1).length c142_1)) (fun _ hk => hk.2) (.bool true)) (fun _ h_ => h_.1))) hb); replace BK143 := zK (blk_below (g := gb143) (o := .cells #[.int .i64 ((rd_T30 l0 x36_2).f0.f0), .slice A142_1 ((rd_T30 l0 x36_2).f0.f1).length c142_1, .bool true] 30 (0, 0)) (by refine zM ?_; refine blk_put (cs := #[.int .i64 ((rd_T30 l0 x36_2).f0.f0), .slice A142_1 ((rd_T30 l0 x36_2).f0.f1).length c142_1, .bool false]) ?_ 2 _ rfl; refine zM ?_; refine blk_put (cs := #[.int .i64 ((rd_T30 l0 x36_2).f0.f0), .slice none 0 0, .bool false]) ?_ 1 _ rfl; refine zM ?_; refine blk_put (cs := #[.int .i64 0, .slice none 0 0, .bool false]) ?_ 0 _ rfl; refine zM ?_; exact BK143.out) hb); replace HB := zK (below_step (zo HB) hb); (try clear hb); (try clear hb2); (try clear hk); (try clear hi); have p145 : 0 ≤ (x36_2 : Int) := of_decide_eq_true (by first | (with_reducible assumption) | assumption); have q145 : x36_2 < (l1.length : Int) := of_decide_eq_true (by first | (with_reducible assumption) | assumption); obtain ⟨ad145, e145, hx145_0⟩ := Kd.at_int HR1.out x36_2 p145 q145; cases e145; replace hx145_0 := (HB.out.cell (World.block_lt_of_cell? w _ hx145_0)).trans hx145_0; replace p145 := eq_true p145; replace q145 := eq_true q145; have hcz32_0 : w31.cell? ⟨gb143, 0, none⟩ = some (.int .i64 ((rd_T30 l0 x36_2).f0.f0)) := (blk_cell BK143.out 0).trans rfl; have hcz32_1 : w31.cell? ⟨gb143, 1, none⟩ = some (.slice A142_1 ((rd_T30 l0 x36_2).f0.f1).length c142_1) := (blk_cell BK143.out 1).trans rfl; have hcz32_2 : w31.cell? ⟨gb143, 2, none⟩ = some (.bool true) := (blk_cell BK143.out 2).trans rfl; have hfz32_0 := blk_frozen BK143.out 0; have hfz32_1 := blk_frozen BK143.out 1; have hfz32_2 := blk_frozen BK143.out 2) | ((with_reducible refine gate_builtin (b := .append) (xs := #[.tmp 62, .tmp 65]) rfl ?_); (try (refine zG (by rfl) ?_; dsimp only)); at_builtin; refine Kd.N_append k28 (w0 := w) w.heap.size rfl (.tmp 62) (.tmp 65) 48 28 (.agg #[(.int .i64 0), (.slice none 0 0)]) 32 rfl Try.underlying48 info28 rfl (by decide) (by omega) u8 x8_2 (⟨(rd_T30 l0 x36_2).f0.f0, (rd_T30 l0 x36_2).f0.f1⟩ : S28) [.int .i64 ((rd_T30 l0 x36_2).f0.f0), .slice A142_1 ((rd_T30 l0 x36_2).f0.f1).length c142_1] (fun k_ => (P0_ k_ ∨ w.heap.size ≤ k_) ∧ k_ ≠ gb140 ∧ k_ ≠ gb141 ∧ k_ ≠ gb143) (fun k_ => ((fun k_ => (P0_ k_ ∨ w.heap.size ≤ k_) ∧ k_ ≠ gb140 ∧ k_ ≠ gb141 ∧ k_ ≠ gb143)) k_ ∧ some k_ ≠ (u8 : Value).ownBlock) rfl rfl ?aP (fun _ hk => hk) ?aF ?aO ?aB ?aS ?aL ?_; (case aP => exact (k28_mkF _ _ (⟨(rd_T30 l0 x36_2).f0.f0, (rd_T30 l0 x36_2).f0.f1⟩ : S28) (Kd.V_reads' (vM (ok' := (fun k_ => ((fun k_ => (P0_ k_ ∨ w.heap.size ≤ k_) ∧ k_ ≠ gb140 ∧ k_ ≠ gb141 ∧ k_ ≠ gb143)) k_ ∧ some k_ ≠ (u8 : Value).ownBlock)) (HL142_1.out) (fun k_ hk => ⟨⟨hk.1.1, ⟨hk.1.2.2.1, ⟨hk.1.2.2.2, hk.2⟩⟩⟩, hk.1.2.1⟩))).2.1 (Kd.V_F (vM (ok' := (fun k_ => ((fun k_ => (P0_ k_ ∨ w.heap.size ≤ k_) ∧ k_ ≠ gb140 ∧ k_ ≠ gb141 ∧ k_ ≠ gb143)) k_ ∧ some k_ ≠ (u8 : Value).ownBlock)) (HL142_1.out) (fun k_ hk => ⟨⟨hk.1.1, ⟨hk.1.2.2.1, ⟨hk.1.2.2.2, hk.2⟩⟩⟩, hk.1.2.1⟩))))); (case aB => exact (zo HB)); (case aF => exact (fun k_ hk => ⟨(.inr (Nat.le_trans (below_size (zo HB)) hk)), Kd.freshB (g := gb140) (o := .cells #[.int .i64 a2] 2 (0, 0)) (zb BK140) k_ hk, Kd.freshB (g := gb141) (o := .cells #[.int .i64 x142000_2, .slice none 0 0, .bool x142002_2] 30 (0, 0)) (zb BK141) k_ hk, Kd.freshB (g := gb143) (o := .cells #[.int .i64 ((rd_T30 l0 x36_2).f0.f0), .slice A142_1 ((rd_T30 l0 x36_2).f0.f1).length c142_1, .bool true] 30 (0, 0)) (zb BK143) k_ hk⟩)); (case aO => exact (by (with_reducible repeat (first | apply nA | apply nN | apply nD)); exact Kd.N_mono HO_8.out (fun _ hk => ⟨hk.1.1, ⟨hk.1.2.1, ⟨hk.1.2.2, hk.2⟩⟩⟩))); (case aS => exact (below_size (zo HB))); (case aL => have := LMc26.out; omega); intro v147 w33 ho hb hg hat; rw [← Ny146.out] at ho; replace HO_34 := zK (Kd.V_afterv (ok := (fun k_ => (P0_ k_ ∨ w.heap.size ≤ k_) ∧ k_ ≠ gb140 ∧ k_ ≠ gb141 ∧ k_ ≠ gb143)) (by (with_reducible repeat (first | apply vA | apply vN | apply vD)); exact vM HO_34.out (fun _ hk => ⟨⟨hk.1.1, ⟨hk.1.2.2.1, ⟨hk.1.2.2.2, hk.2⟩⟩⟩, hk.1.2.1⟩)) hg hat); replace BK140 := zK (blk_grown (g := gb140) (o := .cells #[.int .i64 a2] 2 (0, 0)) (zb BK140) hg (Kd.N_ne HO_8.out BK140.out (by decide))); replace BK141 := zK (blk_grown (g := gb141) (o := .cells #[.int .i64 x142000_2, .slice none 0 0, .bool x142002_2] 30 (0, 0)) (zb BK141) hg (Kd.N_ne HO_8.out BK141.out (by decide))); replace HL142_1 := zK (Kd.V_afterv (ok := (fun k_ => (P0_ k_ ∨ w.heap.size ≤ k_) ∧ k_ ≠ gb140 ∧ k_ ≠ gb141 ∧ k_ ≠ gb143)) (by (with_reducible repeat (first | apply vA | apply vN | apply vD)); exact vM HL142_1.out (fun _ hk => ⟨⟨hk.1.1, ⟨hk.1.2.2.1, ⟨hk.1.2.2.2, hk.2⟩⟩⟩, hk.1.2.1⟩)) hg hat); replace BK143 := zK (blk_grown (g := gb143) (o := .cells #[.int .i64 ((rd_T30 l0 x36_2).f0.f0), .slice A142_1 ((rd_T30 l0 x36_2).f0.f1).length c142_1, .bool true] 30 (0, 0)) (zb BK143) hg (Kd.N_ne HO_8.out BK143.out (by decide))); replace HB := zK (hb); have HO148 := zK (ho); clear HO_8 ho hb hg hat))
               go_roundg k2
               case measure => have := HJ3.out; have := HK2.out; omega
               case rel => exact ⟨(y146), (true), (wrap64 (x36_2 + 1)), (x142000_2), (x142002_2), (by first | rfl | (simp; done) | (simp [*]; done)), (by first | rfl | (simp; done) | (simp [*]; done)), H', ⟨by have := HJ3.out; have := HK2.out; omega⟩, ⟨by (with_reducible repeat (first | apply nA | apply nN | apply nD)); exact Kd.N_mono HO148.out (fun _ hk => ⟨hk.1, ⟨hk.2.1, hk.2.2.1⟩⟩)⟩, ⟨by (with_reducible repeat (first | apply vA | apply vN | apply vD)); exact vM HO_34.out (fun _ hk => ⟨hk.1.1, ⟨hk.2, ⟨hk.1.2.1, hk.1.2.2.1⟩⟩⟩)⟩, ⟨zb BK140⟩, ⟨zb BK141⟩, ⟨zo HB⟩⟩
              ·rw [if_neg c26] at H
               exact absurd H (by simp)
             ·replace c25 := Bool.eq_false_iff.mpr c25
              subst c25
              have H1 : (if x8_2.length < 4398046511104 then (ineq_Sum.l0 k2 l1 (x8_2 ++ [(⟨(rd_T30 l0 x36_2).f0.f0, (rd_T30 l0 x36_2).f0.f1⟩ : S28)]) false l0 (l0.length : Int) (wrap64 (x36_2 + 1)) a2) else (none)) = some (r1, r2, r3, r4) := by rw [if_neg (show ¬ (false = true) by decide)] at H; exact H
              clear H
              have H := H1
              clear H1
              by_cases c34 : x8_2.length < 4398046511104
              ·rw [if_pos c34] at H
               have LMc34 := zK c34
               clear c34
               obtain ⟨y149, hy149⟩ : ∃ y_ : List (S28), y_ = (x8_2 ++ [(⟨(rd_T30 l0 x36_2).f0.f0, (rd_T30 l0 x36_2).f0.f1⟩ : S28)]) := ⟨_, rfl⟩
               replace H : (ineq_Sum.l0 k2 l1 y149 false l0 (l0.length : Int) (wrap64 (x36_2 + 1)) a2) = some (r1, r2, r3, r4) := by first | (rw [hy149]; with_reducible exact H) | (have H2_ := (Option.bind_some _ _).symm.trans H; rw [hy149]; with_reducible exact H2_) | (have H2_ := (Option.bind_some _ _).symm.trans H; with_reducible exact H2_) | with_reducible exact H | (rw [hy149]; exact H) | exact H
               have Ny149 := zK hy149
               clear hy149
               have H' := zK H
               clear H
               have p142 : 0 ≤ (x36_2 : Int) := of_decide_eq_true (by first | (with_reducible assumption) | assumption)
               have q142 : x36_2 < (l0.length : Int) := of_decide_eq_true (by first | (with_reducible assumption) | assumption)
               obtain ⟨ad142, A142_1, c142_1, e142, hx142_0, hx142_1, hx142_2, hl142_1, hi142_1⟩ := at_T30 (Kd.V_reads' HO_34.out).2.2 x36_2 p142 q142
               (try rw [← Nbq23.out] at hx142_2)
               (try rw [← Nbq23.out] at A19)
               cases e142
               obtain ⟨ce142, hce142, hMe142, hcc142⟩ := Kd.V_get HO_34.out z30 x36_2 p142 (by first | exact q142 | exact of_decide_eq_true (by first | (with_reducible assumption) | assumption) | (have e_ := (Kd.V_reads' HO_34.out).1; omega))
               obtain ⟨ua142_1, uc142_1, rfl, ul142_1, ge142_1⟩ := k30_openF hMe142
               have hv142_1 := hcc142 1 _ rfl
               rw [add_field _ _ 1 (by omega)] at hv142_1
               replace hv142_1 := Option.some.inj (hv142_1.symm.trans hx142_1)
               injection hv142_1 with hva_ hvn_ hvc_
               rw [hva_] at ge142_1
               rw [hvc_] at ul142_1
               have HL142_1 := zK (show Kd.V k47 47 _ w.heap.size _ _ ((rd_T30 l0 x36_2).f0.f1) from Kd.V_mk ul142_1 ge142_1)
               clear hva_ hvn_ hvc_ ge142_1 ul142_1 hcc142 hce142
               have HR142_1 := zK hi142_1
               have HC142_1 := zK hl142_1
               clear hi142_1 hl142_1
               replace p142 := eq_true p142
               replace q142 := eq_true q142
               go_wp2_with (first | ((with_reducible refine gate_dst (N := 11) rfl ?_); (try (refine zG (by rfl) ?_; dsimp only)); refine box_event ?hg (N := 11) ?hd (cs := #[.int .i64 0, .slice none 0 0, .bool false]) (t := 30) ?hr ?_; (case hd => rfl); (case hg => rfl); (case hr => first | (go_simp; done) | (go_simp; rfl)); intro gb143 hg w35 hbox hb; replace HO_8 := zK (Kd.N_below (Kd.N_elderB (zn HO_8) gb143 (Nat.le_of_eq hg.symm)) hb); replace HO_34 := zK (Kd.V_below (Kd.V_elderB (zv HO_34) gb143 (Nat.le_of_eq hg.symm)) hb); replace HL142_1 := zK (Kd.V_below (Kd.V_elderB (zv HL142_1) gb143 (Nat.le_of_eq hg.symm)) hb); replace HR142_1 := zK (Kd.C_below (by repeat (first | (with_reducible exact HR142_1.out) | (with_reducible refine cA ?_ _) | (with_reducible refine cN ?_ _) | (with_reducible refine cD ?_) | exact HR142_1.out)) hb); have BK143 := zK (hbox); have GW143 := zK ((by rw [hg]; exact (below_size (zo HB)) : w.heap.size ≤ gb143)); have GE143 := zK ((by rw [hg]; exact (below_size (zo HB)) : w.heap.size ≤ gb143)); replace HB := zK (below_step (zo HB) hb); have NB140_143 := zK ((by rw [hg]; exact Nat.ne_of_lt (blk_lt (g := gb140) (o := .cells #[.int .i64 a2] 2 (0, 0)) (zb BK140)) : gb140 ≠ gb143)); have NB143_140 := zK ((by rw [hg]; exact Nat.ne_of_gt (blk_lt (g := gb140) (o := .cells #[.int .i64 a2] 2 (0, 0)) (zb BK140)) : gb143 ≠ gb140)); replace BK140 := zK (blk_below (g := gb140) (o := .cells #[.int .i64 a2] 2 (0, 0)) (zb BK140) hb); have NB141_143 := zK ((by rw [hg]; exact Nat.ne_of_lt (blk_lt (g := gb141) (o := .cells #[.int .i64 x142000_2, .slice none 0 0, .bool x142002_2] 30 (0, 0)) (zb BK141)) : gb141 ≠ gb143)); have NB143_141 := zK ((by rw [hg]; exact Nat.ne_of_gt (blk_lt (g := gb141) (o := .cells #[.int .i64 x142000_2, .slice none 0 0, .bool x142002_2] 30 (0, 0)) (zb BK141)) : gb143 ≠ gb141)); replace BK141 := zK (blk_below (g := gb141) (o := .cells #[.int .i64 x142000_2, .slice none 0 0, .bool x142002_2] 30 (0, 0)) (zb BK141) hb); clear hb hbox hg; have hnb36 := NB143_140.out; have hnc36 := NB140_143.out; have hnb37 := NB143_141.out; have hnc37 := NB141_143.out; have hcz38_0 : w35.cell? ⟨gb143, 0, none⟩ = some (.int .i64 0) := (blk_cell BK143.out 0).trans rfl; have hcz38_1 : w35.cell? ⟨gb143, 1, none⟩ = some (.slice none 0 0) := (blk_cell BK143.out 1).trans rfl; have hcz38_2 : w35.cell? ⟨gb143, 2, none⟩ = some (.bool false) := (blk_cell BK143.out 2).trans rfl; have hfz38_0 := blk_frozen BK143.out 0; have hfz38_1 := blk_frozen BK143.out 1; have hfz38_2 := blk_frozen BK143.out 2) | ((with_reducible refine zC (f := 18) rfl ?_); refine goesL_ (some 42) rfl rfl Try.func18 (by kernel_rfl) rfl #[.agg #[.int .i64 ((rd_T30 l0 x36_2).f0.f0), .slice A142_1 ((rd_T30 l0 x36_2).f0.f1).length c142_1, .bool true]] rfl (by (try simp only [List.map_toArray, List.map_cons, List.map_nil]); first | done | rfl | (simp only [List.length_drop, List.length_take]; rfl)) ?_; (with_reducible refine (ineq_Right.calls k2 ((rd_T30 l0 x36_2).f0.f0) _ _ ((rd_T30 l0 x36_2).f0.f1) true t144 _ ?side1 ?side2 A19.out).mono ?_); (case side1 => repeat (first | exact ((Kd.V_reads' (by (with_reducible repeat (first | apply vA | apply vN | apply vD)); exact (vM (vF (p := ⟨gb143, 2, none⟩) (vF (p := ⟨gb143, 1, none⟩) (vF (p := ⟨gb143, 0, none⟩) (vM HL142_1.out (fun k_ hk => (⟨hk, hk.2⟩ : _ ∧ k_ ≠ gb143))) (fun _ hk => hk.2) (.int .i64 ((rd_T30 l0 x36_2).f0.f0))) (fun _ hk => hk.2) (.slice A142_1 ((rd_T30 l0 x36_2).f0.f1).length c142_1)) (fun _ hk => hk.2) (.bool true)) (fun _ h_ => h_.1)))).2.2) | (with_reducible refine cA ?_ _) | (with_reducible refine cN ?_ _) | (with_reducible refine cD ?_))); (case side2 => exact HC142_1.out); rintro e w39 ⟨rfl, hb⟩; refine ⟨_, rfl, ?_⟩; replace HO_8 := zK (Kd.N_below (by (with_reducible repeat (first | apply nA | apply nN | apply nD)); exact (Kd.N_mono (Kd.N_far (p := ⟨gb143, 2, none⟩) (Kd.N_far (p := ⟨gb143, 1, none⟩) (Kd.N_far (p := ⟨gb143, 0, none⟩) (Kd.N_mono HO_8.out (fun k_ hk => (⟨hk, hk.2⟩ : _ ∧ k_ ≠ gb143))) (fun _ hk => hk.2) (.int .i64 ((rd_T30 l0 x36_2).f0.f0))) (fun _ hk => hk.2) (.slice A142_1 ((rd_T30 l0 x36_2).f0.f1).length c142_1)) (fun _ hk => hk.2) (.bool true)) (fun _ h_ => h_.1))) hb); replace HO_34 := zK (Kd.V_below (by (with_reducible repeat (first | apply vA | apply vN | apply vD)); exact (vM (vF (p := ⟨gb143, 2, none⟩) (vF (p := ⟨gb143, 1, none⟩) (vF (p := ⟨gb143, 0, none⟩) (vM HO_34.out (fun k_ hk => (⟨hk, hk.2⟩ : _ ∧ k_ ≠ gb143))) (fun _ hk => hk.2) (.int .i64 ((rd_T30 l0 x36_2).f0.f0))) (fun _ hk => hk.2) (.slice A142_1 ((rd_T30 l0 x36_2).f0.f1).length c142_1)) (fun _ hk => hk.2) (.bool true)) (fun _ h_ => h_.1))) hb); replace BK140 := zK (blk_below (g := gb140) (o := .cells #[.int .i64 a2] 2 (0, 0)) (zb BK140) hb); replace BK141 := zK (blk_below (g := gb141) (o := .cells #[.int .i64 x142000_2, .slice none 0 0, .bool x142002_2] 30 (0, 0)) (zb BK141) hb); replace HR142_1 := zK (Kd.C_below ((Kd.V_reads' (by (with_reducible repeat (first | apply vA | apply vN | apply vD)); exact (vM (vF (p := ⟨gb143, 2, none⟩) (vF (p := ⟨gb143, 1, none⟩) (vF (p := ⟨gb143, 0, none⟩) (vM HL142_1.out (fun k_ hk => (⟨hk, hk.2⟩ : _ ∧ k_ ≠ gb143))) (fun _ hk => hk.2) (.int .i64 ((rd_T30 l0 x36_2).f0.f0))) (fun _ hk => hk.2) (.slice A142_1 ((rd_T30 l0 x36_2).f0.f1).length c142_1)) (fun _ hk => hk.2) (.bool true)) (fun _ h_ => h_.1)))).2.2) hb); replace HL142_1 := zK (Kd.V_below (by (with_reducible repeat (first | apply vA | apply vN | apply vD)); exact (vM (vF (p := ⟨gb143, 2, none⟩) (vF (p := ⟨gb143, 1, none⟩) (vF (p := ⟨gb143, 0, none⟩) (vM HL142_1.out (fun k_ hk => (⟨hk, hk.2⟩ : _ ∧ k_ ≠ gb143))) (fun _ hk => hk.2) (.int .i64 ((rd_T30 l0 x36_2).f0.f0))) (fun _ hk => hk.2) (.slice A142_1 ((rd_T30 l0 x36_2).f0.f1).length c142_1)) (fun _ hk => hk.2) (.bool true)) (fun _ h_ => h_.1))) hb); replace BK143 := zK (blk_below (g := gb143) (o := .cells #[.int .i64 ((rd_T30 l0 x36_2).f0.f0), .slice A142_1 ((rd_T30 l0 x36_2).f0.f1).length c142_1, .bool true] 30 (0, 0)) (by refine zM ?_; refine blk_put (cs := #[.int .i64 ((rd_T30 l0 x36_2).f0.f0), .slice A142_1 ((rd_T30 l0 x36_2).f0.f1).length c142_1, .bool false]) ?_ 2 _ rfl; refine zM ?_; refine blk_put (cs := #[.int .i64 ((rd_T30 l0 x36_2).f0.f0), .slice none 0 0, .bool false]) ?_ 1 _ rfl; refine zM ?_; refine blk_put (cs := #[.int .i64 0, .slice none 0 0, .bool false]) ?_ 0 _ rfl; refine zM ?_; exact BK143.out) hb); replace HB := zK (below_step (zo HB) hb); (try clear hb); (try clear hb2); (try clear hk); (try clear hi); have p145 : 0 ≤ (x36_2 : Int) := of_decide_eq_true (by first | (with_reducible assumption) | assumption); have q145 : x36_2 < (l1.length : Int) := of_decide_eq_true (by first | (with_reducible assumption) | assumption); obtain ⟨ad145, e145, hx145_0⟩ := Kd.at_int HR1.out x36_2 p145 q145; cases e145; replace hx145_0 := (HB.out.cell (World.block_lt_of_cell? w _ hx145_0)).trans hx145_0; replace p145 := eq_true p145; replace q145 := eq_true q145; have hcz40_0 : w39.cell? ⟨gb143, 0, none⟩ = some (.int .i64 ((rd_T30 l0 x36_2).f0.f0)) := (blk_cell BK143.out 0).trans rfl; have hcz40_1 : w39.cell? ⟨gb143, 1, none⟩ = some (.slice A142_1 ((rd_T30 l0 x36_2).f0.f1).length c142_1) := (blk_cell BK143.out 1).trans rfl; have hcz40_2 : w39.cell? ⟨gb143, 2, none⟩ = some (.bool true) := (blk_cell BK143.out 2).trans rfl; have hfz40_0 := blk_frozen BK143.out 0; have hfz40_1 := blk_frozen BK143.out 1; have hfz40_2 := blk_frozen BK143.out 2) | ((with_reducible refine gate_builtin (b := .append) (xs := #[.tmp 62, .tmp 65]) rfl ?_); (try (refine zG (by rfl) ?_; dsimp only)); at_builtin; refine Kd.N_append k28 (w0 := w) w.heap.size rfl (.tmp 62) (.tmp 65) 48 28 (.agg #[(.int .i64 0), (.slice none 0 0)]) 32 rfl Try.underlying48 info28 rfl (by decide) (by omega) u8 x8_2 (⟨(rd_T30 l0 x36_2).f0.f0, (rd_T30 l0 x36_2).f0.f1⟩ : S28) [.int .i64 ((rd_T30 l0 x36_2).f0.f0), .slice A142_1 ((rd_T30 l0 x36_2).f0.f1).length c142_1] (fun k_ => (P0_ k_ ∨ w.heap.size ≤ k_) ∧ k_ ≠ gb140 ∧ k_ ≠ gb141 ∧ k_ ≠ gb143) (fun k_ => ((fun k_ => (P0_ k_ ∨ w.heap.size ≤ k_) ∧ k_ ≠ gb140 ∧ k_ ≠ gb141 ∧ k_ ≠ gb143)) k_ ∧ some k_ ≠ (u8 : Value).ownBlock) rfl rfl ?aP (fun _ hk => hk) ?aF ?aO ?aB ?aS ?aL ?_; (case aP => exact (k28_mkF _ _ (⟨(rd_T30 l0 x36_2).f0.f0, (rd_T30 l0 x36_2).f0.f1⟩ : S28) (Kd.V_reads' (vM (ok' := (fun k_ => ((fun k_ => (P0_ k_ ∨ w.heap.size ≤ k_) ∧ k_ ≠ gb140 ∧ k_ ≠ gb141 ∧ k_ ≠ gb143)) k_ ∧ some k_ ≠ (u8 : Value).ownBlock)) (HL142_1.out) (fun k_ hk => ⟨⟨hk.1.1, ⟨hk.1.2.2.1, ⟨hk.1.2.2.2, hk.2⟩⟩⟩, hk.1.2.1⟩))).2.1 (Kd.V_F (vM (ok' := (fun k_ => ((fun k_ => (P0_ k_ ∨ w.heap.size ≤ k_) ∧ k_ ≠ gb140 ∧ k_ ≠ gb141 ∧ k_ ≠ gb143)) k_ ∧ some k_ ≠ (u8 : Value).ownBlock)) (HL142_1.out) (fun k_ hk => ⟨⟨hk.1.1, ⟨hk.1.2.2.1, ⟨hk.1.2.2.2, hk.2⟩⟩⟩, hk.1.2.1⟩))))); (case aB => exact (zo HB)); (case aF => exact (fun k_ hk => ⟨(.inr (Nat.le_trans (below_size (zo HB)) hk)), Kd.freshB (g := gb140) (o := .cells #[.int .i64 a2] 2 (0, 0)) (zb BK140) k_ hk, Kd.freshB (g := gb141) (o := .cells #[.int .i64 x142000_2, .slice none 0 0, .bool x142002_2] 30 (0, 0)) (zb BK141) k_ hk, Kd.freshB (g := gb143) (o := .cells #[.int .i64 ((rd_T30 l0 x36_2).f0.f0), .slice A142_1 ((rd_T30 l0 x36_2).f0.f1).length c142_1, .bool true] 30 (0, 0)) (zb BK143) k_ hk⟩)); (case aO => exact (by (with_reducible repeat (first | apply nA | apply nN | apply nD)); exact Kd.N_mono HO_8.out (fun _ hk => ⟨hk.1.1, ⟨hk.1.2.1, ⟨hk.1.2.2, hk.2⟩⟩⟩))); (case aS => exact (below_size (zo HB))); (case aL => have := LMc34.out; omega); intro v150 w41 ho hb hg hat; rw [← Ny149.out] at ho; replace HO_34 := zK (Kd.V_afterv (ok := (fun k_ => (P0_ k_ ∨ w.heap.size ≤ k_) ∧ k_ ≠ gb140 ∧ k_ ≠ gb141 ∧ k_ ≠ gb143)) (by (with_reducible repeat (first | apply vA | apply vN | apply vD)); exact vM HO_34.out (fun _ hk => ⟨⟨hk.1.1, ⟨hk.1.2.2.1, ⟨hk.1.2.2.2, hk.2⟩⟩⟩, hk.1.2.1⟩)) hg hat); replace BK140 := zK (blk_grown (g := gb140) (o := .cells #[.int .i64 a2] 2 (0, 0)) (zb BK140) hg (Kd.N_ne HO_8.out BK140.out (by decide))); replace BK141 := zK (blk_grown (g := gb141) (o := .cells #[.int .i64 x142000_2, .slice none 0 0, .bool x142002_2] 30 (0, 0)) (zb BK141) hg (Kd.N_ne HO_8.out BK141.out (by decide))); replace HL142_1 := zK (Kd.V_afterv (ok := (fun k_ => (P0_ k_ ∨ w.heap.size ≤ k_) ∧ k_ ≠ gb140 ∧ k_ ≠ gb141 ∧ k_ ≠ gb143)) (by (with_reducible repeat (first | apply vA | apply vN | apply vD)); exact vM HL142_1.out (fun _ hk => ⟨⟨hk.1.1, ⟨hk.1.2.2.1, ⟨hk.1.2.2.2, hk.2⟩⟩⟩, hk.1.2.1⟩)) hg hat); replace BK143 := zK (blk_grown (g := gb143) (o := .cells #[.int .i64 ((rd_T30 l0 x36_2).f0.f0), .slice A142_1 ((rd_T30 l0 x36_2).f0.f1).length c142_1, .bool true] 30 (0, 0)) (zb BK143) hg (Kd.N_ne HO_8.out BK143.out (by decide))); replace HB := zK (hb); have HO151 := zK (ho); clear HO_8 ho hb hg hat))
               go_roundg k2
               case measure => have := HJ3.out; have := HK2.out; omega
               case rel => exact ⟨(y149), (false), (wrap64 (x36_2 + 1)), (x142000_2), (x142002_2), (by first | rfl | (simp; done) | (simp [*]; done)), (by first | rfl | (simp; done) | (simp [*]; done)), H', ⟨by have := HJ3.out; have := HK2.out; omega⟩, ⟨by (with_reducible repeat (first | apply nA | apply nN | apply nD)); exact Kd.N_mono HO151.out (fun _ hk => ⟨hk.1, ⟨hk.2.1, hk.2.2.1⟩⟩)⟩, ⟨by (with_reducible repeat (first | apply vA | apply vN | apply vD)); exact vM HO_34.out (fun _ hk => ⟨hk.1.1, ⟨hk.2, ⟨hk.1.2.1, hk.1.2.2.1⟩⟩⟩)⟩, ⟨zb BK140⟩, ⟨zb BK141⟩, ⟨zo HB⟩⟩
              ·rw [if_neg c34] at H
               exact absurd H (by simp)
            ·replace c24 := Bool.eq_false_iff.mpr c24
             subst c24
             have H1 : (some (0, ([] : List (S47)), false, 1)) = some (r1, r2, r3, r4) := by rw [if_neg (show ¬ (false = true) by decide)] at H; exact H
             clear H
             have H := H1
             clear H1
             simp only [Option.some.injEq, Prod.mk.injEq] at H
             obtain ⟨rfl, rfl, rfl, rfl⟩ := H
             have p142 : 0 ≤ (x36_2 : Int) := of_decide_eq_true (by first | (with_reducible assumption) | assumption)
             have q142 : x36_2 < (l0.length : Int) := of_decide_eq_true (by first | (with_reducible assumption) | assumption)
             obtain ⟨ad142, A142_1, c142_1, e142, hx142_0, hx142_1, hx142_2, hl142_1, hi142_1⟩ := at_T30 (Kd.V_reads' HO_34.out).2.2 x36_2 p142 q142
             (try rw [← Nbq23.out] at hx142_2)
             (try rw [← Nbq23.out] at A19)
             cases e142
             obtain ⟨ce142, hce142, hMe142, hcc142⟩ := Kd.V_get HO_34.out z30 x36_2 p142 (by first | exact q142 | exact of_decide_eq_true (by first | (with_reducible assumption) | assumption) | (have e_ := (Kd.V_reads' HO_34.out).1; omega))
             obtain ⟨ua142_1, uc142_1, rfl, ul142_1, ge142_1⟩ := k30_openF hMe142
             have hv142_1 := hcc142 1 _ rfl
             rw [add_field _ _ 1 (by omega)] at hv142_1
             replace hv142_1 := Option.some.inj (hv142_1.symm.trans hx142_1)
             injection hv142_1 with hva_ hvn_ hvc_
             rw [hva_] at ge142_1
             rw [hvc_] at ul142_1
             have HL142_1 := zK (show Kd.V k47 47 _ w.heap.size _ _ ((rd_T30 l0 x36_2).f0.f1) from Kd.V_mk ul142_1 ge142_1)
             clear hva_ hvn_ hvc_ ge142_1 ul142_1 hcc142 hce142
             have HR142_1 := zK hi142_1
             have HC142_1 := zK hl142_1
             clear hi142_1 hl142_1
             replace p142 := eq_true p142
             replace q142 := eq_true q142
             go_wp2_with (first | ((with_reducible refine gate_dst (N := 11) rfl ?_); (try (refine zG (by rfl) ?_; dsimp only)); refine box_event ?hg (N := 11) ?hd (cs := #[.int .i64 0, .slice none 0 0, .bool false]) (t := 30) ?hr ?_; (case hd => rfl); (case hg => rfl); (case hr => first | (go_simp; done) | (go_simp; rfl)); intro gb143 hg w42 hbox hb; replace HO_8 := zK (Kd.N_below (Kd.N_elderB (zn HO_8) gb143 (Nat.le_of_eq hg.symm)) hb); replace HO_34 := zK (Kd.V_below (Kd.V_elderB (zv HO_34) gb143 (Nat.le_of_eq hg.symm)) hb); replace HL142_1 := zK (Kd.V_below (Kd.V_elderB (zv HL142_1) gb143 (Nat.le_of_eq hg.symm)) hb); replace HR142_1 := zK (Kd.C_below (by repeat (first | (with_reducible exact HR142_1.out) | (with_reducible refine cA ?_ _) | (with_reducible refine cN ?_ _) | (with_reducible refine cD ?_) | exact HR142_1.out)) hb); have BK143 := zK (hbox); have GW143 := zK ((by rw [hg]; exact (below_size (zo HB)) : w.heap.size ≤ gb143)); have GE143 := zK ((by rw [hg]; exact (below_size (zo HB)) : w.heap.size ≤ gb143)); replace HB := zK (below_step (zo HB) hb); have NB140_143 := zK ((by rw [hg]; exact Nat.ne_of_lt (blk_lt (g := gb140) (o := .cells #[.int .i64 a2] 2 (0, 0)) (zb BK140)) : gb140 ≠ gb143)); have NB143_140 := zK ((by rw [hg]; exact Nat.ne_of_gt (blk_lt (g := gb140) (o := .cells #[.int .i64 a2] 2 (0, 0)) (zb BK140)) : gb143 ≠ gb140)); replace BK140 := zK (blk_below (g := gb140) (o := .cells #[.int .i64 a2] 2 (0, 0)) (zb BK140) hb); have NB141_143 := zK ((by rw [hg]; exact Nat.ne_of_lt (blk_lt (g := gb141) (o := .cells #[.int .i64 x142000_2, .slice none 0 0, .bool x142002_2] 30 (0, 0)) (zb BK141)) : gb141 ≠ gb143)); have NB143_141 := zK ((by rw [hg]; exact Nat.ne_of_gt (blk_lt (g := gb141) (o := .cells #[.int .i64 x142000_2, .slice none 0 0, .bool x142002_2] 30 (0, 0)) (zb BK141)) : gb143 ≠ gb141)); replace BK141 := zK (blk_below (g := gb141) (o := .cells #[.int .i64 x142000_2, .slice none 0 0, .bool x142002_2] 30 (0, 0)) (zb BK141) hb); clear hb hbox hg; have hnb43 := NB143_140.out; have hnc43 := NB140_143.out; have hnb44 := NB143_141.out; have hnc44 := NB141_143.out; have hcz45_0 : w42.cell? ⟨gb143, 0, none⟩ = some (.int .i64 0) := (blk_cell BK143.out 0).trans rfl; have hcz45_1 : w42.cell? ⟨gb143, 1, none⟩ = some (.slice none 0 0) := (blk_cell BK143.out 1).trans rfl; have hcz45_2 : w42.cell? ⟨gb143, 2, none⟩ = some (.bool false) := (blk_cell BK143.out 2).trans rfl; have hfz45_0 := blk_frozen BK143.out 0; have hfz45_1 := blk_frozen BK143.out 1; have hfz45_2 := blk_frozen BK143.out 2) | ((with_reducible refine zC (f := 18) rfl ?_); refine goesL_ (some 42) rfl rfl Try.func18 (by kernel_rfl) rfl #[.agg #[.int .i64 ((rd_T30 l0 x36_2).f0.f0), .slice A142_1 ((rd_T30 l0 x36_2).f0.f1).length c142_1, .bool false]] rfl (by (try simp only [List.map_toArray, List.map_cons, List.map_nil]); first | done | rfl | (simp only [List.length_drop, List.length_take]; rfl)) ?_; (with_reducible refine (ineq_Right.calls k2 ((rd_T30 l0 x36_2).f0.f0) _ _ ((rd_T30 l0 x36_2).f0.f1) false t144 _ ?side1 ?side2 A19.out).mono ?_); (case side1 => repeat (first | exact ((Kd.V_reads' (by (with_reducible repeat (first | apply vA | apply vN | apply vD)); exact (vM (vF (p := ⟨gb143, 2, none⟩) (vF (p := ⟨gb143, 1, none⟩) (vF (p := ⟨gb143, 0, none⟩) (vM HL142_1.out (fun k_ hk => (⟨hk, hk.2⟩ : _ ∧ k_ ≠ gb143))) (fun _ hk => hk.2) (.int .i64 ((rd_T30 l0 x36_2).f0.f0))) (fun _ hk => hk.2) (.slice A142_1 ((rd_T30 l0 x36_2).f0.f1).length c142_1)) (fun _ hk => hk.2) (.bool false)) (fun _ h_ => h_.1)))).2.2) | (with_reducible refine cA ?_ _) | (with_reducible refine cN ?_ _) | (with_reducible refine cD ?_))); (case side2 => exact HC142_1.out); rintro e w46 ⟨rfl, hb⟩; refine ⟨_, rfl, ?_⟩; replace HO_8 := zK (Kd.N_below (by (with_reducible repeat (first | apply nA | apply nN | apply nD)); exact (Kd.N_mono (Kd.N_far (p := ⟨gb143, 2, none⟩) (Kd.N_far (p := ⟨gb143, 1, none⟩) (Kd.N_far (p := ⟨gb143, 0, none⟩) (Kd.N_mono HO_8.out (fun k_ hk => (⟨hk, hk.2⟩ : _ ∧ k_ ≠ gb143))) (fun _ hk => hk.2) (.int .i64 ((rd_T30 l0 x36_2).f0.f0))) (fun _ hk => hk.2) (.slice A142_1 ((rd_T30 l0 x36_2).f0.f1).length c142_1)) (fun _ hk => hk.2) (.bool false)) (fun _ h_ => h_.1))) hb); replace HO_34 := zK (Kd.V_below (by (with_reducible repeat (first | apply vA | apply vN | apply vD)); exact (vM (vF (p := ⟨gb143, 2, none⟩) (vF (p := ⟨gb143, 1, none⟩) (vF (p := ⟨gb143, 0, none⟩) (vM HO_34.out (fun k_ hk => (⟨hk, hk.2⟩ : _ ∧ k_ ≠ gb143))) (fun _ hk => hk.2) (.int .i64 ((rd_T30 l0 x36_2).f0.f0))) (fun _ hk => hk.2) (.slice A142_1 ((rd_T30 l0 x36_2).f0.f1).length c142_1)) (fun _ hk => hk.2) (.bool false)) (fun _ h_ => h_.1))) hb); replace BK140 := zK (blk_below (g := gb140) (o := .cells #[.int .i64 a2] 2 (0, 0)) (zb BK140) hb); replace BK141 := zK (blk_below (g := gb141) (o := .cells #[.int .i64 x142000_2, .slice none 0 0, .bool x142002_2] 30 (0, 0)) (zb BK141) hb); replace HR142_1 := zK (Kd.C_below ((Kd.V_reads' (by (with_reducible repeat (first | apply vA | apply vN | apply vD)); exact (vM (vF (p := ⟨gb143, 2, none⟩) (vF (p := ⟨gb143, 1, none⟩) (vF (p := ⟨gb143, 0, none⟩) (vM HL142_1.out (fun k_ hk => (⟨hk, hk.2⟩ : _ ∧ k_ ≠ gb143))) (fun _ hk => hk.2) (.int .i64 ((rd_T30 l0 x36_2).f0.f0))) (fun _ hk => hk.2) (.slice A142_1 ((rd_T30 l0 x36_2).f0.f1).length c142_1)) (fun _ hk => hk.2) (.bool false)) (fun _ h_ => h_.1)))).2.2) hb); replace HL142_1 := zK (Kd.V_below (by (with_reducible repeat (first | apply vA | apply vN | apply vD)); exact (vM (vF (p := ⟨gb143, 2, none⟩) (vF (p := ⟨gb143, 1, none⟩) (vF (p := ⟨gb143, 0, none⟩) (vM HL142_1.out (fun k_ hk => (⟨hk, hk.2⟩ : _ ∧ k_ ≠ gb143))) (fun _ hk => hk.2) (.int .i64 ((rd_T30 l0 x36_2).f0.f0))) (fun _ hk => hk.2) (.slice A142_1 ((rd_T30 l0 x36_2).f0.f1).length c142_1)) (fun _ hk => hk.2) (.bool false)) (fun _ h_ => h_.1))) hb); replace BK143 := zK (blk_below (g := gb143) (o := .cells #[.int .i64 ((rd_T30 l0 x36_2).f0.f0), .slice A142_1 ((rd_T30 l0 x36_2).f0.f1).length c142_1, .bool false] 30 (0, 0)) (by refine zM ?_; refine blk_put (cs := #[.int .i64 ((rd_T30 l0 x36_2).f0.f0), .slice A142_1 ((rd_T30 l0 x36_2).f0.f1).length c142_1, .bool false]) ?_ 2 _ rfl; refine zM ?_; refine blk_put (cs := #[.int .i64 ((rd_T30 l0 x36_2).f0.f0), .slice none 0 0, .bool false]) ?_ 1 _ rfl; refine zM ?_; refine blk_put (cs := #[.int .i64 0, .slice none 0 0, .bool false]) ?_ 0 _ rfl; refine zM ?_; exact BK143.out) hb); replace HB := zK (below_step (zo HB) hb); (try clear hb); (try clear hb2); (try clear hk); (try clear hi); have p145 : 0 ≤ (x36_2 : Int) := of_decide_eq_true (by first | (with_reducible assumption) | assumption); have q145 : x36_2 < (l1.length : Int) := of_decide_eq_true (by first | (with_reducible assumption) | assumption); obtain ⟨ad145, e145, hx145_0⟩ := Kd.at_int HR1.out x36_2 p145 q145; cases e145; replace hx145_0 := (HB.out.cell (World.block_lt_of_cell? w _ hx145_0)).trans hx145_0; replace p145 := eq_true p145; replace q145 := eq_true q145; have hcz47_0 : w46.cell? ⟨gb143, 0, none⟩ = some (.int .i64 ((rd_T30 l0 x36_2).f0.f0)) := (blk_cell BK143.out 0).trans rfl; have hcz47_1 : w46.cell? ⟨gb143, 1, none⟩ = some (.slice A142_1 ((rd_T30 l0 x36_2).f0.f1).length c142_1) := (blk_cell BK143.out 1).trans rfl; have hcz47_2 : w46.cell? ⟨gb143, 2, none⟩ = some (.bool false) := (blk_cell BK143.out 2).trans rfl; have hfz47_0 := blk_frozen BK143.out 0; have hfz47_1 := blk_frozen BK143.out 1; have hfz47_2 := blk_frozen BK143.out 2; have hnb48 := NB141_140.out; have hnc48 := NB140_141.out; have hcz49_0 : w46.cell? ⟨gb141, 0, none⟩ = some (.int .i64 x142000_2) := (blk_cell BK141.out 0).trans rfl; have hcz49_1 : w46.cell? ⟨gb141, 1, none⟩ = some (.slice none 0 0) := (blk_cell BK141.out 1).trans rfl; have hcz49_2 : w46.cell? ⟨gb141, 2, none⟩ = some (.bool x142002_2) := (blk_cell BK141.out 2).trans rfl; have hfz49_0 := blk_frozen BK141.out 0; have hfz49_1 := blk_frozen BK141.out 1; have hfz49_2 := blk_frozen BK141.out 2))
             refine bodyPost_ret (results_ct rfl _ _ gb141 30 #[.int .i64 0, .slice none 0 0, .bool false] (0, 0) _ rfl (by refine zM ?_; refine blk_put (cs := #[.int .i64 0, .slice none 0 0, .bool x142002_2]) ?_ 2 _ rfl; refine zM ?_; refine blk_put (cs := #[.int .i64 0, .slice none 0 0, .bool x142002_2]) ?_ 1 _ rfl; refine zM ?_; refine blk_put (cs := #[.int .i64 x142000_2, .slice none 0 0, .bool x142002_2]) ?_ 0 _ rfl; refine zM ?_; exact BK141.out) Try.underlying30 rfl (by kernel_rfl)) rfl ?_
             exact ⟨_, by first | rfl | (simp [errW_none, errW_some] <;> rfl) | (simp [*, errW_none, errW_some] <;> rfl), by first | exact Kd.R_nil _ _ _ _ _ | exact Kd.N_nil _ _ _ _ _ | exact Kd.V_nil _ _ _ _ _ | exact Kd.Q_nil _ _ _ _ _ | exact Kd.S_nil _ _ _ _ _, zo HB⟩
           ·rw [if_neg c22] at H
            have c22b0 : decide ((rd l1 x36_2) < 0) = false := decide_eq_false c22
            clear c22
            by_cases c50 : x9_2 = true
            ·subst c50
             have H1 : (if x8_2.length < 4398046511104 then (ineq_Sum.l0 k2 l1 (x8_2 ++ [(⟨(rd_T30 l0 x36_2).f0.f0, (rd_T30 l0 x36_2).f0.f1⟩ : S28)]) ((rd_T30 l0 x36_2).f1) l0 (l0.length : Int) (wrap64 (x36_2 + 1)) a2) else (none)) = some (r1, r2, r3, r4) := by rw [if_pos rfl] at H; exact H
             clear H
             have H := H1
             clear H1
             by_cases c51 : x8_2.length < 4398046511104
             ·rw [if_pos c51] at H
              have LMc51 := zK c51
              clear c51
              obtain ⟨y152, hy152⟩ : ∃ y_ : List (S28), y_ = (x8_2 ++ [(⟨(rd_T30 l0 x36_2).f0.f0, (rd_T30 l0 x36_2).f0.f1⟩ : S28)]) := ⟨_, rfl⟩
              replace H : (ineq_Sum.l0 k2 l1 y152 ((rd_T30 l0 x36_2).f1) l0 (l0.length : Int) (wrap64 (x36_2 + 1)) a2) = some (r1, r2, r3, r4) := by first | (rw [hy152]; with_reducible exact H) | (have H2_ := (Option.bind_some _ _).symm.trans H; rw [hy152]; with_reducible exact H2_) | (have H2_ := (Option.bind_some _ _).symm.trans H; with_reducible exact H2_) | with_reducible exact H | (rw [hy152]; exact H) | exact H
              have Ny152 := zK hy152
              clear hy152
              have H' := zK H
              clear H
              have p142 : 0 ≤ (x36_2 : Int) := of_decide_eq_true (by first | (with_reducible assumption) | assumption)
              have q142 : x36_2 < (l0.length : Int) := of_decide_eq_true (by first | (with_reducible assumption) | assumption)
              obtain ⟨ad142, A142_1, c142_1, e142, hx142_0, hx142_1, hx142_2, hl142_1, hi142_1⟩ := at_T30 (Kd.V_reads' HO_34.out).2.2 x36_2 p142 q142
              cases e142
              obtain ⟨ce142, hce142, hMe142, hcc142⟩ := Kd.V_get HO_34.out z30 x36_2 p142 (by first | exact q142 | exact of_decide_eq_true (by first | (with_reducible assumption) | assumption) | (have e_ := (Kd.V_reads' HO_34.out).1; omega))
              obtain ⟨ua142_1, uc142_1, rfl, ul142_1, ge142_1⟩ := k30_openF hMe142
              have hv142_1 := hcc142 1 _ rfl
              rw [add_field _ _ 1 (by omega)] at hv142_1
              replace hv142_1 := Option.some.inj (hv142_1.symm.trans hx142_1)
              injection hv142_1 with hva_ hvn_ hvc_
              rw [hva_] at ge142_1
              rw [hvc_] at ul142_1
              have HL142_1 := zK (show Kd.V k47 47 _ w.heap.size _ _ ((rd_T30 l0 x36_2).f0.f1) from Kd.V_mk ul142_1 ge142_1)
              clear hva_ hvn_ hvc_ ge142_1 ul142_1 hcc142 hce142
              have HR142_1 := zK hi142_1
              have HC142_1 := zK hl142_1
              clear hi142_1 hl142_1
              replace p142 := eq_true p142
              replace q142 := eq_true q142
              go_wp2_with (first | ((with_reducible refine gate_dst (N := 11) rfl ?_); (try (refine zG (by rfl) ?_; dsimp only)); refine box_event ?hg (N := 11) ?hd (cs := #[.int .i64 0, .slice none 0 0, .bool false]) (t := 30) ?hr ?_; (case hd => rfl); (case hg => rfl); (case hr => first | (go_simp; done) | (go_simp; rfl)); intro gb143 hg w52 hbox hb; replace HO_8 := zK (Kd.N_below (Kd.N_elderB (zn HO_8) gb143 (Nat.le_of_eq hg.symm)) hb); replace HO_34 := zK (Kd.V_below (Kd.V_elderB (zv HO_34) gb143 (Nat.le_of_eq hg.symm)) hb); replace HL142_1 := zK (Kd.V_below (Kd.V_elderB (zv HL142_1) gb143 (Nat.le_of_eq hg.symm)) hb); replace HR142_1 := zK (Kd.C_below (by repeat (first | (with_reducible exact HR142_1.out) | (with_reducible refine cA ?_ _) | (with_reducible refine cN ?_ _) | (with_reducible refine cD ?_) | exact HR142_1.out)) hb); have BK143 := zK (hbox); have GW143 := zK ((by rw [hg]; exact (below_size (zo HB)) : w.heap.size ≤ gb143)); have GE143 := zK ((by rw [hg]; exact (below_size (zo HB)) : w.heap.size ≤ gb143)); replace HB := zK (below_step (zo HB) hb); have NB140_143 := zK ((by rw [hg]; exact Nat.ne_of_lt (blk_lt (g := gb140) (o := .cells #[.int .i64 a2] 2 (0, 0)) (zb BK140)) : gb140 ≠ gb143)); have NB143_140 := zK ((by rw [hg]; exact Nat.ne_of_gt (blk_lt (g := gb140) (o := .cells #[.int .i64 a2] 2 (0, 0)) (zb BK140)) : gb143 ≠ gb140)); replace BK140 := zK (blk_below (g := gb140) (o := .cells #[.int .i64 a2] 2 (0, 0)) (zb BK140) hb); have NB141_143 := zK ((by rw [hg]; exact Nat.ne_of_lt (blk_lt (g := gb141) (o := .cells #[.int .i64 x142000_2, .slice none 0 0, .bool x142002_2] 30 (0, 0)) (zb BK141)) : gb141 ≠ gb143)); have NB143_141 := zK ((by rw [hg]; exact Nat.ne_of_gt (blk_lt (g := gb141) (o := .cells #[.int .i64 x142000_2, .slice none 0 0, .bool x142002_2] 30 (0, 0)) (zb BK141)) : gb143 ≠ gb141)); replace BK141 := zK (blk_below (g := gb141) (o := .cells #[.int .i64 x142000_2, .slice none 0 0, .bool x142002_2] 30 (0, 0)) (zb BK141) hb); clear hb hbox hg; have hnb53 := NB143_140.out; have hnc53 := NB140_143.out; have hnb54 := NB143_141.out; have hnc54 := NB141_143.out; have hcz55_0 : w52.cell? ⟨gb143, 0, none⟩ = some (.int .i64 0) := (blk_cell BK143.out 0).trans rfl; have hcz55_1 : w52.cell? ⟨gb143, 1, none⟩ = some (.slice none 0 0) := (blk_cell BK143.out 1).trans rfl; have hcz55_2 : w52.cell? ⟨gb143, 2, none⟩ = some (.bool false) := (blk_cell BK143.out 2).trans rfl; have hfz55_0 := blk_frozen BK143.out 0; have hfz55_1 := blk_frozen BK143.out 1; have hfz55_2 := blk_frozen BK143.out 2) | ((with_reducible refine zC (f := 18) rfl ?_); refine goesL_ (some 42) rfl rfl Try.func18 (by kernel_rfl) rfl #[.agg #[.int .i64 ((rd_T30 l0 x36_2).f0.f0), .slice A142_1 ((rd_T30 l0 x36_2).f0.f1).length c142_1, .bool ((rd_T30 l0 x36_2).f1)]] rfl (by (try simp only [List.map_toArray, List.map_cons, List.map_nil]); first | done | rfl | (simp only [List.length_drop, List.length_take]; rfl)) ?_; (with_reducible refine (ineq_Right.calls k2 ((rd_T30 l0 x36_2).f0.f0) _ _ ((rd_T30 l0 x36_2).f0.f1) ((rd_T30 l0 x36_2).f1) t144 _ ?side1 ?side2 A19.out).mono ?_); (case side1 => repeat (first | exact ((Kd.V_reads' (by (with_reducible repeat (first | apply vA | apply vN | apply vD)); exact (vM (vF (p := ⟨gb143, 2, none⟩) (vF (p := ⟨gb143, 1, none⟩) (vF (p := ⟨gb143, 0, none⟩) (vM HL142_1.out (fun k_ hk => (⟨hk, hk.2⟩ : _ ∧ k_ ≠ gb143))) (fun _ hk => hk.2) (.int .i64 ((rd_T30 l0 x36_2).f0.f0))) (fun _ hk => hk.2) (.slice A142_1 ((rd_T30 l0 x36_2).f0.f1).length c142_1)) (fun _ hk => hk.2) (.bool ((rd_T30 l0 x36_2).f1))) (fun _ h_ => h_.1)))).2.2) | (with_reducible refine cA ?_ _) | (with_reducible refine cN ?_ _) | (with_reducible refine cD ?_))); (case side2 => exact HC142_1.out); rintro e w56 ⟨rfl, hb⟩; refine ⟨_, rfl, ?_⟩; replace HO_8 := zK (Kd.N_below (by (with_reducible repeat (first | apply nA | apply nN | apply nD)); exact (Kd.N_mono (Kd.N_far (p := ⟨gb143, 2, none⟩) (Kd.N_far (p := ⟨gb143, 1, none⟩) (Kd.N_far (p := ⟨gb143, 0, none⟩) (Kd.N_mono HO_8.out (fun k_ hk => (⟨hk, hk.2⟩ : _ ∧ k_ ≠ gb143))) (fun _ hk => hk.2) (.int .i64 ((rd_T30 l0 x36_2).f0.f0))) (fun _ hk => hk.2) (.slice A142_1 ((rd_T30 l0 x36_2).f0.f1).length c142_1)) (fun _ hk => hk.2) (.bool ((rd_T30 l0 x36_2).f1))) (fun _ h_ => h_.1))) hb); replace HO_34 := zK (Kd.V_below (by (with_reducible repeat (first | apply vA | apply vN | apply vD)); exact (vM (vF (p := ⟨gb143, 2, none⟩) (vF (p := ⟨gb143, 1, none⟩) (vF (p := ⟨gb143, 0, none⟩) (vM HO_34.out (fun k_ hk => (⟨hk, hk.2⟩ : _ ∧ k_ ≠ gb143))) (fun _ hk => hk.2) (.int .i64 ((rd_T30 l0 x36_2).f0.f0))) (fun _ hk => hk.2) (.slice A142_1 ((rd_T30 l0 x36_2).f0.f1).length c142_1)) (fun _ hk => hk.2) (.bool ((rd_T30 l0 x36_2).f1))) (fun _ h_ => h_.1))) hb); replace BK140 := zK (blk_below (g := gb140) (o := .cells #[.int .i64 a2] 2 (0, 0)) (zb BK140) hb); replace BK141 := zK (blk_below (g := gb141) (o := .cells #[.int .i64 x142000_2, .slice none 0 0, .bool x142002_2] 30 (0, 0)) (zb BK141) hb); replace HR142_1 := zK (Kd.C_below ((Kd.V_reads' (by (with_reducible repeat (first | apply vA | apply vN | apply vD)); exact (vM (vF (p := ⟨gb143, 2, none⟩) (vF (p := ⟨gb143, 1, none⟩) (vF (p := ⟨gb143, 0, none⟩) (vM HL142_1.out (fun k_ hk => (⟨hk, hk.2⟩ : _ ∧ k_ ≠ gb143))) (fun _ hk => hk.2) (.int .i64 ((rd_T30 l0 x36_2).f0.f0))) (fun _ hk => hk.2) (.slice A142_1 ((rd_T30 l0 x36_2).f0.f1).length c142_1)) (fun _ hk => hk.2) (.bool ((rd_T30 l0 x36_2).f1))) (fun _ h_ => h_.1)))).2.2) hb); replace HL142_1 := zK (Kd.V_below (by (with_reducible repeat (first | apply vA | apply vN | apply vD)); exact (vM (vF (p := ⟨gb143, 2, none⟩) (vF (p := ⟨gb143, 1, none⟩) (vF (p := ⟨gb143, 0, none⟩) (vM HL142_1.out (fun k_ hk => (⟨hk, hk.2⟩ : _ ∧ k_ ≠ gb143))) (fun _ hk => hk.2) (.int .i64 ((rd_T30 l0 x36_2).f0.f0))) (fun _ hk => hk.2) (.slice A142_1 ((rd_T30 l0 x36_2).f0.f1).length c142_1)) (fun _ hk => hk.2) (.bool ((rd_T30 l0 x36_2).f1))) (fun _ h_ => h_.1))) hb); replace BK143 := zK (blk_below (g := gb143) (o := .cells #[.int .i64 ((rd_T30 l0 x36_2).f0.f0), .slice A142_1 ((rd_T30 l0 x36_2).f0.f1).length c142_1, .bool ((rd_T30 l0 x36_2).f1)] 30 (0, 0)) (by refine zM ?_; refine blk_put (cs := #[.int .i64 ((rd_T30 l0 x36_2).f0.f0), .slice A142_1 ((rd_T30 l0 x36_2).f0.f1).length c142_1, .bool false]) ?_ 2 _ rfl; refine zM ?_; refine blk_put (cs := #[.int .i64 ((rd_T30 l0 x36_2).f0.f0), .slice none 0 0, .bool false]) ?_ 1 _ rfl; refine zM ?_; refine blk_put (cs := #[.int .i64 0, .slice none 0 0, .bool false]) ?_ 0 _ rfl; refine zM ?_; exact BK143.out) hb); replace HB := zK (below_step (zo HB) hb); (try clear hb); (try clear hb2); (try clear hk); (try clear hi); have p145 : 0 ≤ (x36_2 : Int) := of_decide_eq_true (by first | (with_reducible assumption) | assumption); have q145 : x36_2 < (l1.length : Int) := of_decide_eq_true (by first | (with_reducible assumption) | assumption); obtain ⟨ad145, e145, hx145_0⟩ := Kd.at_int HR1.out x36_2 p145 q145; cases e145; replace hx145_0 := (HB.out.cell (World.block_lt_of_cell? w _ hx145_0)).trans hx145_0; replace p145 := eq_true p145; replace q145 := eq_true q145; have hcz57_0 : w56.cell? ⟨gb143, 0, none⟩ = some (.int .i64 ((rd_T30 l0 x36_2).f0.f0)) := (blk_cell BK143.out 0).trans rfl; have hcz57_1 : w56.cell? ⟨gb143, 1, none⟩ = some (.slice A142_1 ((rd_T30 l0 x36_2).f0.f1).length c142_1) := (blk_cell BK143.out 1).trans rfl; have hcz57_2 : w56.cell? ⟨gb143, 2, none⟩ = some (.bool ((rd_T30 l0 x36_2).f1)) := (blk_cell BK143.out 2).trans rfl; have hfz57_0 := blk_frozen BK143.out 0; have hfz57_1 := blk_frozen BK143.out 1; have hfz57_2 := blk_frozen BK143.out 2) | ((with_reducible refine gate_builtin (b := .append) (xs := #[.tmp 62, .tmp 65]) rfl ?_); (try (refine zG (by rfl) ?_; dsimp only)); at_builtin; refine Kd.N_append k28 (w0 := w) w.heap.size rfl (.tmp 62) (.tmp 65) 48 28 (.agg #[(.int .i64 0), (.slice none 0 0)]) 32 rfl Try.underlying48 info28 rfl (by decide) (by omega) u8 x8_2 (⟨(rd_T30 l0 x36_2).f0.f0, (rd_T30 l0 x36_2).f0.f1⟩ : S28) [.int .i64 ((rd_T30 l0 x36_2).f0.f0), .slice A142_1 ((rd_T30 l0 x36_2).f0.f1).length c142_1] (fun k_ => (P0_ k_ ∨ w.heap.size ≤ k_) ∧ k_ ≠ gb140 ∧ k_ ≠ gb141 ∧ k_ ≠ gb143) (fun k_ => ((fun k_ => (P0_ k_ ∨ w.heap.size ≤ k_) ∧ k_ ≠ gb140 ∧ k_ ≠ gb141 ∧ k_ ≠ gb143)) k_ ∧ some k_ ≠ (u8 : Value).ownBlock) rfl rfl ?aP (fun _ hk => hk) ?aF ?aO ?aB ?aS ?aL ?_; (case aP => exact (k28_mkF _ _ (⟨(rd_T30 l0 x36_2).f0.f0, (rd_T30 l0 x36_2).f0.f1⟩ : S28) (Kd.V_reads' (vM (ok' := (fun k_ => ((fun k_ => (P0_ k_ ∨ w.heap.size ≤ k_) ∧ k_ ≠ gb140 ∧ k_ ≠ gb141 ∧ k_ ≠ gb143)) k_ ∧ some k_ ≠ (u8 : Value).ownBlock)) (HL142_1.out) (fun k_ hk => ⟨⟨hk.1.1, ⟨hk.1.2.2.1, ⟨hk.1.2.2.2, hk.2⟩⟩⟩, hk.1.2.1⟩))).2.1 (Kd.V_F (vM (ok' := (fun k_ => ((fun k_ => (P0_ k_ ∨ w.heap.size ≤ k_) ∧ k_ ≠ gb140 ∧ k_ ≠ gb141 ∧ k_ ≠ gb143)) k_ ∧ some k_ ≠ (u8 : Value).ownBlock)) (HL142_1.out) (fun k_ hk => ⟨⟨hk.1.1, ⟨hk.1.2.2.1, ⟨hk.1.2.2.2, hk.2⟩⟩⟩, hk.1.2.1⟩))))); (case aB => exact (zo HB)); (case aF => exact (fun k_ hk => ⟨(.inr (Nat.le_trans (below_size (zo HB)) hk)), Kd.freshB (g := gb140) (o := .cells #[.int .i64 a2] 2 (0, 0)) (zb BK140) k_ hk, Kd.freshB (g := gb141) (o := .cells #[.int .i64 x142000_2, .slice none 0 0, .bool x142002_2] 30 (0, 0)) (zb BK141) k_ hk, Kd.freshB (g := gb143) (o := .cells #[.int .i64 ((rd_T30 l0 x36_2).f0.f0), .slice A142_1 ((rd_T30 l0 x36_2).f0.f1).length c142_1, .bool ((rd_T30 l0 x36_2).f1)] 30 (0, 0)) (zb BK143) k_ hk⟩)); (case aO => exact (by (with_reducible repeat (first | apply nA | apply nN | apply nD)); exact Kd.N_mono HO_8.out (fun _ hk => ⟨hk.1.1, ⟨hk.1.2.1, ⟨hk.1.2.2, hk.2⟩⟩⟩))); (case aS => exact (below_size (zo HB))); (case aL => have := LMc51.out; omega); intro v153 w58 ho hb hg hat; rw [← Ny152.out] at ho; replace HO_34 := zK (Kd.V_afterv (ok := (fun k_ => (P0_ k_ ∨ w.heap.size ≤ k_) ∧ k_ ≠ gb140 ∧ k_ ≠ gb141 ∧ k_ ≠ gb143)) (by (with_reducible repeat (first | apply vA | apply vN | apply vD)); exact vM HO_34.out (fun _ hk => ⟨⟨hk.1.1, ⟨hk.1.2.2.1, ⟨hk.1.2.2.2, hk.2⟩⟩⟩, hk.1.2.1⟩)) hg hat); replace BK140 := zK (blk_grown (g := gb140) (o := .cells #[.int .i64 a2] 2 (0, 0)) (zb BK140) hg (Kd.N_ne HO_8.out BK140.out (by decide))); replace BK141 := zK (blk_grown (g := gb141) (o := .cells #[.int .i64 x142000_2, .slice none 0 0, .bool x142002_2] 30 (0, 0)) (zb BK141) hg (Kd.N_ne HO_8.out BK141.out (by decide))); replace HL142_1 := zK (Kd.V_afterv (ok := (fun k_ => (P0_ k_ ∨ w.heap.size ≤ k_) ∧ k_ ≠ gb140 ∧ k_ ≠ gb141 ∧ k_ ≠ gb143)) (by (with_reducible repeat (first | apply vA | apply vN | apply vD)); exact vM HL142_1.out (fun _ hk => ⟨⟨hk.1.1, ⟨hk.1.2.2.1, ⟨hk.1.2.2.2, hk.2⟩⟩⟩, hk.1.2.1⟩)) hg hat); replace BK143 := zK (blk_grown (g := gb143) (o := .cells #[.int .i64 ((rd_T30 l0 x36_2).f0.f0), .slice A142_1 ((rd_T30 l0 x36_2).f0.f1).length c142_1, .bool ((rd_T30 l0 x36_2).f1)] 30 (0, 0)) (zb BK143) hg (Kd.N_ne HO_8.out BK143.out (by decide))); replace HB := zK (hb); have HO154 := zK (ho); clear HO_8 ho hb hg hat))
              go_roundg k2
              case measure => have := HJ3.out; have := HK2.out; omega
              case rel => exact ⟨(y152), ((rd_T30 l0 x36_2).f1), (wrap64 (x36_2 + 1)), (x142000_2), (x142002_2), (by first | rfl | (simp; done) | (simp [*]; done)), (by first | rfl | (simp; done) | (simp [*]; done)), H', ⟨by have := HJ3.out; have := HK2.out; omega⟩, ⟨by (with_reducible repeat (first | apply nA | apply nN | apply nD)); exact Kd.N_mono HO154.out (fun _ hk => ⟨hk.1, ⟨hk.2.1, hk.2.2.1⟩⟩)⟩, ⟨by (with_reducible repeat (first | apply vA | apply vN | apply vD)); exact vM HO_34.out (fun _ hk => ⟨hk.1.1, ⟨hk.2, ⟨hk.1.2.1, hk.1.2.2.1⟩⟩⟩)⟩, ⟨zb BK140⟩, ⟨zb BK141⟩, ⟨zo HB⟩⟩
             ·rw [if_neg c51] at H
              exact absurd H (by simp)
            ·replace c50 := Bool.eq_false_iff.mpr c50
             subst c50
             have H1 : (if x8_2.length < 4398046511104 then (ineq_Sum.l0 k2 l1 (x8_2 ++ [(⟨(rd_T30 l0 x36_2).f0.f0, (rd_T30 l0 x36_2).f0.f1⟩ : S28)]) false l0 (l0.length : Int) (wrap64 (x36_2 + 1)) a2) else (none)) = some (r1, r2, r3, r4) := by rw [if_neg (show ¬ (false = true) by decide)] at H; exact H
             clear H
             have H := H1
             clear H1
             by_cases c59 : x8_2.length < 4398046511104
             ·rw [if_pos c59] at H
              have LMc59 := zK c59
              clear c59
              obtain ⟨y155, hy155⟩ : ∃ y_ : List (S28), y_ = (x8_2 ++ [(⟨(rd_T30 l0 x36_2).f0.f0, (rd_T30 l0 x36_2).f0.f1⟩ : S28)]) := ⟨_, rfl⟩
              replace H : (ineq_Sum.l0 k2 l1 y155 false l0 (l0.length : Int) (wrap64 (x36_2 + 1)) a2) = some (r1, r2, r3, r4) := by first | (rw [hy155]; with_reducible exact H) | (have H2_ := (Option.bind_some _ _).symm.trans H; rw [hy155]; with_reducible exact H2_) | (have H2_ := (Option.bind_some _ _).symm.trans H; with_reducible exact H2_) | with_reducible exact H | (rw [hy155]; exact H) | exact H
              have Ny155 := zK hy155
              clear hy155
              have H' := zK H
              clear H
              have p142 : 0 ≤ (x36_2 : Int) := of_decide_eq_true (by first | (with_reducible assumption) | assumption)
              have q142 : x36_2 < (l0.length : Int) := of_decide_eq_true (by first | (with_reducible assumption) | assumption)
              obtain ⟨ad142, A142_1, c142_1, e142, hx142_0, hx142_1, hx142_2, hl142_1, hi142_1⟩ := at_T30 (Kd.V_reads' HO_34.out).2.2 x36_2 p142 q142
              cases e142
              obtain ⟨ce142, hce142, hMe142, hcc142⟩ := Kd.V_get HO_34.out z30 x36_2 p142 (by first | exact q142 | exact of_decide_eq_true (by first | (with_reducible assumption) | assumption) | (have e_ := (Kd.V_reads' HO_34.out).1; omega))
              obtain ⟨ua142_1, uc142_1, rfl, ul142_1, ge142_1⟩ := k30_openF hMe142
              have hv142_1 := hcc142 1 _ rfl
              rw [add_field _ _ 1 (by omega)] at hv142_1
              replace hv142_1 := Option.some.inj (hv142_1.symm.trans hx142_1)
              injection hv142_1 with hva_ hvn_ hvc_
              rw [hva_] at ge142_1
              rw [hvc_] at ul142_1
              have HL142_1 := zK (show Kd.V k47 47 _ w.heap.size _ _ ((rd_T30 l0 x36_2).f0.f1) from Kd.V_mk ul142_1 ge142_1)
              clear hva_ hvn_ hvc_ ge142_1 ul142_1 hcc142 hce142
              have HR142_1 := zK hi142_1
              have HC142_1 := zK hl142_1
              clear hi142_1 hl142_1
              replace p142 := eq_true p142
              replace q142 := eq_true q142
              go_wp2_with (first | ((with_reducible refine gate_dst (N := 11) rfl ?_); (try (refine zG (by rfl) ?_; dsimp only)); refine box_event ?hg (N := 11) ?hd (cs := #[.int .i64 0, .slice none 0 0, .bool false]) (t := 30) ?hr ?_; (case hd => rfl); (case hg => rfl); (case hr => first | (go_simp; done) | (go_simp; rfl)); intro gb143 hg w60 hbox hb; replace HO_8 := zK (Kd.N_below (Kd.N_elderB (zn HO_8) gb143 (Nat.le_of_eq hg.symm)) hb); replace HO_34 := zK (Kd.V_below (Kd.V_elderB (zv HO_34) gb143 (Nat.le_of_eq hg.symm)) hb); replace HL142_1 := zK (Kd.V_below (Kd.V_elderB (zv HL142_1) gb143 (Nat.le_of_eq hg.symm)) hb); replace HR142_1 := zK (Kd.C_below (by repeat (first | (with_reducible exact HR142_1.out) | (with_reducible refine cA ?_ _) | (with_reducible refine cN ?_ _) | (with_reducible refine cD ?_) | exact HR142_1.out)) hb); have BK143 := zK (hbox); have GW143 := zK ((by rw [hg]; exact (below_size (zo HB)) : w.heap.size ≤ gb143)); have GE143 := zK ((by rw [hg]; exact (below_size (zo HB)) : w.heap.size ≤ gb143)); replace HB := zK (below_step (zo HB) hb); have NB140_143 := zK ((by rw [hg]; exact Nat.ne_of_lt (blk_lt (g := gb140) (o := .cells #[.int .i64 a2] 2 (0, 0)) (zb BK140)) : gb140 ≠ gb143)); have NB143_140 := zK ((by rw [hg]; exact Nat.ne_of_gt (blk_lt (g := gb140) (o := .cells #[.int .i64 a2] 2 (0, 0)) (zb BK140)) : gb143 ≠ gb140)); replace BK140 := zK (blk_below (g := gb140) (o := .cells #[.int .i64 a2] 2 (0, 0)) (zb BK140) hb); have NB141_143 := zK ((by rw [hg]; exact Nat.ne_of_lt (blk_lt (g := gb141) (o := .cells #[.int .i64 x142000_2, .slice none 0 0, .bool x142002_2] 30 (0, 0)) (zb BK141)) : gb141 ≠ gb143)); have NB143_141 := zK ((by rw [hg]; exact Nat.ne_of_gt (blk_lt (g := gb141) (o := .cells #[.int .i64 x142000_2, .slice none 0 0, .bool x142002_2] 30 (0, 0)) (zb BK141)) : gb143 ≠ gb141)); replace BK141 := zK (blk_below (g := gb141) (o := .cells #[.int .i64 x142000_2, .slice none 0 0, .bool x142002_2] 30 (0, 0)) (zb BK141) hb); clear hb hbox hg; have hnb61 := NB143_140.out; have hnc61 := NB140_143.out; have hnb62 := NB143_141.out; have hnc62 := NB141_143.out; have hcz63_0 : w60.cell? ⟨gb143, 0, none⟩ = some (.int .i64 0) := (blk_cell BK143.out 0).trans rfl; have hcz63_1 : w60.cell? ⟨gb143, 1, none⟩ = some (.slice none 0 0) := (blk_cell BK143.out 1).trans rfl; have hcz63_2 : w60.cell? ⟨gb143, 2, none⟩ = some (.bool false) := (blk_cell BK143.out 2).trans rfl; have hfz63_0 := blk_frozen BK143.out 0; have hfz63_1 := blk_frozen BK143.out 1; have hfz63_2 := blk_frozen BK143.out 2) | ((with_reducible refine zC (f := 18) rfl ?_); refine goesL_ (some 42) rfl rfl Try.func18 (by kernel_rfl) rfl #[.agg #[.int .i64 ((rd_T30 l0 x36_2).f0.f0), .slice A142_1 ((rd_T30 l0 x36_2).f0.f1).length c142_1, .bool ((rd_T30 l0 x36_2).f1)]] rfl (by (try simp only [List.map_toArray, List.map_cons, List.map_nil]); first | done | rfl | (simp only [List.length_drop, List.length_take]; rfl)) ?_; (with_reducible refine (ineq_Right.calls k2 ((rd_T30 l0 x36_2).f0.f0) _ _ ((rd_T30 l0 x36_2).f0.f1) ((rd_T30 l0 x36_2).f1) t144 _ ?side1 ?side2 A19.out).mono ?_); (case side1 => repeat (first | exact ((Kd.V_reads' (by (with_reducible repeat (first | apply vA | apply vN | apply vD)); exact (vM (vF (p := ⟨gb143, 2, none⟩) (vF (p := ⟨gb143, 1, none⟩) (vF (p := ⟨gb143, 0, none⟩) (vM HL142_1.out (fun k_ hk => (⟨hk, hk.2⟩ : _ ∧ k_ ≠ gb143))) (fun _ hk => hk.2) (.int .i64 ((rd_T30 l0 x36_2).f0.f0))) (fun _ hk => hk.2) (.slice A142_1 ((rd_T30 l0 x36_2).f0.f1).length c142_1)) (fun _ hk => hk.2) (.bool ((rd_T30 l0 x36_2).f1))) (fun _ h_ => h_.1)))).2.2) | (with_reducible refine cA ?_ _) | (with_reducible refine cN ?_ _) | (with_reducible refine cD ?_))); (case side2 => exact HC142_1.out); rintro e w64 ⟨rfl, hb⟩; refine ⟨_, rfl, ?_⟩; replace HO_8 := zK (Kd.N_below (by (with_reducible repeat (first | apply nA | apply nN | apply nD)); exact (Kd.N_mono (Kd.N_far (p := ⟨gb143, 2, none⟩) (Kd.N_far (p := ⟨gb143, 1, none⟩) (Kd.N_far (p := ⟨gb143, 0, none⟩) (Kd.N_mono HO_8.out (fun k_ hk => (⟨hk, hk.2⟩ : _ ∧ k_ ≠ gb143))) (fun _ hk => hk.2) (.int .i64 ((rd_T30 l0 x36_2).f0.f0))) (fun _ hk => hk.2) (.slice A142_1 ((rd_T30 l0 x36_2).f0.f1).length c142_1)) (fun _ hk => hk.2) (.bool ((rd_T30 l0 x36_2).f1))) (fun _ h_ => h_.1))) hb); replace HO_34 := zK (Kd.V_below (by (with_reducible repeat (first | apply vA | apply vN | apply vD)); exact (vM (vF (p := ⟨gb143, 2, none⟩) (vF (p := ⟨gb143, 1, none⟩) (vF (p := ⟨gb143, 0, none⟩) (vM HO_34.out (fun k_ hk => (⟨hk, hk.2⟩ : _ ∧ k_ ≠ gb143))) (fun _ hk => hk.2) (.int .i64 ((rd_T30 l0 x36_2).f0.f0))) (fun _ hk => hk.2) (.slice A142_1 ((rd_T30 l0 x36_2).f0.f1).length c142_1)) (fun _ hk => hk.2) (.bool ((rd_T30 l0 x36_2).f1))) (fun _ h_ => h_.1))) hb); replace BK140 := zK (blk_below (g := gb140) (o := .cells #[.int .i64 a2] 2 (0, 0)) (zb BK140) hb); replace BK141 := zK (blk_below (g := gb141) (o := .cells #[.int .i64 x142000_2, .slice none 0 0, .bool x142002_2] 30 (0, 0)) (zb BK141) hb); replace HR142_1 := zK (Kd.C_below ((Kd.V_reads' (by (with_reducible repeat (first | apply vA | apply vN | apply vD)); exact (vM (vF (p := ⟨gb143, 2, none⟩) (vF (p := ⟨gb143, 1, none⟩) (vF (p := ⟨gb143, 0, none⟩) (vM HL142_1.out (fun k_ hk => (⟨hk, hk.2⟩ : _ ∧ k_ ≠ gb143))) (fun _ hk => hk.2) (.int .i64 ((rd_T30 l0 x36_2).f0.f0))) (fun _ hk => hk.2) (.slice A142_1 ((rd_T30 l0 x36_2).f0.f1).length c142_1)) (fun _ hk => hk.2) (.bool ((rd_T30 l0 x36_2).f1))) (fun _ h_ => h_.1)))).2.2) hb); replace HL142_1 := zK (Kd.V_below (by (with_reducible repeat (first | apply vA | apply vN | apply vD)); exact (vM (vF (p := ⟨gb143, 2, none⟩) (vF (p := ⟨gb143, 1, none⟩) (vF (p := ⟨gb143, 0, none⟩) (vM HL142_1.out (fun k_ hk => (⟨hk, hk.2⟩ : _ ∧ k_ ≠ gb143))) (fun _ hk => hk.2) (.int .i64 ((rd_T30 l0 x36_2).f0.f0))) (fun _ hk => hk.2) (.slice A142_1 ((rd_T30 l0 x36_2).f0.f1).length c142_1)) (fun _ hk => hk.2) (.bool ((rd_T30 l0 x36_2).f1))) (fun _ h_ => h_.1))) hb); replace BK143 := zK (blk_below (g := gb143) (o := .cells #[.int .i64 ((rd_T30 l0 x36_2).f0.f0), .slice A142_1 ((rd_T30 l0 x36_2).f0.f1).length c142_1, .bool ((rd_T30 l0 x36_2).f1)] 30 (0, 0)) (by refine zM ?_; refine blk_put (cs := #[.int .i64 ((rd_T30 l0 x36_2).f0.f0), .slice A142_1 ((rd_T30 l0 x36_2).f0.f1).length c142_1, .bool false]) ?_ 2 _ rfl; refine zM ?_; refine blk_put (cs := #[.int .i64 ((rd_T30 l0 x36_2).f0.f0), .slice none 0 0, .bool false]) ?_ 1 _ rfl; refine zM ?_; refine blk_put (cs := #[.int .i64 0, .slice none 0 0, .bool false]) ?_ 0 _ rfl; refine zM ?_; exact BK143.out) hb); replace HB := zK (below_step (zo HB) hb); (try clear hb); (try clear hb2); (try clear hk); (try clear hi); have p145 : 0 ≤ (x36_2 : Int) := of_decide_eq_true (by first | (with_reducible assumption) | assumption); have q145 : x36_2 < (l1.length : Int) := of_decide_eq_true (by first | (with_reducible assumption) | assumption); obtain ⟨ad145, e145, hx145_0⟩ := Kd.at_int HR1.out x36_2 p145 q145; cases e145; replace hx145_0 := (HB.out.cell (World.block_lt_of_cell? w _ hx145_0)).trans hx145_0; replace p145 := eq_true p145; replace q145 := eq_true q145; have hcz65_0 : w64.cell? ⟨gb143, 0, none⟩ = some (.int .i64 ((rd_T30 l0 x36_2).f0.f0)) := (blk_cell BK143.out 0).trans rfl; have hcz65_1 : w64.cell? ⟨gb143, 1, none⟩ = some (.slice A142_1 ((rd_T30 l0 x36_2).f0.f1).length c142_1) := (blk_cell BK143.out 1).trans rfl; have hcz65_2 : w64.cell? ⟨gb143, 2, none⟩ = some (.bool ((rd_T30 l0 x36_2).f1)) := (blk_cell BK143.out 2).trans rfl; have hfz65_0 := blk_frozen BK143.out 0; have hfz65_1 := blk_frozen BK143.out 1; have hfz65_2 := blk_frozen BK143.out 2) | ((with_reducible refine gate_builtin (b := .append) (xs := #[.tmp 62, .tmp 65]) rfl ?_); (try (refine zG (by rfl) ?_; dsimp only)); at_builtin; refine Kd.N_append k28 (w0 := w) w.heap.size rfl (.tmp 62) (.tmp 65) 48 28 (.agg #[(.int .i64 0), (.slice none 0 0)]) 32 rfl Try.underlying48 info28 rfl (by decide) (by omega) u8 x8_2 (⟨(rd_T30 l0 x36_2).f0.f0, (rd_T30 l0 x36_2).f0.f1⟩ : S28) [.int .i64 ((rd_T30 l0 x36_2).f0.f0), .slice A142_1 ((rd_T30 l0 x36_2).f0.f1).length c142_1] (fun k_ => (P0_ k_ ∨ w.heap.size ≤ k_) ∧ k_ ≠ gb140 ∧ k_ ≠ gb141 ∧ k_ ≠ gb143) (fun k_ => ((fun k_ => (P0_ k_ ∨ w.heap.size ≤ k_) ∧ k_ ≠ gb140 ∧ k_ ≠ gb141 ∧ k_ ≠ gb143)) k_ ∧ some k_ ≠ (u8 : Value).ownBlock) rfl rfl ?aP (fun _ hk => hk) ?aF ?aO ?aB ?aS ?aL ?_; (case aP => exact (k28_mkF _ _ (⟨(rd_T30 l0 x36_2).f0.f0, (rd_T30 l0 x36_2).f0.f1⟩ : S28) (Kd.V_reads' (vM (ok' := (fun k_ => ((fun k_ => (P0_ k_ ∨ w.heap.size ≤ k_) ∧ k_ ≠ gb140 ∧ k_ ≠ gb141 ∧ k_ ≠ gb143)) k_ ∧ some k_ ≠ (u8 : Value).ownBlock)) (HL142_1.out) (fun k_ hk => ⟨⟨hk.1.1, ⟨hk.1.2.2.1, ⟨hk.1.2.2.2, hk.2⟩⟩⟩, hk.1.2.1⟩))).2.1 (Kd.V_F (vM (ok' := (fun k_ => ((fun k_ => (P0_ k_ ∨ w.heap.size ≤ k_) ∧ k_ ≠ gb140 ∧ k_ ≠ gb141 ∧ k_ ≠ gb143)) k_ ∧ some k_ ≠ (u8 : Value).ownBlock)) (HL142_1.out) (fun k_ hk => ⟨⟨hk.1.1, ⟨hk.1.2.2.1, ⟨hk.1.2.2.2, hk.2⟩⟩⟩, hk.1.2.1⟩))))); (case aB => exact (zo HB)); (case aF => exact (fun k_ hk => ⟨(.inr (Nat.le_trans (below_size (zo HB)) hk)), Kd.freshB (g := gb140) (o := .cells #[.int .i64 a2] 2 (0, 0)) (zb BK140) k_ hk, Kd.freshB (g := gb141) (o := .cells #[.int .i64 x142000_2, .slice none 0 0, .bool x142002_2] 30 (0, 0)) (zb BK141) k_ hk, Kd.freshB (g := gb143) (o := .cells #[.int .i64 ((rd_T30 l0 x36_2).f0.f0), .slice A142_1 ((rd_T30 l0 x36_2).f0.f1).length c142_1, .bool ((rd_T30 l0 x36_2).f1)] 30 (0, 0)) (zb BK143) k_ hk⟩)); (case aO => exact (by (with_reducible repeat (first | apply nA | apply nN | apply nD)); exact Kd.N_mono HO_8.out (fun _ hk => ⟨hk.1.1, ⟨hk.1.2.1, ⟨hk.1.2.2, hk.2⟩⟩⟩))); (case aS => exact (below_size (zo HB))); (case aL => have := LMc59.out; omega); intro v156 w66 ho hb hg hat; rw [← Ny155.out] at ho; replace HO_34 := zK (Kd.V_afterv (ok := (fun k_ => (P0_ k_ ∨ w.heap.size ≤ k_) ∧ k_ ≠ gb140 ∧ k_ ≠ gb141 ∧ k_ ≠ gb143)) (by (with_reducible repeat (first | apply vA | apply vN | apply vD)); exact vM HO_34.out (fun _ hk => ⟨⟨hk.1.1, ⟨hk.1.2.2.1, ⟨hk.1.2.2.2, hk.2⟩⟩⟩, hk.1.2.1⟩)) hg hat); replace BK140 := zK (blk_grown (g := gb140) (o := .cells #[.int .i64 a2] 2 (0, 0)) (zb BK140) hg (Kd.N_ne HO_8.out BK140.out (by decide))); replace BK141 := zK (blk_grown (g := gb141) (o := .cells #[.int .i64 x142000_2, .slice none 0 0, .bool x142002_2] 30 (0, 0)) (zb BK141) hg (Kd.N_ne HO_8.out BK141.out (by decide))); replace HL142_1 := zK (Kd.V_afterv (ok := (fun k_ => (P0_ k_ ∨ w.heap.size ≤ k_) ∧ k_ ≠ gb140 ∧ k_ ≠ gb141 ∧ k_ ≠ gb143)) (by (with_reducible repeat (first | apply vA | apply vN | apply vD)); exact vM HL142_1.out (fun _ hk => ⟨⟨hk.1.1, ⟨hk.1.2.2.1, ⟨hk.1.2.2.2, hk.2⟩⟩⟩, hk.1.2.1⟩)) hg hat); replace BK143 := zK (blk_grown (g := gb143) (o := .cells #[.int .i64 ((rd_T30 l0 x36_2).f0.f0), .slice A142_1 ((rd_T30 l0 x36_2).f0.f1).length c142_1, .bool ((rd_T30 l0 x36_2).f1)] 30 (0, 0)) (zb BK143) hg (Kd.N_ne HO_8.out BK143.out (by decide))); replace HB := zK (hb); have HO157 := zK (ho); clear HO_8 ho hb hg hat))
              go_roundg k2
              case measure => have := HJ3.out; have := HK2.out; omega
              case rel => exact ⟨(y155), (false), (wrap64 (x36_2 + 1)), (x142000_2), (x142002_2), (by first | rfl | (simp; done) | (simp [*]; done)), (by first | rfl | (simp; done) | (simp [*]; done)), H', ⟨by have := HJ3.out; have := HK2.out; omega⟩, ⟨by (with_reducible repeat (first | apply nA | apply nN | apply nD)); exact Kd.N_mono HO157.out (fun _ hk => ⟨hk.1, ⟨hk.2.1, hk.2.2.1⟩⟩)⟩, ⟨by (with_reducible repeat (first | apply vA | apply vN | apply vD)); exact vM HO_34.out (fun _ hk => ⟨hk.1.1, ⟨hk.2, ⟨hk.1.2.1, hk.1.2.2.1⟩⟩⟩)⟩, ⟨zb BK140⟩, ⟨zb BK141⟩, ⟨zo HB⟩⟩
             ·rw [if_neg c59] at H
              exact absurd H (by simp)
          ·rw [if_neg c21] at H
           exact absurd H (by simp)
         ·rw [if_neg c20] at H
          have c20b0 : (t144 == 0) = false := beq_eq_false_iff_ne.mpr c20
          have c20b1 : (t144 != 0) = true := bne_iff_ne.mpr c20
          simp only [Option.some.injEq, Prod.mk.injEq] at H
          obtain ⟨rfl, rfl, rfl, rfl⟩ := H
          have p142 : 0 ≤ (x36_2 : Int) := of_decide_eq_true (by first | (with_reducible assumption) | assumption)
          have q142 : x36_2 < (l0.length : Int) := of_decide_eq_true (by first | (with_reducible assumption) | assumption)
          obtain ⟨ad142, A142_1, c142_1, e142, hx142_0, hx142_1, hx142_2, hl142_1, hi142_1⟩ := at_T30 (Kd.V_reads' HO_34.out).2.2 x36_2 p142 q142
          cases e142
          obtain ⟨ce142, hce142, hMe142, hcc142⟩ := Kd.V_get HO_34.out z30 x36_2 p142 (by first | exact q142 | exact of_decide_eq_true (by first | (with_reducible assumption) | assumption) | (have e_ := (Kd.V_reads' HO_34.out).1; omega))
          obtain ⟨ua142_1, uc142_1, rfl, ul142_1, ge142_1⟩ := k30_openF hMe142
          have hv142_1 := hcc142 1 _ rfl
          rw [add_field _ _ 1 (by omega)] at hv142_1
          replace hv142_1 := Option.some.inj (hv142_1.symm.trans hx142_1)
          injection hv142_1 with hva_ hvn_ hvc_
          rw [hva_] at ge142_1
          rw [hvc_] at ul142_1
          have HL142_1 := zK (show Kd.V k47 47 _ w.heap.size _ _ ((rd_T30 l0 x36_2).f0.f1) from Kd.V_mk ul142_1 ge142_1)
          clear hva_ hvn_ hvc_ ge142_1 ul142_1 hcc142 hce142
          have HR142_1 := zK hi142_1
          have HC142_1 := zK hl142_1
          clear hi142_1 hl142_1
          replace p142 := eq_true p142
          replace q142 := eq_true q142
          go_wp2_with (first | ((with_reducible refine gate_dst (N := 11) rfl ?_); (try (refine zG (by rfl) ?_; dsimp only)); refine box_event ?hg (N := 11) ?hd (cs := #[.int .i64 0, .slice none 0 0, .bool false]) (t := 30) ?hr ?_; (case hd => rfl); (case hg => rfl); (case hr => first | (go_simp; done) | (go_simp; rfl)); intro gb143 hg w67 hbox hb; replace HO_8 := zK (Kd.N_below (Kd.N_elderB (zn HO_8) gb143 (Nat.le_of_eq hg.symm)) hb); replace HO_34 := zK (Kd.V_below (Kd.V_elderB (zv HO_34) gb143 (Nat.le_of_eq hg.symm)) hb); replace HL142_1 := zK (Kd.V_below (Kd.V_elderB (zv HL142_1) gb143 (Nat.le_of_eq hg.symm)) hb); replace HR142_1 := zK (Kd.C_below (by repeat (first | (with_reducible exact HR142_1.out) | (with_reducible refine cA ?_ _) | (with_reducible refine cN ?_ _) | (with_reducible refine cD ?_) | exact HR142_1.out)) hb); have BK143 := zK (hbox); have GW143 := zK ((by rw [hg]; exact (below_size (zo HB)) : w.heap.size ≤ gb143)); have GE143 := zK ((by rw [hg]; exact (below_size (zo HB)) : w.heap.size ≤ gb143)); replace HB := zK (below_step (zo HB) hb); have NB140_143 := zK ((by rw [hg]; exact Nat.ne_of_lt (blk_lt (g := gb140) (o := .cells #[.int .i64 a2] 2 (0, 0)) (zb BK140)) : gb140 ≠ gb143)); have NB143_140 := zK ((by rw [hg]; exact Nat.ne_of_gt (blk_lt (g := gb140) (o := .cells #[.int .i64 a2] 2 (0, 0)) (zb BK140)) : gb143 ≠ gb140)); replace BK140 := zK (blk_below (g := gb140) (o := .cells #[.int .i64 a2] 2 (0, 0)) (zb BK140) hb); have NB141_143 := zK ((by rw [hg]; exact Nat.ne_of_lt (blk_lt (g := gb141) (o := .cells #[.int .i64 x142000_2, .slice none 0 0, .bool x142002_2] 30 (0, 0)) (zb BK141)) : gb141 ≠ gb143)); have NB143_141 := zK ((by rw [hg]; exact Nat.ne_of_gt (blk_lt (g := gb141) (o := .cells #[.int .i64 x142000_2, .slice none 0 0, .bool x142002_2] 30 (0, 0)) (zb BK141)) : gb143 ≠ gb141)); replace BK141 := zK (blk_below (g := gb141) (o := .cells #[.int .i64 x142000_2, .slice none 0 0, .bool x142002_2] 30 (0, 0)) (zb BK141) hb); clear hb hbox hg; have hnb68 := NB143_140.out; have hnc68 := NB140_143.out; have hnb69 := NB143_141.out; have hnc69 := NB141_143.out; have hcz70_0 : w67.cell? ⟨gb143, 0, none⟩ = some (.int .i64 0) := (blk_cell BK143.out 0).trans rfl; have hcz70_1 : w67.cell? ⟨gb143, 1, none⟩ = some (.slice none 0 0) := (blk_cell BK143.out 1).trans rfl; have hcz70_2 : w67.cell? ⟨gb143, 2, none⟩ = some (.bool false) := (blk_cell BK143.out 2).trans rfl; have hfz70_0 := blk_frozen BK143.out 0; have hfz70_1 := blk_frozen BK143.out 1; have hfz70_2 := blk_frozen BK143.out 2) | ((with_reducible refine zC (f := 18) rfl ?_); refine goesL_ (some 42) rfl rfl Try.func18 (by kernel_rfl) rfl #[.agg #[.int .i64 ((rd_T30 l0 x36_2).f0.f0), .slice A142_1 ((rd_T30 l0 x36_2).f0.f1).length c142_1, .bool ((rd_T30 l0 x36_2).f1)]] rfl (by (try simp only [List.map_toArray, List.map_cons, List.map_nil]); first | done | rfl | (simp only [List.length_drop, List.length_take]; rfl)) ?_; (with_reducible refine (ineq_Right.calls k2 ((rd_T30 l0 x36_2).f0.f0) _ _ ((rd_T30 l0 x36_2).f0.f1) ((rd_T30 l0 x36_2).f1) t144 _ ?side1 ?side2 A19.out).mono ?_); (case side1 => repeat (first | exact ((Kd.V_reads' (by (with_reducible repeat (first | apply vA | apply vN | apply vD)); exact (vM (vF (p := ⟨gb143, 2, none⟩) (vF (p := ⟨gb143, 1, none⟩) (vF (p := ⟨gb143, 0, none⟩) (vM HL142_1.out (fun k_ hk => (⟨hk, hk.2⟩ : _ ∧ k_ ≠ gb143))) (fun _ hk => hk.2) (.int .i64 ((rd_T30 l0 x36_2).f0.f0))) (fun _ hk => hk.2) (.slice A142_1 ((rd_T30 l0 x36_2).f0.f1).length c142_1)) (fun _ hk => hk.2) (.bool ((rd_T30 l0 x36_2).f1))) (fun _ h_ => h_.1)))).2.2) | (with_reducible refine cA ?_ _) | (with_reducible refine cN ?_ _) | (with_reducible refine cD ?_))); (case side2 => exact HC142_1.out); rintro e w71 ⟨rfl, hb⟩; refine ⟨_, rfl, ?_⟩; replace HO_8 := zK (Kd.N_below (by (with_reducible repeat (first | apply nA | apply nN | apply nD)); exact (Kd.N_mono (Kd.N_far (p := ⟨gb143, 2, none⟩) (Kd.N_far (p := ⟨gb143, 1, none⟩) (Kd.N_far (p := ⟨gb143, 0, none⟩) (Kd.N_mono HO_8.out (fun k_ hk => (⟨hk, hk.2⟩ : _ ∧ k_ ≠ gb143))) (fun _ hk => hk.2) (.int .i64 ((rd_T30 l0 x36_2).f0.f0))) (fun _ hk => hk.2) (.slice A142_1 ((rd_T30 l0 x36_2).f0.f1).length c142_1)) (fun _ hk => hk.2) (.bool ((rd_T30 l0 x36_2).f1))) (fun _ h_ => h_.1))) hb); replace HO_34 := zK (Kd.V_below (by (with_reducible repeat (first | apply vA | apply vN | apply vD)); exact (vM (vF (p := ⟨gb143, 2, none⟩) (vF (p := ⟨gb143, 1, none⟩) (vF (p := ⟨gb143, 0, none⟩) (vM HO_34.out (fun k_ hk => (⟨hk, hk.2⟩ : _ ∧ k_ ≠ gb143))) (fun _ hk => hk.2) (.int .i64 ((rd_T30 l0 x36_2).f0.f0))) (fun _ hk => hk.2) (.slice A142_1 ((rd_T30 l0 x36_2).f0.f1).length c142_1)) (fun _ hk => hk.2) (.bool ((rd_T30 l0 x36_2).f1))) (fun _ h_ => h_.1))) hb); replace BK140 := zK (blk_below (g := gb140) (o := .cells #[.int .i64 a2] 2 (0, 0)) (zb BK140) hb); replace BK141 := zK (blk_below (g := gb141) (o := .cells #[.int .i64 x142000_2, .slice none 0 0, .bool x142002_2] 30 (0, 0)) (zb BK141) hb); replace HR142_1 := zK (Kd.C_below ((Kd.V_reads' (by (with_reducible repeat (first | apply vA | apply vN | apply vD)); exact (vM (vF (p := ⟨gb143, 2, none⟩) (vF (p := ⟨gb143, 1, none⟩) (vF (p := ⟨gb143, 0, none⟩) (vM HL142_1.out (fun k_ hk => (⟨hk, hk.2⟩ : _ ∧ k_ ≠ gb143))) (fun _ hk => hk.2) (.int .i64 ((rd_T30 l0 x36_2).f0.f0))) (fun _ hk => hk.2) (.slice A142_1 ((rd_T30 l0 x36_2).f0.f1).length c142_1)) (fun _ hk => hk.2) (.bool ((rd_T30 l0 x36_2).f1))) (fun _ h_ => h_.1)))).2.2) hb); replace HL142_1 := zK (Kd.V_below (by (with_reducible repeat (first | apply vA | apply vN | apply vD)); exact (vM (vF (p := ⟨gb143, 2, none⟩) (vF (p := ⟨gb143, 1, none⟩) (vF (p := ⟨gb143, 0, none⟩) (vM HL142_1.out (fun k_ hk => (⟨hk, hk.2⟩ : _ ∧ k_ ≠ gb143))) (fun _ hk => hk.2) (.int .i64 ((rd_T30 l0 x36_2).f0.f0))) (fun _ hk => hk.2) (.slice A142_1 ((rd_T30 l0 x36_2).f0.f1).length c142_1)) (fun _ hk => hk.2) (.bool ((rd_T30 l0 x36_2).f1))) (fun _ h_ => h_.1))) hb); replace BK143 := zK (blk_below (g := gb143) (o := .cells #[.int .i64 ((rd_T30 l0 x36_2).f0.f0), .slice A142_1 ((rd_T30 l0 x36_2).f0.f1).length c142_1, .bool ((rd_T30 l0 x36_2).f1)] 30 (0, 0)) (by refine zM ?_; refine blk_put (cs := #[.int .i64 ((rd_T30 l0 x36_2).f0.f0), .slice A142_1 ((rd_T30 l0 x36_2).f0.f1).length c142_1, .bool false]) ?_ 2 _ rfl; refine zM ?_; refine blk_put (cs := #[.int .i64 ((rd_T30 l0 x36_2).f0.f0), .slice none 0 0, .bool false]) ?_ 1 _ rfl; refine zM ?_; refine blk_put (cs := #[.int .i64 0, .slice none 0 0, .bool false]) ?_ 0 _ rfl; refine zM ?_; exact BK143.out) hb); replace HB := zK (below_step (zo HB) hb); (try clear hb); (try clear hb2); (try clear hk); (try clear hi); have hnb72 := NB141_140.out; have hnc72 := NB140_141.out; have hcz73_0 : w71.cell? ⟨gb141, 0, none⟩ = some (.int .i64 x142000_2) := (blk_cell BK141.out 0).trans rfl; have hcz73_1 : w71.cell? ⟨gb141, 1, none⟩ = some (.slice none 0 0) := (blk_cell BK141.out 1).trans rfl; have hcz73_2 : w71.cell? ⟨gb141, 2, none⟩ = some (.bool x142002_2) := (blk_cell BK141.out 2).trans rfl; have hfz73_0 := blk_frozen BK141.out 0; have hfz73_1 := blk_frozen BK141.out 1; have hfz73_2 := blk_frozen BK141.out 2))
          refine bodyPost_ret (results_ct rfl _ _ gb141 30 #[.int .i64 0, .slice none 0 0, .bool false] (0, 0) _ rfl (by refine zM ?_; refine blk_put (cs := #[.int .i64 0, .slice none 0 0, .bool x142002_2]) ?_ 2 _ rfl; refine zM ?_; refine blk_put (cs := #[.int .i64 0, .slice none 0 0, .bool x142002_2]) ?_ 1 _ rfl; refine zM ?_; refine blk_put (cs := #[.int .i64 x142000_2, .slice none 0 0, .bool x142002_2]) ?_ 0 _ rfl; refine zM ?_; exact BK141.out) Try.underlying30 rfl (by kernel_rfl)) rfl ?_
          exact ⟨_, by first | rfl | (simp [errW_none, errW_some] <;> rfl) | (simp [*, errW_none, errW_some] <;> rfl), by first | exact Kd.R_nil _ _ _ _ _ | exact Kd.N_nil _ _ _ _ _ | exact Kd.V_nil _ _ _ _ _ | exact Kd.Q_nil _ _ _ _ _ | exact Kd.S_nil _ _ _ _ _, zo HB⟩
        ·rw [if_neg c18] at H
         exact absurd H (by simp)
       ·rw [if_neg c17] at H
        exact absurd H (by simp)
      ·rw [if_neg c16] at H
       have c16b0 : decide (x36_2 < (l0.length : Int)) = false := decide_eq_false c16
       clear c16
       replace H := Option.bind_eq_some_iff.mp H
       obtain ⟨⟨t158, t159, t162⟩, A740, H⟩ := H
       replace H : (if t162 = 0 then (ineq_Sum.l1 k2 x9_2 ([] : List Int) t159 (t159.length : Int) 0 a2 t158 t159) else (some (0, ([] : List (S47)), false, t162))) = some (r1, r2, r3, r4) := H
       have A74 := zK A740
       clear A740
       by_cases c75 : t162 = 0
       ·rw [if_pos c75] at H
        have c75b0 : (t162 == 0) = true := beq_iff_eq.mpr c75
        have c75b1 : (t162 != 0) = false := bne_eq_false_iff_eq.mpr c75
        clear c75
        have H' := zK H
        clear H
        obtain ⟨Ao76, co76, eo76⟩ := Kd.N_slice HO_8.out
        subst eo76
        go_wp2_with (first | ((with_reducible refine zC (f := 28) rfl ?_); refine goesL_ (some 71) rfl rfl Try.func28 (by kernel_rfl) rfl #[.slice Ao76 x8_2.length co76, .slice A1 l1.length c1] rfl (by (try simp only [List.map_toArray, List.map_cons, List.map_nil]); first | done | rfl | (simp only [List.length_drop, List.length_take]; rfl)) ?_; (with_reducible refine (lin_Sum.calls k2 (fun k_ => ((P0_ k_ ∨ w.heap.size ≤ k_) ∧ (k_ ≠ gb140 ∧ k_ ≠ gb141))) _ _ x8_2 _ _ l1 t158 t159 t162 _ ?side1 ?side2 ?side3 A74.out).mono ?_); (case side1 => exact Kd.N_V (HO_8.out)); (case side2 => repeat (first | exact (Kd.C_below HR1.out HB.out) | (with_reducible refine cA ?_ _) | (with_reducible refine cN ?_ _) | (with_reducible refine cD ?_))); (case side3 => exact HC1.out); rintro e w77 ⟨v160, rfl, ho0, hb⟩; refine ⟨_, rfl, ?_⟩; replace HO_8 := zK (Kd.N_elder' (zn HO_8) (Kd.R_base ho0) hb); replace HO_34 := zK (Kd.V_elder' (zv HO_34) (Kd.R_base ho0) hb); have HO161 := zK (Kd.R_lower (Kd.R_newM (M := fun k_ => (w.heap.size ≤ k_)) (Kd.R_mono (ok' := fun k_ => True) ho0 (fun _ hk_ => trivial)) (below_size (zo HB)) (fun k_ h_ => h_)) (below_size (zo HB))); replace BK140 := zK (blk_below (g := gb140) (o := .cells #[.int .i64 a2] 2 (0, 0)) (zb BK140) hb); replace BK141 := zK (blk_below (g := gb141) (o := .cells #[.int .i64 x142000_2, .slice none 0 0, .bool x142002_2] 30 (0, 0)) (zb BK141) hb); replace HB := zK (below_step (zo HB) hb); (try clear hb); (try clear hb2); (try clear hk); (try clear hi); (try clear ho0)) | ((with_reducible refine gate_dst (N := 12) rfl ?_); (try (refine zG (by rfl) ?_; dsimp only)); refine box_event ?hg (N := 12) ?hd (cs := #[.int .i64 0, .slice none 0 0]) (t := 28) ?hr ?_; (case hd => rfl); (case hg => rfl); (case hr => first | (go_simp; done) | (go_simp; rfl)); intro gb163 hg w78 hbox hb; replace HO_8 := zK (Kd.N_below (Kd.N_elderB (zn HO_8) gb163 (Nat.le_of_eq hg.symm)) hb); replace HO_34 := zK (Kd.V_below (Kd.V_elderB (zv HO_34) gb163 (Nat.le_of_eq hg.symm)) hb); replace HO161 := zK (Kd.R_below (zr HO161) hb); have BK163 := zK (hbox); have GW163 := zK ((by rw [hg]; exact (below_size (zo HB)) : w.heap.size ≤ gb163)); have GE163 := zK ((by rw [hg]; exact (below_size (zo HB)) : w.heap.size ≤ gb163)); replace HB := zK (below_step (zo HB) hb); have NB140_163 := zK ((by rw [hg]; exact Nat.ne_of_lt (blk_lt (g := gb140) (o := .cells #[.int .i64 a2] 2 (0, 0)) (zb BK140)) : gb140 ≠ gb163)); have NB163_140 := zK ((by rw [hg]; exact Nat.ne_of_gt (blk_lt (g := gb140) (o := .cells #[.int .i64 a2] 2 (0, 0)) (zb BK140)) : gb163 ≠ gb140)); replace BK140 := zK (blk_below (g := gb140) (o := .cells #[.int .i64 a2] 2 (0, 0)) (zb BK140) hb); have NB141_163 := zK ((by rw [hg]; exact Nat.ne_of_lt (blk_lt (g := gb141) (o := .cells #[.int .i64 x142000_2, .slice none 0 0, .bool x142002_2] 30 (0, 0)) (zb BK141)) : gb141 ≠ gb163)); have NB163_141 := zK ((by rw [hg]; exact Nat.ne_of_gt (blk_lt (g := gb141) (o := .cells #[.int .i64 x142000_2, .slice none 0 0, .bool x142002_2] 30 (0, 0)) (zb BK141)) : gb163 ≠ gb141)); replace BK141 := zK (blk_below (g := gb141) (o := .cells #[.int .i64 x142000_2, .slice none 0 0, .bool x142002_2] 30 (0, 0)) (zb BK141) hb); clear hb hbox hg; have hnb79 := NB163_140.out; have hnc79 := NB140_163.out; have hnb80 := NB163_141.out; have hnc80 := NB141_163.out; have hcz81_0 : w78.cell? ⟨gb163, 0, none⟩ = some (.int .i64 0) := (blk_cell BK163.out 0).trans rfl; have hcz81_1 : w78.cell? ⟨gb163, 1, none⟩ = some (.slice none 0 0) := (blk_cell BK163.out 1).trans rfl; have hfz81_0 := blk_frozen BK163.out 0; have hfz81_1 := blk_frozen BK163.out 1; obtain ⟨Ao82, co82, eo82⟩ := Kd.R_slice HO161.out; subst eo82))
        go_loopg [14, 81] k2 (fun kq v14 v81 w' => ∃ (x14_3 : List Int) (x81_3 : Int), v81 = .int .i64 x81_3 ∧ Aside0 (ineq_Sum.l1 kq x9_2 x14_3 t159 (t159.length : Int) x81_3 a2 t158 t159 = some (r1, r2, r3, r4)) ∧ Aside0 (kq ≤ k2) ∧ Aside0 (Kd.R (Kd.int .i64) 2 w' w.heap.size (fun k_ => (w.heap.size ≤ k_) ∧ k_ ≠ gb140) v14 x14_3) ∧ Aside0 (Kd.R k47 47 w' w.heap.size (fun k_ => (w.heap.size ≤ k_)) (.slice Ao82 t159.length co82) t159) ∧ Aside0 (Kd.R k47 47 w' w.heap.size (fun k_ => (w.heap.size ≤ k_)) (.slice Ao82 t159.length co82) t159) ∧ Aside0 (w'.heap[gb140]? = some (.cells #[.int .i64 a2] 2 (0, 0))) ∧ Aside0 (w'.heap[gb141]? = some (.cells #[.int .i64 x142000_2, (.slice none 0 0), .bool x142002_2] 30 (0, 0))) ∧ Aside0 (w'.heap[gb163]? = some (.cells #[.int .i64 t158, (.slice Ao82 t159.length co82)] 28 (0, 0))) ∧ Aside0 (Below w.heap.size w w'))
        case atStart => exact ⟨(([] : List Int)), (0), (by first | rfl | (simp; done) | (simp [*]; done)), H', ⟨Nat.le_refl _⟩, ⟨by first | exact Kd.R_nil _ _ _ _ _ | exact Kd.N_nil _ _ _ _ _ | exact Kd.V_nil _ _ _ _ _ | exact Kd.Q_nil _ _ _ _ _ | exact Kd.S_nil _ _ _ _ _⟩, ⟨by (with_reducible repeat (first | apply Kd.R_alloc | apply Kd.R_drewN | apply Kd.R_drew)); exact Kd.R_mono (Kd.R_far (p := ⟨gb163, 1, none⟩) (Kd.R_far (p := ⟨gb163, 0, none⟩) (Kd.R_types HO161.out BK163.out (by decide)) (fun _ hk => hk.2) (.int .i64 t158)) (fun _ hk => hk.2) (.slice Ao82 t159.length co82)) (fun _ hk => hk.1.1)⟩, ⟨by (with_reducible repeat (first | apply Kd.R_alloc | apply Kd.R_drewN | apply Kd.R_drew)); exact Kd.R_mono (Kd.R_far (p := ⟨gb163, 1, none⟩) (Kd.R_far (p := ⟨gb163, 0, none⟩) (Kd.R_types HO161.out BK163.out (by decide)) (fun _ hk => hk.2) (.int .i64 t158)) (fun _ hk => hk.2) (.slice Ao82 t159.length co82)) (fun _ hk => hk.1.1)⟩, ⟨zb BK140⟩, ⟨zb BK141⟩, ⟨by refine zM ?_; refine blk_put (cs := #[.int .i64 t158, .slice none 0 0]) ?_ 1 _ rfl; refine zM ?_; refine blk_put (cs := #[.int .i64 0, .slice none 0 0]) ?_ 0 _ rfl; refine zM ?_; exact BK163.out⟩, ⟨zo HB⟩⟩
        case round =>
         clear H'
         try clear c1
         try clear p1
         try clear q1
         try clear hx1
         try clear c2
         try clear p2
         try clear q2
         try clear c3
         try clear c4
         try clear c5
         try clear c6
         try clear p6
         try clear c7
         try clear c7b0
         try clear c7b1
         try clear c7b2
         try clear c8
         try clear c8b0
         try clear c8b1
         try clear c8b2
         try clear c9
         try clear c11
         try clear c12
         try clear c14
         try clear p14
         try clear q14
         try clear hx14
         try clear c16
         try clear c16b0
         try clear c17
         try clear c17b0
         try clear c18
         try clear c18b0
         try clear c20
         try clear c20b0
         try clear c20b1
         try clear c21
         try clear c21b0
         try clear c22
         try clear c22b0
         try clear q23
         try clear c24
         try clear c25
         try clear c26
         try clear c28
         try clear c29
         try clear c34
         try clear c36
         try clear c37
         try clear c43
         try clear c44
         try clear c48
         try clear c50
         try clear c51
         try clear c53
         try clear c54
         try clear c59
         try clear c61
         try clear c62
         try clear p64
         try clear c68
         try clear c69
         try clear c72
         try clear c75
         try clear c75b0
         try clear c75b1
         try clear c79
         try clear c80
         try clear hcz10_0
         try clear hcz13_0
         try clear hcz13_1
         try clear hcz13_2
         try clear hcz15_0
         try clear hcz30_0
         try clear hcz30_1
         try clear hcz30_2
         try clear hcz32_0
         try clear hcz32_1
         try clear hcz32_2
         try clear hcz38_0
         try clear hcz38_1
         try clear hcz38_2
         try clear hcz40_0
         try clear hcz40_1
         try clear hcz40_2
         try clear hcz45_0
         try clear hcz45_1
         try clear hcz45_2
         try clear hcz47_0
         try clear hcz47_1
         try clear hcz47_2
         try clear hcz49_0
         try clear hcz49_1
         try clear hcz49_2
         try clear hcz55_0
         try clear hcz55_1
         try clear hcz55_2
         try clear hcz57_0
         try clear hcz57_1
         try clear hcz57_2
         try clear hcz63_0
         try clear hcz63_1
         try clear hcz63_2
         try clear hcz65_0
         try clear hcz65_1
         try clear hcz65_2
         try clear hcz70_0
         try clear hcz70_1
         try clear hcz70_2
         try clear hcz73_0
         try clear hcz73_1
         try clear hcz73_2
         try clear hcz81_0
         try clear hcz81_1
         try clear hfz10_0
         try clear hfz13_0
         try clear hfz13_1
         try clear hfz13_2
         try clear hfz15_0
         try clear hfz30_0
         try clear hfz30_1
         try clear hfz30_2
         try clear hfz32_0
         try clear hfz32_1
         try clear hfz32_2
         try clear hfz38_0
         try clear hfz38_1
         try clear hfz38_2
         try clear hfz40_0
         try clear hfz40_1
         try clear hfz40_2
         try clear hfz45_0
         try clear hfz45_1
         try clear hfz45_2
         try clear hfz47_0
         try clear hfz47_1
         try clear hfz47_2
         try clear hfz49_0
         try clear hfz49_1
         try clear hfz49_2
         try clear hfz55_0
         try clear hfz55_1
         try clear hfz55_2
         try clear hfz57_0
         try clear hfz57_1
         try clear hfz57_2
         try clear hfz63_0
         try clear hfz63_1
         try clear hfz63_2
         try clear hfz65_0
         try clear hfz65_1
         try clear hfz65_2
         try clear hfz70_0
         try clear hfz70_1
         try clear hfz70_2
         try clear hfz73_0
         try clear hfz73_1
         try clear hfz73_2
         try clear hfz81_0
         try clear hfz81_1
         try clear hx142_0
         try clear hx142_1
         try clear hx142_2
         try clear hx145_0
         try clear p142
         try clear p145
         try clear p2
         try clear q142
         try clear q145
         obtain ⟨x14_3, x81_3, rfl, HA, HK3, HO_14, HO_79, HO_164001, BK140, BK141, BK163, HB⟩ := hrel
         cases gk with
         | zero => exact absurd HA.out (by simp [ineq_Sum.l1])
         | succ k3 =>
          have H := HA.out
          clear HA
          simp only [ineq_Sum.l1] at H
          by_cases c83 : x81_3 < (t159.length : Int)
          ·rw [if_pos c83] at H
           have c83b0 : decide (x81_3 < (t159.length : Int)) = true := decide_eq_true c83
           clear c83
           by_cases c84 : 0 ≤ x81_3
           ·rw [if_pos c84] at H
            have c84b0 : decide (0 ≤ x81_3) = true := decide_eq_true c84
            clear c84
            by_cases c85 : x81_3 < (t159.length : Int)
            ·rw [if_pos c85] at H
             have c85b0 : decide (x81_3 < (t159.length : Int)) = true := decide_eq_true c85
             clear c85
             by_cases c86 : x14_3.length < 17592186044416
             ·rw [if_pos c86] at H
              have LMc86 := zK c86
              clear c86
              obtain ⟨y166, hy166⟩ : ∃ y_ : List Int, y_ = (x14_3 ++ [(rd_T47 t159 x81_3).f1]) := ⟨_, rfl⟩
              replace H : (ineq_Sum.l1 k3 x9_2 y166 t159 (t159.length : Int) (wrap64 (x81_3 + 1)) a2 t158 t159) = some (r1, r2, r3, r4) := by first | (rw [hy166]; with_reducible exact H) | (have H2_ := (Option.bind_some _ _).symm.trans H; rw [hy166]; with_reducible exact H2_) | (have H2_ := (Option.bind_some _ _).symm.trans H; with_reducible exact H2_) | with_reducible exact H | (rw [hy166]; exact H) | exact H
              have Ny166 := zK hy166
              clear hy166
              have H' := zK H
              clear H
              have p164 : 0 ≤ (x81_3 : Int) := of_decide_eq_true (by first | (with_reducible assumption) | assumption)
              have q164 : x81_3 < (t159.length : Int) := of_decide_eq_true (by first | (with_reducible assumption) | assumption)
              obtain ⟨ad164, e164, hx164_0, hx164_1⟩ := at_T47 (Kd.R_reads' HO_79.out).2.2 x81_3 p164 q164
              cases e164
              replace p164 := eq_true p164
              replace q164 := eq_true q164
              go_wp2_with (first | ((with_reducible refine gate_dst (N := 16) rfl ?_); (try (refine zG (by rfl) ?_; dsimp only)); refine box_event ?hg (N := 16) ?hd (cs := #[.int .i64 0, .int .i64 0]) (t := 47) ?hr ?_; (case hd => rfl); (case hg => rfl); (case hr => first | (go_simp; done) | (go_simp; rfl)); intro gb165 hg w87 hbox hb; replace HO_14 := zK (Kd.R_below (zr HO_14) hb); replace HO_79 := zK (Kd.R_below (Kd.R_elderB (zr HO_79) gb165 (Nat.le_of_eq hg.symm)) hb); replace HO_164001 := zK (Kd.R_below (Kd.R_elderB (zr HO_164001) gb165 (Nat.le_of_eq hg.symm)) hb); have BK165 := zK (hbox); have GW165 := zK ((by rw [hg]; exact (below_size (zo HB)) : w.heap.size ≤ gb165)); have GE165 := zK ((by rw [hg]; exact (below_size (zo HB)) : w.heap.size ≤ gb165)); replace HB := zK (below_step (zo HB) hb); have NB140_165 := zK ((by rw [hg]; exact Nat.ne_of_lt (blk_lt (g := gb140) (o := .cells #[.int .i64 a2] 2 (0, 0)) (zb BK140)) : gb140 ≠ gb165)); have NB165_140 := zK ((by rw [hg]; exact Nat.ne_of_gt (blk_lt (g := gb140) (o := .cells #[.int .i64 a2] 2 (0, 0)) (zb BK140)) : gb165 ≠ gb140)); replace BK140 := zK (blk_below (g := gb140) (o := .cells #[.int .i64 a2] 2 (0, 0)) (zb BK140) hb); have NB141_165 := zK ((by rw [hg]; exact Nat.ne_of_lt (blk_lt (g := gb141) (o := .cells #[.int .i64 x142000_2, .slice none 0 0, .bool x142002_2] 30 (0, 0)) (zb BK141)) : gb141 ≠ gb165)); have NB165_141 := zK ((by rw [hg]; exact Nat.ne_of_gt (blk_lt (g := gb141) (o := .cells #[.int .i64 x142000_2, .slice none 0 0, .bool x142002_2] 30 (0, 0)) (zb BK141)) : gb165 ≠ gb141)); replace BK141 := zK (blk_below (g := gb141) (o := .cells #[.int .i64 x142000_2, .slice none 0 0, .bool x142002_2] 30 (0, 0)) (zb BK141) hb); have NB163_165 := zK ((by rw [hg]; exact Nat.ne_of_lt (blk_lt (g := gb163) (o := .cells #[.int .i64 t158, .slice (some ad164) t159.length co82] 28 (0, 0)) (zb BK163)) : gb163 ≠ gb165)); have NB165_163 := zK ((by rw [hg]; exact Nat.ne_of_gt (blk_lt (g := gb163) (o := .cells #[.int .i64 t158, .slice (some ad164) t159.length co82] 28 (0, 0)) (zb BK163)) : gb165 ≠ gb163)); replace BK163 := zK (blk_below (g := gb163) (o := .cells #[.int .i64 t158, .slice (some ad164) t159.length co82] 28 (0, 0)) (zb BK163) hb); clear hb hbox hg; have hnb88 := NB165_140.out; have hnc88 := NB140_165.out; have hnb89 := NB165_141.out; have hnc89 := NB141_165.out; have hnb90 := NB165_163.out; have hnc90 := NB163_165.out; have hcz91_0 : w87.cell? ⟨gb165, 0, none⟩ = some (.int .i64 0) := (blk_cell BK165.out 0).trans rfl; have hcz91_1 : w87.cell? ⟨gb165, 1, none⟩ = some (.int .i64 0) := (blk_cell BK165.out 1).trans rfl; have hfz91_0 := blk_frozen BK165.out 0; have hfz91_1 := blk_frozen BK165.out 1) | ((with_reducible refine gate_builtin (b := .append) (xs := #[.tmp 85, .tmp 88]) rfl ?_); (try (refine zG (by rfl) ?_; dsimp only)); at_builtin; refine Kd.R_append (Kd.int .i64) (w0 := w) w.heap.size rfl (.tmp 85) (.tmp 88) 23 2 (.int .i64 0) 8 rfl Try.underlying23 info2 rfl (by decide) (by omega) u14 x14_3 ((rd_T47 t159 x81_3).f1) [.int .i64 ((rd_T47 t159 x81_3).f1)] (fun k_ => (w.heap.size ≤ k_) ∧ k_ ≠ gb140) (fun _ => False) rfl (by first | (go_simp; done) | (go_simp; rfl)) ?aP (fun _ hk => hk.elim) ?aF ?aO ?aB ?aS ?aL ?_; (case aP => exact rfl); (case aB => exact (zo HB)); (case aF => exact (fun k_ hk => ⟨(Nat.le_trans (below_size (zo HB)) hk), Kd.freshB (g := gb140) (o := .cells #[.int .i64 a2] 2 (0, 0)) (zb BK140) k_ hk⟩)); (case aO => exact (by (with_reducible repeat (first | apply Kd.R_alloc | apply Kd.R_drewN | apply Kd.R_drew)); exact Kd.R_mono (Kd.R_far (p := ⟨gb165, 1, none⟩) (Kd.R_far (p := ⟨gb165, 0, none⟩) (Kd.R_types HO_14.out BK165.out (by decide)) (fun _ hk => hk.2) (.int .i64 ((rd_T47 t159 x81_3).f0))) (fun _ hk => hk.2) (.int .i64 ((rd_T47 t159 x81_3).f1))) (fun _ hk => ⟨hk.1.1, hk.1.2⟩))); (case aS => exact (below_size (zo HB))); (case aL => have := LMc86.out; omega); intro v167 w92 ho hb hg hat; rw [← Ny166.out] at ho; replace HO_79 := zK (Kd.R_over' (by (with_reducible repeat (first | apply Kd.R_alloc | apply Kd.R_drewN | apply Kd.R_drew)); exact (Kd.R_mono (Kd.R_far (p := ⟨gb165, 1, none⟩) (Kd.R_far (p := ⟨gb165, 0, none⟩) (Kd.R_mono HO_79.out (fun k_ hk => (⟨hk, hk.2⟩ : _ ∧ k_ ≠ gb165))) (fun _ hk => hk.2) (.int .i64 ((rd_T47 t159 x81_3).f0))) (fun _ hk => hk.2) (.int .i64 ((rd_T47 t159 x81_3).f1))) (fun _ h_ => h_.1))) (Kd.R_typed (by (with_reducible repeat (first | apply Kd.R_alloc | apply Kd.R_drewN | apply Kd.R_drew)); exact (Kd.R_mono (Kd.R_far (p := ⟨gb165, 1, none⟩) (Kd.R_far (p := ⟨gb165, 0, none⟩) (Kd.R_types HO_14.out BK165.out (by decide)) (fun _ hk => hk.2) (.int .i64 ((rd_T47 t159 x81_3).f0))) (fun _ hk => hk.2) (.int .i64 ((rd_T47 t159 x81_3).f1))) (fun _ h_ => h_.1)))) (by decide) hg); replace HO_164001 := zK (Kd.R_over' (by (with_reducible repeat (first | apply Kd.R_alloc | apply Kd.R_drewN | apply Kd.R_drew)); exact (Kd.R_mono (Kd.R_far (p := ⟨gb165, 1, none⟩) (Kd.R_far (p := ⟨gb165, 0, none⟩) (Kd.R_mono HO_164001.out (fun k_ hk => (⟨hk, hk.2⟩ : _ ∧ k_ ≠ gb165))) (fun _ hk => hk.2) (.int .i64 ((rd_T47 t159 x81_3).f0))) (fun _ hk => hk.2) (.int .i64 ((rd_T47 t159 x81_3).f1))) (fun _ h_ => h_.1))) (Kd.R_typed (by (with_reducible repeat (first | apply Kd.R_alloc | apply Kd.R_drewN | apply Kd.R_drew)); exact (Kd.R_mono (Kd.R_far (p := ⟨gb165, 1, none⟩) (Kd.R_far (p := ⟨gb165, 0, none⟩) (Kd.R_types HO_14.out BK165.out (by decide)) (fun _ hk => hk.2) (.int .i64 ((rd_T47 t159 x81_3).f0))) (fun _ hk => hk.2) (.int .i64 ((rd_T47 t159 x81_3).f1))) (fun _ h_ => h_.1)))) (by decide) hg); replace BK140 := zK (blk_grown (g := gb140) (o := .cells #[.int .i64 a2] 2 (0, 0)) (zb BK140) hg (Kd.R_away HO_14.out (fun _ hk => hk.2))); replace BK141 := zK (blk_grown (g := gb141) (o := .cells #[.int .i64 x142000_2, .slice none 0 0, .bool x142002_2] 30 (0, 0)) (zb BK141) hg (Kd.R_ne HO_14.out BK141.out (by decide))); replace BK163 := zK (blk_grown (g := gb163) (o := .cells #[.int .i64 t158, .slice (some ad164) t159.length co82] 28 (0, 0)) (zb BK163) hg (Kd.R_ne HO_14.out BK163.out (by decide))); replace BK165 := zK (blk_grown (g := gb165) (o := .cells #[.int .i64 ((rd_T47 t159 x81_3).f0), .int .i64 ((rd_T47 t159 x81_3).f1)] 47 (0, 0)) (by refine zM ?_; refine blk_put (cs := #[.int .i64 ((rd_T47 t159 x81_3).f0), .int .i64 0]) ?_ 1 _ rfl; refine zM ?_; refine blk_put (cs := #[.int .i64 0, .int .i64 0]) ?_ 0 _ rfl; refine zM ?_; exact BK165.out) hg (Kd.R_ne HO_14.out BK165.out (by decide))); replace HB := zK (hb); have HO168 := zK (ho); clear HO_14 ho hb hg hat))
              go_roundg k3
              case measure => have := HJ3.out; have := HK2.out; have := HK3.out; omega
              case rel => exact ⟨(y166), (wrap64 (x81_3 + 1)), (by first | rfl | (simp; done) | (simp [*]; done)), H', ⟨by have := HJ3.out; have := HK2.out; have := HK3.out; omega⟩, ⟨zr HO168⟩, ⟨by (with_reducible repeat (first | apply Kd.R_alloc | apply Kd.R_drewN | apply Kd.R_drew)); exact Kd.R_mono HO_79.out (fun _ hk => hk.1)⟩, ⟨by (with_reducible repeat (first | apply Kd.R_alloc | apply Kd.R_drewN | apply Kd.R_drew)); exact Kd.R_mono HO_164001.out (fun _ hk => hk.1)⟩, ⟨zb BK140⟩, ⟨zb BK141⟩, ⟨zb BK163⟩, ⟨zo HB⟩⟩
             ·rw [if_neg c86] at H
              exact absurd H (by simp)
            ·rw [if_neg c85] at H
             exact absurd H (by simp)
           ·rw [if_neg c84] at H
            exact absurd H (by simp)
          ·rw [if_neg c83] at H
           have c83b0 : decide (x81_3 < (t159.length : Int)) = false := decide_eq_false c83
           clear c83
           replace H := Option.bind_eq_some_iff.mp H
           obtain ⟨t169, A930, H⟩ := H
           replace H : (if t169 = true then ((ineq_divided.f k3 t158 t159 a2).bind fun bt170 => (some (bt170.1, bt170.2, x9_2, 0))) else (some (0, ([] : List (S47)), false, 30))) = some (r1, r2, r3, r4) := H
           have A93 := zK A930
           clear A930
           by_cases c94 : t169 = true
           ·subst c94
            have H1 : ((ineq_divided.f k3 t158 t159 a2).bind fun bt170 => (some (bt170.1, bt170.2, x9_2, 0))) = some (r1, r2, r3, r4) := by rw [if_pos rfl] at H; exact H
            clear H
            have H := H1
            clear H1
            replace H := Option.bind_eq_some_iff.mp H
            obtain ⟨⟨t170, t171⟩, A950, H⟩ := H
            replace H : (some (t170, t171, x9_2, 0)) = some (r1, r2, r3, r4) := H
            have A95 := zK A950
            clear A950
            simp only [Option.some.injEq, Prod.mk.injEq] at H
            obtain ⟨rfl, rfl, rfl, rfl⟩ := H
            obtain ⟨Ao96, co96, eo96⟩ := Kd.R_slice HO_14.out
            subst eo96
            go_wp2_with (first | (go_at_call 29; (with_reducible refine (ineq_all.calls gb140 a2 _ _ x14_3 true _ ?side1 ?side2 ?side3 A93.out).mono ?_); (case side1 => exact (zb BK140)); (case side2 => repeat (first | exact (Kd.R_reads' HO_14.out).2.2 | (with_reducible refine cA ?_ _) | (with_reducible refine cN ?_ _) | (with_reducible refine cD ?_))); (case side3 => exact (Kd.R_reads' HO_14.out).2.1); rintro e w97 ⟨rfl, hb⟩; replace HO_14 := zK (Kd.R_below (zr HO_14) hb); replace HO_79 := zK (Kd.R_below (zr HO_79) hb); replace HO_164001 := zK (Kd.R_below (zr HO_164001) hb); replace BK140 := zK (blk_below (g := gb140) (o := .cells #[.int .i64 a2] 2 (0, 0)) (zb BK140) hb); replace BK141 := zK (blk_below (g := gb141) (o := .cells #[.int .i64 x142000_2, .slice none 0 0, .bool x142002_2] 30 (0, 0)) (zb BK141) hb); replace BK163 := zK (blk_below (g := gb163) (o := .cells #[.int .i64 t158, .slice Ao82 t159.length co82] 28 (0, 0)) (zb BK163) hb); replace HB := zK (below_step (zo HB) hb); (try clear hb); (try clear hb2); (try clear hk); (try clear hi); have hnb98 := NB163_140.out; have hnc98 := NB140_163.out; have hnb99 := NB163_141.out; have hnc99 := NB141_163.out; have hcz100_0 : w97.cell? ⟨gb163, 0, none⟩ = some (.int .i64 t158) := (blk_cell BK163.out 0).trans rfl; have hcz100_1 : w97.cell? ⟨gb163, 1, none⟩ = some (.slice Ao82 t159.length co82) := (blk_cell BK163.out 1).trans rfl; have hfz100_0 := blk_frozen BK163.out 0; have hfz100_1 := blk_frozen BK163.out 1; have hnb101 := NB140_141.out; have hnc101 := NB141_140.out; have hcz102_0 : w97.cell? ⟨gb140, 0, none⟩ = some (.int .i64 a2) := (blk_cell BK140.out 0).trans rfl; have hfz102_0 := blk_frozen BK140.out 0) | ((with_reducible refine zC (f := 31) rfl ?_); refine goesL_ (some 98) rfl rfl Try.func31 (by kernel_rfl) rfl #[.agg #[.int .i64 t158, .slice Ao82 t159.length co82], .int .i64 a2] rfl (by (try simp only [List.map_toArray, List.map_cons, List.map_nil]); first | done | rfl | (simp only [List.length_drop, List.length_take]; rfl)) ?_; (with_reducible refine (ineq_divided.calls k3 t158 _ _ t159 a2 t170 t171 _ ?side1 ?side2 A95.out).mono ?_); (case side1 => repeat (first | exact (Kd.R_reads' HO_164001.out).2.2 | (with_reducible refine cA ?_ _) | (with_reducible refine cN ?_ _) | (with_reducible refine cD ?_))); (case side2 => exact (Kd.R_reads' HO_164001.out).2.1); rintro e w103 ⟨v172, rfl, ho0, hb⟩; refine ⟨_, rfl, ?_⟩; replace HO_14 := zK (Kd.R_below (zr HO_14) hb); have HO173 := zK (Kd.R_lower (Kd.R_new' (Kd.R_new' (Kd.R_newM (M := fun k_ => (w.heap.size ≤ k_)) ho0 (below_size (zo HB)) (fun k_ h_ => h_)) (Kd.R_lt (zr HO_79))) (Kd.R_lt (zr HO_164001))) (below_size (zo HB))); replace HO_79 := zK (Kd.R_elder' (zr HO_79) (Kd.R_base ho0) hb); replace HO_164001 := zK (Kd.R_elder' (zr HO_164001) (Kd.R_base ho0) hb); replace BK140 := zK (blk_below (g := gb140) (o := .cells #[.int .i64 a2] 2 (0, 0)) (zb BK140) hb); replace BK141 := zK (blk_below (g := gb141) (o := .cells #[.int .i64 x142000_2, .slice none 0 0, .bool x142002_2] 30 (0, 0)) (zb BK141) hb); replace BK163 := zK (blk_below (g := gb163) (o := .cells #[.int .i64 t158, .slice Ao82 t159.length co82] 28 (0, 0)) (zb BK163) hb); replace HB := zK (below_step (zo HB) hb); (try clear hb); (try clear hb2); (try clear hk); (try clear hi); (try clear ho0); obtain ⟨Ao104, co104, eo104⟩ := Kd.R_slice HO173.out; subst eo104; have hcz105_0 : w103.cell? ⟨gb141, 0, none⟩ = some (.int .i64 x142000_2) := (blk_cell BK141.out 0).trans rfl; have hcz105_1 : w103.cell? ⟨gb141, 1, none⟩ = some (.slice none 0 0) := (blk_cell BK141.out 1).trans rfl; have hcz105_2 : w103.cell? ⟨gb141, 2, none⟩ = some (.bool x142002_2) := (blk_cell BK141.out 2).trans rfl; have hfz105_0 := blk_frozen BK141.out 0; have hfz105_1 := blk_frozen BK141.out 1; have hfz105_2 := blk_frozen BK141.out 2))
            refine bodyPost_ret (results_ct rfl _ _ gb141 30 #[.int .i64 t170, .slice Ao104 t171.length co104, .bool x9_2] (0, 0) _ rfl (by refine zM ?_; refine blk_put (cs := #[.int .i64 t170, .slice Ao104 t171.length co104, .bool x142002_2]) ?_ 2 _ rfl; refine zM ?_; refine blk_put (cs := #[.int .i64 t170, .slice none 0 0, .bool x142002_2]) ?_ 1 _ rfl; refine zM ?_; refine blk_put (cs := #[.int .i64 x142000_2, .slice none 0 0, .bool x142002_2]) ?_ 0 _ rfl; refine zM ?_; exact BK141.out) Try.underlying30 rfl (by kernel_rfl)) rfl ?_
            exact ⟨_, by first | rfl | (simp [errW_none, errW_some] <;> rfl) | (simp [*, errW_none, errW_some] <;> rfl), by (with_reducible repeat (first | apply Kd.R_alloc | apply Kd.R_drewN | apply Kd.R_drew)); exact Kd.R_mono (Kd.R_far (p := ⟨gb141, 2, none⟩) (Kd.R_far (p := ⟨gb141, 1, none⟩) (Kd.R_far (p := ⟨gb141, 0, none⟩) (Kd.R_types HO173.out BK141.out (by decide)) (fun _ hk => hk.2) (.int .i64 t170)) (fun _ hk => hk.2) (.slice Ao104 t171.length co104)) (fun _ hk => hk.2) (.bool x9_2)) (fun _ hk => hk.1.1.1.1), zo HB⟩
           ·replace c94 := Bool.eq_false_iff.mpr c94
            subst c94
            have H1 : (some (0, ([] : List (S47)), false, 30)) = some (r1, r2, r3, r4) := by rw [if_neg (show ¬ (false = true) by decide)] at H; exact H
            clear H
            have H := H1
            clear H1
            simp only [Option.some.injEq, Prod.mk.injEq] at H
            obtain ⟨rfl, rfl, rfl, rfl⟩ := H
            obtain ⟨Ao106, co106, eo106⟩ := Kd.R_slice HO_14.out
            subst eo106
            go_wp2_with (first | (go_at_call 29; (with_reducible refine (ineq_all.calls gb140 a2 _ _ x14_3 false _ ?side1 ?side2 ?side3 A93.out).mono ?_); (case side1 => exact (zb BK140)); (case side2 => repeat (first | exact (Kd.R_reads' HO_14.out).2.2 | (with_reducible refine cA ?_ _) | (with_reducible refine cN ?_ _) | (with_reducible refine cD ?_))); (case side3 => exact (Kd.R_reads' HO_14.out).2.1); rintro e w107 ⟨rfl, hb⟩; replace HO_14 := zK (Kd.R_below (zr HO_14) hb); replace HO_79 := zK (Kd.R_below (zr HO_79) hb); replace HO_164001 := zK (Kd.R_below (zr HO_164001) hb); replace BK140 := zK (blk_below (g := gb140) (o := .cells #[.int .i64 a2] 2 (0, 0)) (zb BK140) hb); replace BK141 := zK (blk_below (g := gb141) (o := .cells #[.int .i64 x142000_2, .slice none 0 0, .bool x142002_2] 30 (0, 0)) (zb BK141) hb); replace BK163 := zK (blk_below (g := gb163) (o := .cells #[.int .i64 t158, .slice Ao82 t159.length co82] 28 (0, 0)) (zb BK163) hb); replace HB := zK (below_step (zo HB) hb); (try clear hb); (try clear hb2); (try clear hk); (try clear hi); have hnb108 := NB141_140.out; have hnc108 := NB140_141.out; have hnb109 := NB141_163.out; have hnc109 := NB163_141.out; have hcz110_0 : w107.cell? ⟨gb141, 0, none⟩ = some (.int .i64 x142000_2) := (blk_cell BK141.out 0).trans rfl; have hcz110_1 : w107.cell? ⟨gb141, 1, none⟩ = some (.slice none 0 0) := (blk_cell BK141.out 1).trans rfl; have hcz110_2 : w107.cell? ⟨gb141, 2, none⟩ = some (.bool x142002_2) := (blk_cell BK141.out 2).trans rfl; have hfz110_0 := blk_frozen BK141.out 0; have hfz110_1 := blk_frozen BK141.out 1; have hfz110_2 := blk_frozen BK141.out 2))
            refine bodyPost_ret (results_ct rfl _ _ gb141 30 #[.int .i64 0, .slice none 0 0, .bool false] (0, 0) _ rfl (by refine zM ?_; refine blk_put (cs := #[.int .i64 0, .slice none 0 0, .bool x142002_2]) ?_ 2 _ rfl; refine zM ?_; refine blk_put (cs := #[.int .i64 0, .slice none 0 0, .bool x142002_2]) ?_ 1 _ rfl; refine zM ?_; refine blk_put (cs := #[.int .i64 x142000_2, .slice none 0 0, .bool x142002_2]) ?_ 0 _ rfl; refine zM ?_; exact BK141.out) Try.underlying30 rfl (by kernel_rfl)) rfl ?_
            exact ⟨_, by first | rfl | (simp [errW_none, errW_some] <;> rfl) | (simp [*, errW_none, errW_some] <;> rfl), by first | exact Kd.R_nil _ _ _ _ _ | exact Kd.N_nil _ _ _ _ _ | exact Kd.V_nil _ _ _ _ _ | exact Kd.Q_nil _ _ _ _ _ | exact Kd.S_nil _ _ _ _ _, zo HB⟩
       ·rw [if_neg c75] at H
        have c75b0 : (t162 == 0) = false := beq_eq_false_iff_ne.mpr c75
        have c75b1 : (t162 != 0) = true := bne_iff_ne.mpr c75
        simp only [Option.some.injEq, Prod.mk.injEq] at H
        obtain ⟨rfl, rfl, rfl, rfl⟩ := H
        obtain ⟨Ao111, co111, eo111⟩ := Kd.N_slice HO_8.out
        subst eo111
        go_wp2_with (first | ((with_reducible refine zC (f := 28) rfl ?_); refine goesL_ (some 71) rfl rfl Try.func28 (by kernel_rfl) rfl #[.slice Ao111 x8_2.length co111, .slice A1 l1.length c1] rfl (by (try simp only [List.map_toArray, List.map_cons, List.map_nil]); first | done | rfl | (simp only [List.length_drop, List.length_take]; rfl)) ?_; (with_reducible refine (lin_Sum.calls k2 (fun k_ => ((P0_ k_ ∨ w.heap.size ≤ k_) ∧ (k_ ≠ gb140 ∧ k_ ≠ gb141))) _ _ x8_2 _ _ l1 t158 t159 t162 _ ?side1 ?side2 ?side3 A74.out).mono ?_); (case side1 => exact Kd.N_V (HO_8.out)); (case side2 => repeat (first | exact (Kd.C_below HR1.out HB.out) | (with_reducible refine cA ?_ _) | (with_reducible refine cN ?_ _) | (with_reducible refine cD ?_))); (case side3 => exact HC1.out); rintro e w112 ⟨v160, rfl, ho0, hb⟩; refine ⟨_, rfl, ?_⟩; replace HO_8 := zK (Kd.N_elder' (zn HO_8) (Kd.R_base ho0) hb); replace HO_34 := zK (Kd.V_elder' (zv HO_34) (Kd.R_base ho0) hb); have HO161 := zK (Kd.R_lower (Kd.R_newM (M := fun k_ => (w.heap.size ≤ k_)) (Kd.R_mono (ok' := fun k_ => True) ho0 (fun _ hk_ => trivial)) (below_size (zo HB)) (fun k_ h_ => h_)) (below_size (zo HB))); replace BK140 := zK (blk_below (g := gb140) (o := .cells #[.int .i64 a2] 2 (0, 0)) (zb BK140) hb); replace BK141 := zK (blk_below (g := gb141) (o := .cells #[.int .i64 x142000_2, .slice none 0 0, .bool x142002_2] 30 (0, 0)) (zb BK141) hb); replace HB := zK (below_step (zo HB) hb); (try clear hb); (try clear hb2); (try clear hk); (try clear hi); (try clear ho0)) | ((with_reducible refine gate_dst (N := 12) rfl ?_); (try (refine zG (by rfl) ?_; dsimp only)); refine box_event ?hg (N := 12) ?hd (cs := #[.int .i64 0, .slice none 0 0]) (t := 28) ?hr ?_; (case hd => rfl); (case hg => rfl); (case hr => first | (go_simp; done) | (go_simp; rfl)); intro gb163 hg w113 hbox hb; replace HO_8 := zK (Kd.N_below (Kd.N_elderB (zn HO_8) gb163 (Nat.le_of_eq hg.symm)) hb); replace HO_34 := zK (Kd.V_below (Kd.V_elderB (zv HO_34) gb163 (Nat.le_of_eq hg.symm)) hb); replace HO161 := zK (Kd.R_below (zr HO161) hb); have BK163 := zK (hbox); have GW163 := zK ((by rw [hg]; exact (below_size (zo HB)) : w.heap.size ≤ gb163)); have GE163 := zK ((by rw [hg]; exact (below_size (zo HB)) : w.heap.size ≤ gb163)); replace HB := zK (below_step (zo HB) hb); have NB140_163 := zK ((by rw [hg]; exact Nat.ne_of_lt (blk_lt (g := gb140) (o := .cells #[.int .i64 a2] 2 (0, 0)) (zb BK140)) : gb140 ≠ gb163)); have NB163_140 := zK ((by rw [hg]; exact Nat.ne_of_gt (blk_lt (g := gb140) (o := .cells #[.int .i64 a2] 2 (0, 0)) (zb BK140)) : gb163 ≠ gb140)); replace BK140 := zK (blk_below (g := gb140) (o := .cells #[.int .i64 a2] 2 (0, 0)) (zb BK140) hb); have NB141_163 := zK ((by rw [hg]; exact Nat.ne_of_lt (blk_lt (g := gb141) (o := .cells #[.int .i64 x142000_2, .slice none 0 0, .bool x142002_2] 30 (0, 0)) (zb BK141)) : gb141 ≠ gb163)); have NB163_141 := zK ((by rw [hg]; exact Nat.ne_of_gt (blk_lt (g := gb141) (o := .cells #[.int .i64 x142000_2, .slice none 0 0, .bool x142002_2] 30 (0, 0)) (zb BK141)) : gb163 ≠ gb141)); replace BK141 := zK (blk_below (g := gb141) (o := .cells #[.int .i64 x142000_2, .slice none 0 0, .bool x142002_2] 30 (0, 0)) (zb BK141) hb); clear hb hbox hg; have hnb114 := NB163_140.out; have hnc114 := NB140_163.out; have hnb115 := NB163_141.out; have hnc115 := NB141_163.out; have hcz116_0 : w113.cell? ⟨gb163, 0, none⟩ = some (.int .i64 0) := (blk_cell BK163.out 0).trans rfl; have hcz116_1 : w113.cell? ⟨gb163, 1, none⟩ = some (.slice none 0 0) := (blk_cell BK163.out 1).trans rfl; have hfz116_0 := blk_frozen BK163.out 0; have hfz116_1 := blk_frozen BK163.out 1; obtain ⟨Ao117, co117, eo117⟩ := Kd.R_slice HO161.out; subst eo117; have hnb118 := NB141_140.out; have hnc118 := NB140_141.out; have hcz119_0 : w113.cell? ⟨gb141, 0, none⟩ = some (.int .i64 x142000_2) := (blk_cell BK141.out 0).trans rfl; have hcz119_1 : w113.cell? ⟨gb141, 1, none⟩ = some (.slice none 0 0) := (blk_cell BK141.out 1).trans rfl; have hcz119_2 : w113.cell? ⟨gb141, 2, none⟩ = some (.bool x142002_2) := (blk_cell BK141.out 2).trans rfl; have hfz119_0 := blk_frozen BK141.out 0; have hfz119_1 := blk_frozen BK141.out 1; have hfz119_2 := blk_frozen BK141.out 2))
        refine bodyPost_ret (results_ct rfl _ _ gb141 30 #[.int .i64 0, .slice none 0 0, .bool false] (0, 0) _ rfl (by refine zM ?_; refine blk_put (cs := #[.int .i64 0, .slice none 0 0, .bool x142002_2]) ?_ 2 _ rfl; refine zM ?_; refine blk_put (cs := #[.int .i64 0, .slice none 0 0, .bool x142002_2]) ?_ 1 _ rfl; refine zM ?_; refine blk_put (cs := #[.int .i64 x142000_2, .slice none 0 0, .bool x142002_2]) ?_ 0 _ rfl; refine zM ?_; refine blk_far ?_ NB141_163.out _; refine zM ?_; refine blk_far ?_ NB141_163.out _; refine zM ?_; exact BK141.out) Try.underlying30 rfl (by kernel_rfl)) rfl ?_
        exact ⟨_, by first | rfl | (simp [errW_none, errW_some] <;> rfl) | (simp [*, errW_none, errW_some] <;> rfl), by first | exact Kd.R_nil _ _ _ _ _ | exact Kd.N_nil _ _ _ _ _ | exact Kd.V_nil _ _ _ _ _ | exact Kd.Q_nil _ _ _ _ _ | exact Kd.S_nil _ _ _ _ _, zo HB⟩

end Go.Proofs.Ytmedciidghmkkaa.PIneqTurns
