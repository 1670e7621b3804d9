/- What the call of each function that the law reaches comes to: it answers as the plain function of the same name does, wherever that one answers; and the law itself out of its plain form. Written by a program of this session (an extended copy of the printer); no condition but what stands in each theorem. -/
import Derived.Test.YtmedciidghmkkaaPIneqHoldsx0
import Derived.Test.YtmedciidghmkkaaPIneqHoldsx1
import Derived.Test.YtmedciidghmkkaaPIneqHoldsx6
import Derived.Test.YtmedciidghmkkaaPIneqHoldsx7
import Derived.Test.YtmedciidghmkkaaPIneqHoldsx10
namespace Go.Proofs.Ytmedciidghmkkaa.PIneqHolds
open Go.RowKit Go.Proofs.YtmedciidghmkkaaW.PrintWords Go.Proofs.YtmedciidghmkkaaW.PrintLast Go.Proofs.YtmedciidghmkkaaW.PrintMore
open Go.Proofs.YtmedciidghmkkaaW.PrintWords renaming blk_drewN → zN, blk_drew → zD, blk_alloc → zA, below_alloc → yA, pw_below_drewN → yN, below_drew1 → yD, below_set → yS, gate_callee → zC
open Go.Proofs.YtmedciidghmkkaaW.PrintWords.Kd renaming V_alloc → vA, V_drewN → vN, V_drew → vD, N_alloc → nA, N_drewN → nN, N_drew → nD, C_alloc → cA, C_drewN → cN, C_drew → cD, V_mono → vM
open Go.Proofs.YtmedciidghmkkaaW.PrintWords.Aside0 renaming mk → zK
attribute [local go_sem] max2_int min2_int max_two min_two max_three min_three max_four min_four   -- for this text's walks alone
set_option linter.unusedVariables false
set_option linter.unusedSimpArgs false

/-! ### sequiturlaw28_IneqHolds: function 5 -/
def sequiturlaw28_IneqHolds.j0 : Nat → Bool → Int → Bool → Int → Int → Int → List (S47) → Bool → Option (Bool)
 | 0, _, _, _, _, _, _, _, _ => none
 | k + 1, x5, x6, x7, x8, x9, x321000, x321001, x321002 => if (x5 == x7) = true then (if x6 = x8 then ((ineq_Right.f k x321000 x321001 x321002).bind fun t331 => (if t331 = x9 then ((ineq_Absurd.f k x321000 x321001 x321002).bind fun t332 => ((sequiturref28_Absurd.f x321000 x321001 x321002).bind fun t333 => (if (t332 == t333) = true then ((ineq_Void.f k x321000 x321001 x321002).bind fun t334 => ((sequiturref28_Void.f x321000 x321001 x321002).bind fun t335 => (if (t334 == t335) = true then ((sequiturlaw28_goes.f k).bind fun t336 => (some t336)) else (none)))) else (none)))) else (none))) else (none)) else (none)
def sequiturlaw28_IneqHolds.f (k : Nat) (a0_0 : Int) (l0_1 : List (S47)) (a0_2 : Bool) (l1 : List Int) : Option (Bool) := (sequiturlaw28_Short.f k 1 (([(⟨(⟨a0_0, l0_1⟩ : S28), a0_2⟩ : S30)] : List (S30)))).bind fun t324 => (if t324 = true then ((ineq_Holds.f k a0_0 l0_1 a0_2 l1).bind fun bt326 => ((sequiturref28_Holds.f k a0_0 l0_1 a0_2 l1).bind fun bt328 => ((sequiturref28_Form.f k a0_0 l0_1).bind fun t330 => (if t330 = true then (sequiturlaw28_IneqHolds.j0 k bt326.1 bt326.2 bt328.1 bt328.2 0 a0_0 l0_1 a0_2) else (sequiturlaw28_IneqHolds.j0 k bt326.1 bt326.2 bt328.1 bt328.2 1 a0_0 l0_1 a0_2))))) else ((sequiturlaw28_goes.f k).bind fun t325 => (some t325)))
theorem sequiturlaw28_IneqHolds.mono_l : ∀ k, (∀ y0 y1 y2 y3 y4 y5 y6 y7, LeO (sequiturlaw28_IneqHolds.j0 k y0 y1 y2 y3 y4 y5 y6 y7) (sequiturlaw28_IneqHolds.j0 (k + 1) y0 y1 y2 y3 y4 y5 y6 y7))
 | 0 => fun _ _ _ _ _ _ _ _ r h => by simp [sequiturlaw28_IneqHolds.j0] at h
 | k + 1 => by
  have ih0 := sequiturlaw28_IneqHolds.mono_l k
  ·intro y0 y1 y2 y3 y4 y5 y6 y7
   unfold sequiturlaw28_IneqHolds.j0
   repeat' first
   | (with_reducible exact ih0 _ _ _ _ _ _ _ _)
   | (with_reducible exact ineq_Absurd.mono _ _ _ _)
   | (with_reducible exact ineq_Holds.mono _ _ _ _ _)
   | (with_reducible exact ineq_Right.mono _ _ _ _)
   | (with_reducible exact ineq_Void.mono _ _ _ _)
   | (with_reducible exact sequiturlaw28_Short.mono _ _ _)
   | (with_reducible exact sequiturlaw28_goes.mono _)
   | (with_reducible exact sequiturref28_Form.mono _ _ _)
   | (with_reducible exact sequiturref28_Holds.mono _ _ _ _ _)
   | (with_reducible exact LeO.refl _)
   | (with_reducible exact LeO.none _)
   | (with_reducible refine LeO.ite ?_ ?_)
   | (with_reducible refine LeO.bind ?_ (fun _ => ?_))
   | exact ih0 _ _ _ _ _ _ _ _
   | exact ineq_Absurd.mono _ _ _ _
   | exact ineq_Holds.mono _ _ _ _ _
   | exact ineq_Right.mono _ _ _ _
   | exact ineq_Void.mono _ _ _ _
   | exact sequiturlaw28_Short.mono _ _ _
   | exact sequiturlaw28_goes.mono _
   | exact sequiturref28_Form.mono _ _ _
   | exact sequiturref28_Holds.mono _ _ _ _ _
   | exact LeO.none _
   | refine LeO.ite ?_ ?_
   | refine LeO.bind ?_ (fun _ => ?_)
theorem sequiturlaw28_IneqHolds.mono : ∀ a0 a1 a2 a3 k, LeO (sequiturlaw28_IneqHolds.f k a0 a1 a2 a3) (sequiturlaw28_IneqHolds.f (k + 1) a0 a1 a2 a3) := by
 intro a0 a1 a2 a3 k
 have ih0 := sequiturlaw28_IneqHolds.mono_l k
 unfold sequiturlaw28_IneqHolds.f
 repeat' first
   | (with_reducible exact ih0 _ _ _ _ _ _ _ _)
   | (with_reducible exact ineq_Absurd.mono _ _ _ _)
   | (with_reducible exact ineq_Holds.mono _ _ _ _ _)
   | (with_reducible exact ineq_Right.mono _ _ _ _)
   | (with_reducible exact ineq_Void.mono _ _ _ _)
   | (with_reducible exact sequiturlaw28_Short.mono _ _ _)
   | (with_reducible exact sequiturlaw28_goes.mono _)
   | (with_reducible exact sequiturref28_Form.mono _ _ _)
   | (with_reducible exact sequiturref28_Holds.mono _ _ _ _ _)
   | (with_reducible exact LeO.refl _)
   | (with_reducible exact LeO.none _)
   | (with_reducible refine LeO.ite ?_ ?_)
   | (with_reducible refine LeO.bind ?_ (fun _ => ?_))
   | exact ih0 _ _ _ _ _ _ _ _
   | exact ineq_Absurd.mono _ _ _ _
   | exact ineq_Holds.mono _ _ _ _ _
   | exact ineq_Right.mono _ _ _ _
   | exact ineq_Void.mono _ _ _ _
   | exact sequiturlaw28_Short.mono _ _ _
   | exact sequiturlaw28_goes.mono _
   | exact sequiturref28_Form.mono _ _ _
   | exact sequiturref28_Holds.mono _ _ _ _ _
   | exact LeO.none _
   | refine LeO.ite ?_ ?_
   | refine LeO.bind ?_ (fun _ => ?_)
def sequiturlaw28_IneqHolds.T8 : Bool × List (List Nat × List Nat) := (true, [([], []), ([], []), ([0, 1], [0, 1]), ([2], [2]), ([3], [3]), ([3], [3]), ([4, 5, 3], [3, 4, 5]), ([3, 6], [3, 6]), ([7, 3], [7]), ([8], [8]), ([9, 8, 8], [8, 9]), ([8], [8]), ([10, 11, 8], [8, 10, 11]), ([8, 12], [8, 12]), ([13, 10], [13]), ([14], [14]), ([15, 14, 14], [14, 15]), ([14], [14]), ([17, 16, 14], [14, 17]), ([16, 18, 14], [14, 16, 18]), ([14, 19], [14, 19]), ([20, 18], [20]), ([21], [21]), ([22, 21, 21], [21, 22]), ([21], [21]), ([24, 23, 21], [21, 24]), ([23, 25, 21], [21, 23, 25]), ([21, 26], [21, 26]), ([27, 25], [27]), ([28, 28], [28]), ([28, 29], [28, 29]), ([30, 29, 0, 1, 2, 3, 4, 5, 6, 7, 8, 9, 10, 11, 12, 13, 14, 15, 16, 17, 18, 19, 20, 21, 22, 23, 24, 25, 26, 27, 28, 29, 30], [30])])
def sequiturlaw28_IneqHolds.B8 : List Nat := [0, 0, 3, 7, 15, 15, 63, 127, 255, 511, 1023, 511, 4095, 8191, 16383, 32767, 65535, 32767, 262143, 524287, 1048575, 2097151, 4194303, 8388607, 4194303, 33554431, 67108863, 134217727, 268435455, 536870911, 1073741823, 2147483647]
theorem sequiturlaw28_IneqHolds.tab8 : rtab .any (opsOf Try.f5 8) = sequiturlaw28_IneqHolds.T8 := by kernel_rfl
theorem sequiturlaw28_IneqHolds.bits8 : waitsOk sequiturlaw28_IneqHolds.T8.2 sequiturlaw28_IneqHolds.B8 = true := by kernel_rfl
set_option maxHeartbeats 8000000 in
set_option maxRecDepth 100000 in
theorem sequiturlaw28_IneqHolds.calls (k : Nat) (a0_0 : Int) (P0_1_ : Nat → Prop) (A0_1 : Option Addr) (c0_1 : Nat) (l0_1 : List (S47)) (a0_2 : Bool) (A1 : Option Addr) (c1 : Nat) (l1 : List Int) (r : Bool) (w : World) (hs0_1 : Kd.V k47 47 w w.heap.size (fun k_ => P0_1_ k_) (.slice A0_1 l0_1.length c0_1) l0_1) (hr1 : Kd.C (Kd.int .i64) w A1 l1.length l1) (hc1 : l1.length ≤ c1) (h : sequiturlaw28_IneqHolds.f k a0_0 l0_1 a0_2 l1 = some r) :
  Calls Try.prog 5 #[.agg #[.int .i64 a0_0, .slice A0_1 l0_1.length c0_1, .bool a0_2], .slice A1 l1.length c1] w fun e w' => e = .returned (.bool r) ∧ Below w.heap.size w w' := by
 have hu30 := Try.underlying30
 have hu28 := Try.underlying28
 have HO0_1 := zK (show Kd.V k47 47 w w.heap.size (fun k_ => (P0_1_ k_ ∨ w.heap.size ≤ k_)) (.slice A0_1 l0_1.length c0_1) l0_1 from vM hs0_1 (fun k_ hk => .inl hk))
 have HR1 := zK hr1
 have HC1 := zK hc1
 clear hr1 hc1
 have HB := zK (Below.refl w.heap.size w)
 have H : ((sequiturlaw28_Short.f k 1 (([(⟨(⟨a0_0, l0_1⟩ : S28), a0_2⟩ : S30)] : List (S30)))).bind fun t324 => (if t324 = true then ((ineq_Holds.f k a0_0 l0_1 a0_2 l1).bind fun bt326 => ((sequiturref28_Holds.f k a0_0 l0_1 a0_2 l1).bind fun bt328 => ((sequiturref28_Form.f k a0_0 l0_1).bind fun t330 => (if t330 = true then (sequiturlaw28_IneqHolds.j0 k bt326.1 bt326.2 bt328.1 bt328.2 0 a0_0 l0_1 a0_2) else (sequiturlaw28_IneqHolds.j0 k bt326.1 bt326.2 bt328.1 bt328.2 1 a0_0 l0_1 a0_2))))) else ((sequiturlaw28_goes.f k).bind fun t325 => (some t325)))) = some r := h
 clear h
 obtain ⟨y321, hy321⟩ : ∃ y_ : List (S30), y_ = (([(⟨(⟨a0_0, l0_1⟩ : S28), a0_2⟩ : S30)] : List (S30))) := ⟨_, rfl⟩
 replace H : ((sequiturlaw28_Short.f k 1 y321).bind fun t324 => (if t324 = true then ((ineq_Holds.f k a0_0 l0_1 a0_2 l1).bind fun bt326 => ((sequiturref28_Holds.f k a0_0 l0_1 a0_2 l1).bind fun bt328 => ((sequiturref28_Form.f k a0_0 l0_1).bind fun t330 => (if t330 = true then (sequiturlaw28_IneqHolds.j0 k bt326.1 bt326.2 bt328.1 bt328.2 0 a0_0 l0_1 a0_2) else (sequiturlaw28_IneqHolds.j0 k bt326.1 bt326.2 bt328.1 bt328.2 1 a0_0 l0_1 a0_2))))) else ((sequiturlaw28_goes.f k).bind fun t325 => (some t325)))) = some r := by first | (rw [hy321]; with_reducible exact H) | (have H2_ := (Option.bind_some _ _).symm.trans H; rw [hy321]; with_reducible exact H2_) | (have H2_ := (Option.bind_some _ _).symm.trans H; with_reducible exact H2_) | with_reducible exact H | (rw [hy321]; exact H) | exact H
 have Ny321 := zK hy321
 clear hy321
 replace H := Option.bind_eq_some_iff.mp H
 obtain ⟨t324, A30, H⟩ := H
 replace H : (if t324 = true then ((ineq_Holds.f k a0_0 l0_1 a0_2 l1).bind fun bt326 => ((sequiturref28_Holds.f k a0_0 l0_1 a0_2 l1).bind fun bt328 => ((sequiturref28_Form.f k a0_0 l0_1).bind fun t330 => (if t330 = true then (sequiturlaw28_IneqHolds.j0 k bt326.1 bt326.2 bt328.1 bt328.2 0 a0_0 l0_1 a0_2) else (sequiturlaw28_IneqHolds.j0 k bt326.1 bt326.2 bt328.1 bt328.2 1 a0_0 l0_1 a0_2))))) else ((sequiturlaw28_goes.f k).bind fun t325 => (some t325))) = some r := H
 have A3 := zK A30
 clear A30
 by_cases c4 : t324 = true
 ·subst c4
  have H1 : ((ineq_Holds.f k a0_0 l0_1 a0_2 l1).bind fun bt326 => ((sequiturref28_Holds.f k a0_0 l0_1 a0_2 l1).bind fun bt328 => ((sequiturref28_Form.f k a0_0 l0_1).bind fun t330 => (if t330 = true then (sequiturlaw28_IneqHolds.j0 k bt326.1 bt326.2 bt328.1 bt328.2 0 a0_0 l0_1 a0_2) else (sequiturlaw28_IneqHolds.j0 k bt326.1 bt326.2 bt328.1 bt328.2 1 a0_0 l0_1 a0_2))))) = some r := by rw [if_pos rfl] at H; exact H
  clear H
  have H := H1
  clear H1
  replace H := Option.bind_eq_some_iff.mp H
  obtain ⟨⟨t326, t327⟩, A50, H⟩ := H
  replace H : ((sequiturref28_Holds.f k a0_0 l0_1 a0_2 l1).bind fun bt328 => ((sequiturref28_Form.f k a0_0 l0_1).bind fun t330 => (if t330 = true then (sequiturlaw28_IneqHolds.j0 k t326 t327 bt328.1 bt328.2 0 a0_0 l0_1 a0_2) else (sequiturlaw28_IneqHolds.j0 k t326 t327 bt328.1 bt328.2 1 a0_0 l0_1 a0_2)))) = some r := H
  have A5 := zK A50
  clear A50
  replace H := Option.bind_eq_some_iff.mp H
  obtain ⟨⟨t328, t329⟩, A60, H⟩ := H
  replace H : ((sequiturref28_Form.f k a0_0 l0_1).bind fun t330 => (if t330 = true then (sequiturlaw28_IneqHolds.j0 k t326 t327 t328 t329 0 a0_0 l0_1 a0_2) else (sequiturlaw28_IneqHolds.j0 k t326 t327 t328 t329 1 a0_0 l0_1 a0_2))) = some r := H
  have A6 := zK A60
  clear A60
  replace H := Option.bind_eq_some_iff.mp H
  obtain ⟨t330, A70, H⟩ := H
  replace H : (if t330 = true then (sequiturlaw28_IneqHolds.j0 k t326 t327 t328 t329 0 a0_0 l0_1 a0_2) else (sequiturlaw28_IneqHolds.j0 k t326 t327 t328 t329 1 a0_0 l0_1 a0_2)) = some r := H
  have A7 := zK A70
  clear A70
  have HC8 := zK H
  clear H
  go_enter Try.func5, Try.ntmps5
  go_upto_if 30 with (first | ((with_reducible refine gate_dst (N := 2) rfl ?_); refine box_event ?hg (N := 2) ?hd (cs := #[.int .i64 a0_0, .slice A0_1 l0_1.length c0_1, .bool a0_2]) (t := 30) ?hr ?_; (case hd => rfl); (case hg => rfl); (case hr => first | (go_simp; done) | (go_simp; rfl)); intro gb320 hg w9 hbox hb; have n0_ := zK (Kd.V_below (Kd.V_elderB (by (with_reducible repeat (first | apply vA | apply vN | apply vD)); exact HO0_1.out) gb320 (Nat.le_of_eq hg.symm)) hb); have n1_ := zK (below_step (by repeat (first | (with_reducible first | exact HB.out | apply yA | apply yN | apply yD) | exact HB.out)) hb); have n2_ := zK (hbox); have n3_ := zK ((by rw [hg]; exact (below_size (by repeat (first | (with_reducible first | exact HB.out | apply yA | apply yN | apply yD) | exact HB.out))) : w.heap.size ≤ gb320)); have n4_ := zK ((by rw [hg]; exact (below_size (by repeat (first | (with_reducible first | exact HB.out | apply yA | apply yN | apply yD) | exact HB.out))) : w.heap.size ≤ gb320)); clear HO0_1; clear HB; have HO0_1 := n0_; have HB := n1_; have BK320 := n2_; have GW320 := n3_; have GE320 := n4_; clear n0_ n1_ n2_ n3_ n4_; clear hb hbox hg; have hcz10_0 : w9.cell? ⟨gb320, 0, none⟩ = some (.int .i64 a0_0) := (blk_cell BK320.out 0).trans rfl; have hcz10_1 : w9.cell? ⟨gb320, 1, none⟩ = some (.slice A0_1 l0_1.length c0_1) := (blk_cell BK320.out 1).trans rfl; have hcz10_2 : w9.cell? ⟨gb320, 2, none⟩ = some (.bool a0_2) := (blk_cell BK320.out 2).trans rfl; have hfz10_0 := blk_frozen BK320.out 0; have hfz10_1 := blk_frozen BK320.out 1; have hfz10_2 := blk_frozen BK320.out 2) | ((with_reducible refine gate_dst (N := 11) rfl ?_); refine Kd.N_lit k30 _ 30 ?hg (N' := 11) ?hd (xs := ([(⟨(⟨a0_0, l0_1⟩ : S28), a0_2⟩ : S30)] : List (S30))) (inner := [.int .i64 a0_0, .slice A0_1 l0_1.length c0_1, .bool a0_2]) (ok := (fun k_ => (P0_1_ k_ ∨ w.heap.size ≤ k_) ∧ k_ ≠ gb320)) (okp := (fun k_ => (P0_1_ k_ ∨ w.heap.size ≤ k_) ∧ k_ ≠ gb320)) ?hr ?hp (fun _ hk => hk) ((show ∀ k_, w9.heap.size ≤ k_ → (fun k_ => (P0_1_ k_ ∨ w.heap.size ≤ k_) ∧ k_ ≠ gb320) k_ from fun k_ hk => ⟨(.inr (Nat.le_trans (below_size (by repeat (first | (with_reducible first | exact HB.out | apply yA | apply yN | apply yD | refine yS ?_ GE320.out) | exact HB.out))) hk)), Kd.freshB (g := gb320) (o := .cells #[.int .i64 a0_0, .slice A0_1 l0_1.length c0_1, .bool a0_2] 30 (0, 0)) (by (with_reducible repeat (first | refine zN ?_ _ | refine zD ?_ | refine zA ?_ _)); exact BK320.out) k_ hk⟩) _ (Nat.le_refl _)) (Below.refl _ _) (Nat.le_refl _) (by simp) ?_; (case hd => rfl); (case hg => rfl); (case hr => first | (go_simp; done) | (go_simp; rfl)); (case hp => exact (Reps.c3 (show Kd.FK k30 _ _ (⟨(⟨a0_0, l0_1⟩ : S28), a0_2⟩ : S30) [.int .i64 a0_0, .slice A0_1 l0_1.length c0_1, .bool a0_2] from (k30_mkF _ _ (⟨(⟨a0_0, l0_1⟩ : S28), a0_2⟩ : S30) (Kd.V_reads' (vM (ok' := (fun k_ => (P0_1_ k_ ∨ w.heap.size ≤ k_) ∧ k_ ≠ gb320)) (HO0_1.out) (fun k_ hk => ⟨hk.1, hk.2⟩))).2.1 (Kd.V_F (vM (ok' := (fun k_ => (P0_1_ k_ ∨ w.heap.size ≤ k_) ∧ k_ ≠ gb320)) (HO0_1.out) (fun k_ hk => ⟨hk.1, hk.2⟩))))) (Reps.none _ _))); intro v322 w11 ho12 hb hg_ hnew_; clear hg_ hnew_; (first | rw [← Ny321.out] at ho12 | (simp only [Int.reduceToNat] at ho12; rw [← Ny321.out] at ho12)); have n0_ := zK (Kd.V_elder' (by (with_reducible repeat (first | apply vA | apply vN | apply vD)); exact HO0_1.out) (Kd.N_base ho12) hb); have n1_ := zK (Kd.N_lower ho12 (below_size (by repeat (first | (with_reducible first | exact HB.out | apply yA | apply yN | apply yD | refine yS ?_ GE320.out) | exact HB.out)))); have n2_ := zK (blk_below (g := gb320) (o := .cells #[.int .i64 a0_0, .slice A0_1 l0_1.length c0_1, .bool a0_2] 30 (0, 0)) (by (with_reducible repeat (first | refine zN ?_ _ | refine zD ?_ | refine zA ?_ _)); exact BK320.out) hb); have n3_ := zK (below_step (by repeat (first | (with_reducible first | exact HB.out | apply yA | apply yN | apply yD | refine yS ?_ GE320.out) | exact HB.out)) hb); clear HO0_1; clear BK320; clear HB; have HO0_1 := n0_; have HO323 := n1_; have BK320 := n2_; have HB := n3_; clear n0_ n1_ n2_ n3_; clear hb ho12; obtain ⟨Ao13, co13, eo13⟩ := Kd.N_slice HO323.out; subst eo13) | ((with_reducible refine zC (f := 9) rfl ?_); refine goesL_ (some 12) rfl rfl Try.func9 (by kernel_rfl) rfl #[.int .i64 1, .slice Ao13 y321.length co13] rfl (by (try simp only [List.map_toArray, List.map_cons, List.map_nil]); first | done | rfl | (simp only [List.length_drop, List.length_take]; rfl)) ?_; (with_reducible refine (sequiturlaw28_Short.calls k 1 _ _ y321 true _ ?side1 ?side2 A3.out).mono ?_); (case side1 => repeat (first | exact (Kd.N_reads' HO323.out).2.2 | (with_reducible refine cA ?_ _) | (with_reducible refine cN ?_ _) | (with_reducible refine cD ?_))); (case side2 => exact (Kd.N_reads' HO323.out).2.1); rintro e w' ⟨rfl, ⟨nd, rfl⟩⟩; refine ⟨_, rfl, ?_⟩; have hcz14_0 : w11.cell? ⟨gb320, 0, none⟩ = some (.int .i64 a0_0) := (blk_cell BK320.out 0).trans rfl; have hcz14_1 : w11.cell? ⟨gb320, 1, none⟩ = some (.slice A0_1 l0_1.length c0_1) := (blk_cell BK320.out 1).trans rfl; have hcz14_2 : w11.cell? ⟨gb320, 2, none⟩ = some (.bool a0_2) := (blk_cell BK320.out 2).trans rfl; have hfz14_0 := blk_frozen BK320.out 0; have hfz14_1 := blk_frozen BK320.out 1; have hfz14_2 := blk_frozen BK320.out 2) | ((with_reducible refine zC (f := 14) rfl ?_); refine goesL_ (some 18) rfl rfl Try.func14 (by kernel_rfl) rfl #[.agg #[.int .i64 a0_0, .slice A0_1 l0_1.length c0_1, .bool a0_2], .slice A1 l1.length c1] rfl (by (try simp only [List.map_toArray, List.map_cons, List.map_nil]); first | done | rfl | (simp only [List.length_drop, List.length_take]; rfl)) ?_; (with_reducible refine (ineq_Holds.calls k a0_0 _ _ l0_1 a0_2 _ _ l1 t326 t327 _ ?side1 ?side2 ?side3 ?side4 A5.out).mono ?_); (case side1 => repeat (first | exact (Kd.V_reads' HO0_1.out).2.2 | (with_reducible refine cA ?_ _) | (with_reducible refine cN ?_ _) | (with_reducible refine cD ?_))); (case side2 => exact (Kd.V_reads' HO0_1.out).2.1); (case side3 => repeat (first | exact (Kd.C_below HR1.out (by repeat (first | (with_reducible first | exact HB.out | apply yA | apply yN | apply yD | refine yS ?_ GE320.out) | exact HB.out))) | (with_reducible refine cA ?_ _) | (with_reducible refine cN ?_ _) | (with_reducible refine cD ?_))); (case side4 => exact HC1.out); rintro e w15 ⟨rfl, hb⟩; refine ⟨_, rfl, ?_⟩; have n0_ := zK (Kd.V_below (by (with_reducible repeat (first | apply vA | apply vN | apply vD)); exact HO0_1.out) hb); have n1_ := zK (Kd.N_below (by (with_reducible repeat (first | apply nA | apply nN | apply nD)); exact HO323.out) hb); have n2_ := zK (blk_below (g := gb320) (o := .cells #[.int .i64 a0_0, .slice A0_1 l0_1.length c0_1, .bool a0_2] 30 (0, 0)) (by (with_reducible repeat (first | refine zN ?_ _ | refine zD ?_ | refine zA ?_ _)); exact BK320.out) hb); have n3_ := zK (below_step (by repeat (first | (with_reducible first | exact HB.out | apply yA | apply yN | apply yD | refine yS ?_ GE320.out) | exact HB.out)) hb); clear HO0_1; clear HO323; clear BK320; clear HB; have HO0_1 := n0_; have HO323 := n1_; have BK320 := n2_; have HB := n3_; clear n0_ n1_ n2_ n3_; (try clear hb); (try clear hb2); (try clear hk); (try clear hi); have hcz16_0 : w15.cell? ⟨gb320, 0, none⟩ = some (.int .i64 a0_0) := (blk_cell BK320.out 0).trans rfl; have hcz16_1 : w15.cell? ⟨gb320, 1, none⟩ = some (.slice A0_1 l0_1.length c0_1) := (blk_cell BK320.out 1).trans rfl; have hcz16_2 : w15.cell? ⟨gb320, 2, none⟩ = some (.bool a0_2) := (blk_cell BK320.out 2).trans rfl; have hfz16_0 := blk_frozen BK320.out 0; have hfz16_1 := blk_frozen BK320.out 1; have hfz16_2 := blk_frozen BK320.out 2) | ((with_reducible refine zC (f := 16) rfl ?_); refine goesL_ (some 24) rfl rfl Try.func16 (by kernel_rfl) rfl #[.agg #[.int .i64 a0_0, .slice A0_1 l0_1.length c0_1, .bool a0_2], .slice A1 l1.length c1] rfl (by (try simp only [List.map_toArray, List.map_cons, List.map_nil]); first | done | rfl | (simp only [List.length_drop, List.length_take]; rfl)) ?_; (with_reducible refine (sequiturref28_Holds.calls k a0_0 _ _ l0_1 a0_2 _ _ l1 t328 t329 _ ?side1 ?side2 ?side3 ?side4 A6.out).mono ?_); (case side1 => repeat (first | exact (Kd.V_reads' HO0_1.out).2.2 | (with_reducible refine cA ?_ _) | (with_reducible refine cN ?_ _) | (with_reducible refine cD ?_))); (case side2 => exact (Kd.V_reads' HO0_1.out).2.1); (case side3 => repeat (first | exact (Kd.C_below HR1.out HB.out) | (with_reducible refine cA ?_ _) | (with_reducible refine cN ?_ _) | (with_reducible refine cD ?_))); (case side4 => exact HC1.out); rintro e w17 ⟨rfl, hb⟩; refine ⟨_, rfl, ?_⟩; have n0_ := zK (Kd.V_below (by (with_reducible repeat (first | apply vA | apply vN | apply vD)); exact HO0_1.out) hb); have n1_ := zK (Kd.N_below (by (with_reducible repeat (first | apply nA | apply nN | apply nD)); exact HO323.out) hb); have n2_ := zK (blk_below (g := gb320) (o := .cells #[.int .i64 a0_0, .slice A0_1 l0_1.length c0_1, .bool a0_2] 30 (0, 0)) (by (with_reducible repeat (first | refine zN ?_ _ | refine zD ?_ | refine zA ?_ _)); exact BK320.out) hb); have n3_ := zK (below_step (by repeat (first | (with_reducible first | exact HB.out | apply yA | apply yN | apply yD | refine yS ?_ GE320.out) | exact HB.out)) hb); clear HO0_1; clear HO323; clear BK320; clear HB; have HO0_1 := n0_; have HO323 := n1_; have BK320 := n2_; have HB := n3_; clear n0_ n1_ n2_ n3_; (try clear hb); (try clear hb2); (try clear hk); (try clear hi); have hcz18_0 : w17.cell? ⟨gb320, 0, none⟩ = some (.int .i64 a0_0) := (blk_cell BK320.out 0).trans rfl; have hcz18_1 : w17.cell? ⟨gb320, 1, none⟩ = some (.slice A0_1 l0_1.length c0_1) := (blk_cell BK320.out 1).trans rfl; have hcz18_2 : w17.cell? ⟨gb320, 2, none⟩ = some (.bool a0_2) := (blk_cell BK320.out 2).trans rfl; have hfz18_0 := blk_frozen BK320.out 0; have hfz18_1 := blk_frozen BK320.out 1; have hfz18_2 := blk_frozen BK320.out 2) | ((with_reducible refine zC (f := 17) rfl ?_); refine goesL_ (some 29) rfl rfl Try.func17 (by kernel_rfl) rfl #[.agg #[.int .i64 a0_0, .slice A0_1 l0_1.length c0_1]] rfl (by (try simp only [List.map_toArray, List.map_cons, List.map_nil]); first | done | rfl | (simp only [List.length_drop, List.length_take]; rfl)) ?_; (with_reducible refine (sequiturref28_Form.calls k a0_0 _ _ l0_1 t330 _ ?side1 ?side2 A7.out).mono ?_); (case side1 => repeat (first | exact (Kd.V_reads' HO0_1.out).2.2 | (with_reducible refine cA ?_ _) | (with_reducible refine cN ?_ _) | (with_reducible refine cD ?_))); (case side2 => exact (Kd.V_reads' HO0_1.out).2.1); rintro e w19 ⟨rfl, hb⟩; refine ⟨_, rfl, ?_⟩; have n0_ := zK (Kd.V_below (by (with_reducible repeat (first | apply vA | apply vN | apply vD)); exact HO0_1.out) hb); have n1_ := zK (Kd.N_below (by (with_reducible repeat (first | apply nA | apply nN | apply nD)); exact HO323.out) hb); have n2_ := zK (blk_below (g := gb320) (o := .cells #[.int .i64 a0_0, .slice A0_1 l0_1.length c0_1, .bool a0_2] 30 (0, 0)) (by (with_reducible repeat (first | refine zN ?_ _ | refine zD ?_ | refine zA ?_ _)); exact BK320.out) hb); have n3_ := zK (below_step (by repeat (first | (with_reducible first | exact HB.out | apply yA | apply yN | apply yD | refine yS ?_ GE320.out) | exact HB.out)) hb); clear HO0_1; clear HO323; clear BK320; clear HB; have HO0_1 := n0_; have HO323 := n1_; have BK320 := n2_; have HB := n3_; clear n0_ n1_ n2_ n3_; (try clear hb); (try clear hb2); (try clear hk); (try clear hi)))
  (try simp only [Act.put, List.setIfInBounds_toArray, List.set_cons_zero, List.set_cons_succ])
  go_cut [9] (fun v9 wc => ∃ (kq : Nat) (x9_7 : Int), v9 = .int .i64 x9_7 ∧ Aside0 (sequiturlaw28_IneqHolds.j0 kq t326 t327 t328 t329 x9_7 a0_0 l0_1 a0_2 = some r) ∧ Aside0 (kq ≤ k) ∧ Aside0 (Kd.V k47 47 wc w.heap.size (fun k_ => (P0_1_ k_ ∨ w.heap.size ≤ k_) ∧ k_ ≠ gb320) (.slice A0_1 l0_1.length c0_1) l0_1) ∧ Aside0 (wc.heap[gb320]? = some (.cells #[.int .i64 a0_0, (.slice A0_1 l0_1.length c0_1), .bool a0_2] 30 (0, 0))) ∧ Aside0 (Below w.heap.size w wc))
  case first =>
   have H := HC8.out
   clear HC8
   by_cases c20 : t330 = true
   ·subst c20
    have H1 : (sequiturlaw28_IneqHolds.j0 k t326 t327 t328 t329 0 a0_0 l0_1 a0_2) = some r := by rw [if_pos rfl] at H; exact H
    clear H
    have H := H1
    clear H1
    have H' := zK H
    clear H
    go_wp2
    go_meet
    case rel => exact ⟨_, (0), (by first | rfl | (simp; done) | (simp [*]; done)), H', ⟨by first | omega | exact Nat.le_refl _⟩, ⟨by (with_reducible repeat (first | apply vA | apply vN | apply vD)); exact vM HO0_1.out (fun _ hk => ⟨hk.1.1, hk.1.2⟩)⟩, ⟨by (with_reducible repeat (first | refine zN ?_ _ | refine zD ?_ | refine zA ?_ _)); exact BK320.out⟩, ⟨by repeat (first | (with_reducible first | exact HB.out | apply yA | apply yN | apply yD | refine yS ?_ GE320.out) | exact HB.out)⟩⟩
   ·replace c20 := Bool.eq_false_iff.mpr c20
    subst c20
    have H1 : (sequiturlaw28_IneqHolds.j0 k t326 t327 t328 t329 1 a0_0 l0_1 a0_2) = some r := by rw [if_neg (show ¬ (false = true) by decide)] at H; exact H
    clear H
    have H := H1
    clear H1
    have H' := zK H
    clear H
    go_wp2
    go_meet
    case rel => exact ⟨_, (1), (by first | rfl | (simp; done) | (simp [*]; done)), H', ⟨by first | omega | exact Nat.le_refl _⟩, ⟨by (with_reducible repeat (first | apply vA | apply vN | apply vD)); exact vM HO0_1.out (fun _ hk => ⟨hk.1.1, hk.1.2⟩)⟩, ⟨by (with_reducible repeat (first | refine zN ?_ _ | refine zD ?_ | refine zA ?_ _)); exact BK320.out⟩, ⟨by repeat (first | (with_reducible first | exact HB.out | apply yA | apply yN | apply yD | refine yS ?_ GE320.out) | exact HB.out)⟩⟩
  case rest =>
   clear HC8
   try clear c1
   try clear c2
   try clear p2
   try clear c3
   try clear c4
   try clear c5
   try clear c9
   try clear c14
   try clear c16
   try clear c17
   try clear c20
   try clear hcz10_0
   try clear hcz10_1
   try clear hcz10_2
   try clear hcz14_0
   try clear hcz14_1
   try clear hcz14_2
   try clear hcz16_0
   try clear hcz16_1
   try clear hcz16_2
   try clear hcz18_0
   try clear hcz18_1
   try clear hcz18_2
   try clear hfz10_0
   try clear hfz10_1
   try clear hfz10_2
   try clear hfz14_0
   try clear hfz14_1
   try clear hfz14_2
   try clear hfz16_0
   try clear hfz16_1
   try clear hfz16_2
   try clear hfz18_0
   try clear hfz18_1
   try clear hfz18_2
   obtain ⟨kq, x9_7, rfl, HA, HJ7, HO_321001, BK320, HB⟩ := hcut
   cases kq with
   | zero => exact absurd HA.out (by simp [sequiturlaw28_IneqHolds.j0])
   | succ kj7 =>
    have H := HA.out
    clear HA
    simp only [sequiturlaw28_IneqHolds.j0] at H
    by_cases c21 : (t326 == t328) = true
    ·rw [if_pos c21] at H
     have c21b0 : (t326 == t328) = true := c21
     (try (have c21b1 : decide (t326 = t328) = true := by simpa using c21))
     (try (have c21b2 : (t326 == t328) = true := by simpa using c21))
     clear c21
     by_cases c22 : t327 = t329
     ·rw [if_pos c22] at H
      have c22b0 : (t327 == t329) = true := beq_iff_eq.mpr c22
      have c22b1 : (t327 != t329) = false := bne_eq_false_iff_eq.mpr c22
      clear c22
      replace H := Option.bind_eq_some_iff.mp H
      obtain ⟨t331, A230, H⟩ := H
      replace H : (if t331 = x9_7 then ((ineq_Absurd.f kj7 a0_0 l0_1 a0_2).bind fun t332 => ((sequiturref28_Absurd.f a0_0 l0_1 a0_2).bind fun t333 => (if (t332 == t333) = true then ((ineq_Void.f kj7 a0_0 l0_1 a0_2).bind fun t334 => ((sequiturref28_Void.f a0_0 l0_1 a0_2).bind fun t335 => (if (t334 == t335) = true then ((sequiturlaw28_goes.f kj7).bind fun t336 => (some t336)) else (none)))) else (none)))) else (none)) = some r := H
      have A23 := zK A230
      clear A230
      by_cases c24 : t331 = x9_7
      ·rw [if_pos c24] at H
       have c24b0 : (t331 == x9_7) = true := beq_iff_eq.mpr c24
       have c24b1 : (t331 != x9_7) = false := bne_eq_false_iff_eq.mpr c24
       clear c24
       replace H := Option.bind_eq_some_iff.mp H
       obtain ⟨t332, A250, H⟩ := H
       replace H : ((sequiturref28_Absurd.f a0_0 l0_1 a0_2).bind fun t333 => (if (t332 == t333) = true then ((ineq_Void.f kj7 a0_0 l0_1 a0_2).bind fun t334 => ((sequiturref28_Void.f a0_0 l0_1 a0_2).bind fun t335 => (if (t334 == t335) = true then ((sequiturlaw28_goes.f kj7).bind fun t336 => (some t336)) else (none)))) else (none))) = some r := H
       have A25 := zK A250
       clear A250
       replace H := Option.bind_eq_some_iff.mp H
       obtain ⟨t333, A260, H⟩ := H
       replace H : (if (t332 == t333) = true then ((ineq_Void.f kj7 a0_0 l0_1 a0_2).bind fun t334 => ((sequiturref28_Void.f a0_0 l0_1 a0_2).bind fun t335 => (if (t334 == t335) = true then ((sequiturlaw28_goes.f kj7).bind fun t336 => (some t336)) else (none)))) else (none)) = some r := H
       have A26 := zK A260
       clear A260
       by_cases c27 : (t332 == t333) = true
       ·rw [if_pos c27] at H
        have c27b0 : (t332 == t333) = true := c27
        (try (have c27b1 : decide (t332 = t333) = true := by simpa using c27))
        (try (have c27b2 : (t332 == t333) = true := by simpa using c27))
        clear c27
        replace H := Option.bind_eq_some_iff.mp H
        obtain ⟨t334, A280, H⟩ := H
        replace H : ((sequiturref28_Void.f a0_0 l0_1 a0_2).bind fun t335 => (if (t334 == t335) = true then ((sequiturlaw28_goes.f kj7).bind fun t336 => (some t336)) else (none))) = some r := H
        have A28 := zK A280
        clear A280
        replace H := Option.bind_eq_some_iff.mp H
        obtain ⟨t335, A290, H⟩ := H
        replace H : (if (t334 == t335) = true then ((sequiturlaw28_goes.f kj7).bind fun t336 => (some t336)) else (none)) = some r := H
        have A29 := zK A290
        clear A290
        by_cases c30 : (t334 == t335) = true
        ·rw [if_pos c30] at H
         have c30b0 : (t334 == t335) = true := c30
         (try (have c30b1 : decide (t334 = t335) = true := by simpa using c30))
         (try (have c30b2 : (t334 == t335) = true := by simpa using c30))
         clear c30
         replace H := Option.bind_eq_some_iff.mp H
         obtain ⟨t336, A310, H⟩ := H
         replace H : (some t336) = some r := H
         have A31 := zK A310
         clear A310
         obtain rfl := Option.some.inj H
         try go_wp2
         have n0_ := zK (vD HO_321001.out)
         have n1_ := zK (zD BK320.out)
         have n2_ := zK (yD HB.out)
         clear HO_321001
         clear BK320
         clear HB
         have HO_321001 := n0_
         have BK320 := n1_
         have HB := n2_
         clear n0_ n1_ n2_
         refine start_ (n := 32) (S := fun w' => w'.cell? ⟨gb320, 0, none⟩ = some (.int .i64 a0_0) ∧ w'.cell? ⟨gb320, 1, none⟩ = some (.slice A0_1 l0_1.length c0_1) ∧ w'.cell? ⟨gb320, 2, none⟩ = some (.bool a0_2)) (ds := []) #[false, false, false, false, false, false, false, false, false, false, false, false, false, false, false, false, false, false, false, false, false, false, false, false, false, false, false, false, false, false, false, false] (by kernel_rfl) rfl rfl ⟨(blk_cell BK320.out 0).trans rfl, (blk_cell BK320.out 1).trans rfl, (blk_cell BK320.out 2).trans rfl⟩ (fun hHeld => ?_); refine with_tabW sequiturlaw28_IneqHolds.tab8 sequiturlaw28_IneqHolds.bits8 (fun HT_ HW_ => ?_)
         generalize wc.drew = w32 at HO_321001 BK320 HB hHeld ⊢
         refine pure_ (i := 0) (N := some 31) (v := ?_) (a' := ?_) #[true, false, false, false, false, false, false, false, false, false, false, false, false, false, false, false, false, false, false, false, false, false, false, false, false, false, false, false, false, false, false, false] rfl rfl (any_of HT_.out (by kernel_rfl)) (fun _ _ _ h => h) (Or.inl ⟨by rfl, ?_⟩) ?_ ?_
         rotate_left
         ·intro w'
          go_simp
          with_reducible rfl
         rotate_left
         ·simp only [Act.put, List.setIfInBounds_toArray, List.set_cons_zero, List.set_cons_succ, i64_w, i32_w]
          rfl
         refine pure_ (i := 1) (N := some 32) (v := ?_) (a' := ?_) #[true, true, false, false, false, false, false, false, false, false, false, false, false, false, false, false, false, false, false, false, false, false, false, false, false, false, false, false, false, false, false, false] rfl rfl (any_of HT_.out (by kernel_rfl)) (fun _ _ _ h => h) (Or.inl ⟨by rfl, ?_⟩) ?_ ?_
         rotate_left
         ·intro w'
          go_simp
          with_reducible rfl
         rotate_left
         ·simp only [Act.put, List.setIfInBounds_toArray, List.set_cons_zero, List.set_cons_succ, i64_w, i32_w]
          rfl
         refine pure_ (i := 2) (N := some 33) (v := ?_) (a' := ?_) #[true, true, true, false, false, false, false, false, false, false, false, false, false, false, false, false, false, false, false, false, false, false, false, false, false, false, false, false, false, false, false, false] rfl rfl (any_of HT_.out (by kernel_rfl)) (fun _ _ _ h => h) (Or.inl ⟨by rfl, ?_⟩) ?_ ?_
         rotate_left
         ·intro w'
          go_simp
          with_reducible rfl
         rotate_left
         ·simp only [Act.put, List.setIfInBounds_toArray, List.set_cons_zero, List.set_cons_succ, i64_w, i32_w]
          rfl
         refine pure_ (i := 3) (N := some 34) (v := ?_) (a' := ?_) #[true, true, true, true, false, false, false, false, false, false, false, false, false, false, false, false, false, false, false, false, false, false, false, false, false, false, false, false, false, false, false, false] rfl rfl (any_of HT_.out (by kernel_rfl)) (fun _ _ _ h => h) (Or.inl ⟨by rfl, ?_⟩) ?_ ?_
         rotate_left
         ·intro w'
          go_simp
          with_reducible rfl
         rotate_left
         ·simp only [Act.put, List.setIfInBounds_toArray, List.set_cons_zero, List.set_cons_succ, i64_w, i32_w]
          rfl
         refine pure_ (i := 4) (N := some 35) (v := ?_) (a' := ?_) #[true, true, true, true, true, false, false, false, false, false, false, false, false, false, false, false, false, false, false, false, false, false, false, false, false, false, false, false, false, false, false, false] rfl rfl (any_of HT_.out (by kernel_rfl)) (fun _ _ _ h => h) (Or.inl ⟨by rfl, ?_⟩) ?_ ?_
         rotate_left
         ·intro w'
          go_simp
          with_reducible rfl
         rotate_left
         ·simp only [Act.put, List.setIfInBounds_toArray, List.set_cons_zero, List.set_cons_succ, i64_w, i32_w]
          rfl
         refine pure_ (i := 5) (N := some 36) (v := ?_) (a' := ?_) #[true, true, true, true, true, true, false, false, false, false, false, false, false, false, false, false, false, false, false, false, false, false, false, false, false, false, false, false, false, false, false, false] rfl rfl (any_of HT_.out (by kernel_rfl)) (fun _ _ _ h => h) (Or.inl ⟨by rfl, ?_⟩) ?_ ?_
         rotate_left
         ·intro w'
          go_simp
          with_reducible rfl
         rotate_left
         ·simp only [Act.put, List.setIfInBounds_toArray, List.set_cons_zero, List.set_cons_succ, i64_w, i32_w]
          rfl
         refine pure_ (i := 6) (N := some 37) (v := ?_) (a' := ?_) #[true, true, true, true, true, true, true, false, false, false, false, false, false, false, false, false, false, false, false, false, false, false, false, false, false, false, false, false, false, false, false, false] rfl rfl (any_of HT_.out (by kernel_rfl)) (fun _ _ _ h => h) (Or.inl ⟨by rfl, ?_⟩) ?_ ?_
         rotate_left
         ·intro w'
          go_simp
          with_reducible rfl
         rotate_left
         ·simp only [Act.put, List.setIfInBounds_toArray, List.set_cons_zero, List.set_cons_succ, i64_w, i32_w]
          rfl
         refine pure_ (i := 7) (N := some 38) (v := ?_) (a' := ?_) #[true, true, true, true, true, true, true, true, false, false, false, false, false, false, false, false, false, false, false, false, false, false, false, false, false, false, false, false, false, false, false, false] rfl rfl (any_of HT_.out (by kernel_rfl)) (fun _ _ _ h => h) (Or.inl ⟨by rfl, ?_⟩) ?_ ?_
         rotate_left
         ·intro w'
          go_simp
          with_reducible rfl
         rotate_left
         ·simp only [Act.put, List.setIfInBounds_toArray, List.set_cons_zero, List.set_cons_succ, i64_w, i32_w]
          rfl
         refine pure_ (i := 8) (N := some 39) (v := ?_) (a' := ?_) #[true, true, true, true, true, true, true, true, true, false, false, false, false, false, false, false, false, false, false, false, false, false, false, false, false, false, false, false, false, false, false, false] rfl rfl (any_of HT_.out (by kernel_rfl)) (fun _ _ _ h => h) (Or.inl ⟨by rfl, ?_⟩) ?_ ?_
         rotate_left
         ·intro w'
          go_simp
          with_reducible rfl
         rotate_left
         ·simp only [Act.put, List.setIfInBounds_toArray, List.set_cons_zero, List.set_cons_succ, i64_w, i32_w]
          rfl
         refine pure_ (i := 11) (N := some 42) (v := ?_) (a' := ?_) #[true, true, true, true, true, true, true, true, true, false, false, true, false, false, false, false, false, false, false, false, false, false, false, false, false, false, false, false, false, false, false, false] rfl rfl (any_of HT_.out (by kernel_rfl)) (fun _ _ _ h => h) (Or.inl ⟨by rfl, ?_⟩) ?_ ?_
         rotate_left
         ·intro w'
          go_simp
          with_reducible rfl
         rotate_left
         ·simp only [Act.put, List.setIfInBounds_toArray, List.set_cons_zero, List.set_cons_succ, i64_w, i32_w]
          rfl
         refine take_ (i := 9) (N := some 40) (v := ?_) (a' := ?_) #[true, true, true, true, true, true, true, true, true, true, false, true, false, false, false, false, false, false, false, false, false, false, false, false, false, false, false, false, false, false, false, false] rfl rfl (take_ofW HT_.out HW_.out (by kernel_rfl)) (fun _ _ _ h => h) (Or.inl ⟨by rfl, ?_⟩) hHeld ?_ ?_
         rotate_left
         ·rintro w' ⟨s0, s1, s2⟩
          go_simp
          with_reducible rfl
         rotate_left
         ·simp only [Act.put, List.setIfInBounds_toArray, List.set_cons_zero, List.set_cons_succ, i64_w, i32_w]
          rfl
         refine one_ (i := 10) (N := some 41) #[true, true, true, true, true, true, true, true, true, true, true, true, false, false, false, false, false, false, false, false, false, false, false, false, false, false, false, false, false, false, false, false] rfl rfl (one_of HT_.out (by kernel_rfl)) (by decide) (fun K hK => ?_)
         refine goes_ Try.func18 (by kernel_rfl) rfl #[.agg #[.int .i64 a0_0, .slice A0_1 l0_1.length c0_1, .bool a0_2]] (by rfl) rfl rfl (by (try simp only [List.map_toArray, List.map_cons, List.map_nil]); first | done | rfl | (simp only [List.length_drop, List.length_take]; rfl)) ?_
         with_reducible refine (ineq_Right.calls kj7 a0_0 _ _ l0_1 a0_2 t331 _ ?side1 ?side2 A23.out).mono ?_
         (case side1 => repeat (first | exact (Kd.V_reads' HO_321001.out).2.2 | (with_reducible refine cA ?_ _) | (with_reducible refine cN ?_ _) | (with_reducible refine cD ?_)))
         (case side2 => exact (Kd.V_reads' HO_321001.out).2.1)
         rintro e w33 ⟨rfl, hb⟩
         refine ⟨_, rfl, ?_⟩
         have n0_ := zK (Kd.V_below (by (with_reducible repeat (first | apply vA | apply vN | apply vD)); exact HO_321001.out) hb)
         have n1_ := zK (blk_below (g := gb320) (o := .cells #[.int .i64 a0_0, .slice A0_1 l0_1.length c0_1, .bool a0_2] 30 (0, 0)) (by (with_reducible repeat (first | refine zN ?_ _ | refine zD ?_ | refine zA ?_ _)); exact BK320.out) hb)
         have n2_ := zK (below_step (by repeat (first | (with_reducible first | exact HB.out | apply yA | apply yN | apply yD | refine yS ?_ GE320.out) | exact HB.out)) hb)
         clear HO_321001
         clear BK320
         clear HB
         have HO_321001 := n0_
         have BK320 := n1_
         have HB := n2_
         clear n0_ n1_ n2_
         (try clear hb)
         (try clear hb2)
         (try clear hk)
         (try clear hi)
         refine hK.out _ _ ⟨(blk_cell BK320.out 0).trans rfl, (blk_cell BK320.out 1).trans rfl, (blk_cell BK320.out 2).trans rfl⟩ (fun hHeld => ?_)
         clear hK K
         refine norm_ (a' := ?_) ?_ ?_
         rotate_left
         ·show Act.put _ (some 41) _ = _
          simp only [Act.put, List.setIfInBounds_toArray, List.set_cons_zero, List.set_cons_succ, i64_w, i32_w]
          rfl
         refine pure_ (i := 12) (N := some 43) (v := ?_) (a' := ?_) #[true, true, true, true, true, true, true, true, true, true, true, true, true, false, false, false, false, false, false, false, false, false, false, false, false, false, false, false, false, false, false, false] rfl rfl (any_of HT_.out (by kernel_rfl)) (fun _ _ _ h => h) (Or.inl ⟨by rfl, ?_⟩) ?_ ?_
         rotate_left
         ·intro w'
          go_simp
          with_reducible rfl
         rotate_left
         ·simp only [Act.put, List.setIfInBounds_toArray, List.set_cons_zero, List.set_cons_succ, i64_w, i32_w]
          rfl
         refine pure_ (i := 13) (N := some 44) (v := ?_) (a' := ?_) #[true, true, true, true, true, true, true, true, true, true, true, true, true, true, false, false, false, false, false, false, false, false, false, false, false, false, false, false, false, false, false, false] rfl rfl (any_of HT_.out (by kernel_rfl)) (fun _ _ _ h => h) (Or.inl ⟨by rfl, ?_⟩) ?_ ?_
         rotate_left
         ·intro w'
          go_simp
          with_reducible rfl
         rotate_left
         ·simp only [Act.put, List.setIfInBounds_toArray, List.set_cons_zero, List.set_cons_succ, i64_w, i32_w]
          rfl
         refine pure_ (i := 14) (N := some 45) (v := ?_) (a' := ?_) #[true, true, true, true, true, true, true, true, true, true, true, true, true, true, true, false, false, false, false, false, false, false, false, false, false, false, false, false, false, false, false, false] rfl rfl (any_of HT_.out (by kernel_rfl)) (fun _ _ _ h => h) (Or.inl ⟨by rfl, ?_⟩) ?_ ?_
         rotate_left
         ·intro w'
          go_simp
          with_reducible rfl
         rotate_left
         ·simp only [Act.put, List.setIfInBounds_toArray, List.set_cons_zero, List.set_cons_succ, i64_w, i32_w]
          rfl
         refine take_ (i := 15) (N := some 46) (v := ?_) (a' := ?_) #[true, true, true, true, true, true, true, true, true, true, true, true, true, true, true, true, false, false, false, false, false, false, false, false, false, false, false, false, false, false, false, false] rfl rfl (take_ofW HT_.out HW_.out (by kernel_rfl)) (fun _ _ _ h => h) (Or.inl ⟨by rfl, ?_⟩) hHeld ?_ ?_
         rotate_left
         ·rintro w' ⟨s0, s1, s2⟩
          go_simp
          with_reducible rfl
         rotate_left
         ·simp only [Act.put, List.setIfInBounds_toArray, List.set_cons_zero, List.set_cons_succ, i64_w, i32_w]
          rfl
         refine take_ (i := 17) (N := some 48) (v := ?_) (a' := ?_) #[true, true, true, true, true, true, true, true, true, true, true, true, true, true, true, true, false, true, false, false, false, false, false, false, false, false, false, false, false, false, false, false] rfl rfl (take_ofW HT_.out HW_.out (by kernel_rfl)) (fun _ _ _ h => h) (Or.inl ⟨by rfl, ?_⟩) hHeld ?_ ?_
         rotate_left
         ·rintro w' ⟨s0, s1, s2⟩
          go_simp
          with_reducible rfl
         rotate_left
         ·simp only [Act.put, List.setIfInBounds_toArray, List.set_cons_zero, List.set_cons_succ, i64_w, i32_w]
          rfl
         refine one_ (i := 16) (N := some 47) #[true, true, true, true, true, true, true, true, true, true, true, true, true, true, true, true, true, true, false, false, false, false, false, false, false, false, false, false, false, false, false, false] rfl rfl (one_of HT_.out (by kernel_rfl)) (by decide) (fun K hK => ?_)
         refine goes_ Try.func19 (by kernel_rfl) rfl #[.agg #[.int .i64 a0_0, .slice A0_1 l0_1.length c0_1, .bool a0_2]] (by rfl) rfl rfl (by (try simp only [List.map_toArray, List.map_cons, List.map_nil]); first | done | rfl | (simp only [List.length_drop, List.length_take]; rfl)) ?_
         with_reducible refine (ineq_Absurd.calls kj7 a0_0 _ _ l0_1 a0_2 t332 _ ?side1 ?side2 A25.out).mono ?_
         (case side1 => repeat (first | exact (Kd.V_reads' HO_321001.out).2.2 | (with_reducible refine cA ?_ _) | (with_reducible refine cN ?_ _) | (with_reducible refine cD ?_)))
         (case side2 => exact (Kd.V_reads' HO_321001.out).2.1)
         rintro e w34 ⟨rfl, hb⟩
         refine ⟨_, rfl, ?_⟩
         have n0_ := zK (Kd.V_below (by (with_reducible repeat (first | apply vA | apply vN | apply vD)); exact HO_321001.out) hb)
         have n1_ := zK (blk_below (g := gb320) (o := .cells #[.int .i64 a0_0, .slice A0_1 l0_1.length c0_1, .bool a0_2] 30 (0, 0)) (by (with_reducible repeat (first | refine zN ?_ _ | refine zD ?_ | refine zA ?_ _)); exact BK320.out) hb)
         have n2_ := zK (below_step (by repeat (first | (with_reducible first | exact HB.out | apply yA | apply yN | apply yD | refine yS ?_ GE320.out) | exact HB.out)) hb)
         clear HO_321001
         clear BK320
         clear HB
         have HO_321001 := n0_
         have BK320 := n1_
         have HB := n2_
         clear n0_ n1_ n2_
         (try clear hb)
         (try clear hb2)
         (try clear hk)
         (try clear hi)
         refine hK.out _ _ ⟨(blk_cell BK320.out 0).trans rfl, (blk_cell BK320.out 1).trans rfl, (blk_cell BK320.out 2).trans rfl⟩ (fun hHeld => ?_)
         clear hK K
         refine norm_ (a' := ?_) ?_ ?_
         rotate_left
         ·show Act.put _ (some 47) _ = _
          simp only [Act.put, List.setIfInBounds_toArray, List.set_cons_zero, List.set_cons_succ, i64_w, i32_w]
          rfl
         refine one_ (i := 18) (N := some 49) #[true, true, true, true, true, true, true, true, true, true, true, true, true, true, true, true, true, true, true, false, false, false, false, false, false, false, false, false, false, false, false, false] rfl rfl (one_of HT_.out (by kernel_rfl)) (by decide) (fun K hK => ?_)
         refine goes_ Try.func20 (by kernel_rfl) rfl #[.agg #[.int .i64 a0_0, .slice A0_1 l0_1.length c0_1, .bool a0_2]] (by rfl) rfl rfl (by (try simp only [List.map_toArray, List.map_cons, List.map_nil]); first | done | rfl | (simp only [List.length_drop, List.length_take]; rfl)) ?_
         with_reducible refine (sequiturref28_Absurd.calls a0_0 _ _ l0_1 a0_2 t333 _ ?side1 ?side2 A26.out).mono ?_
         (case side1 => repeat (first | exact (Kd.V_reads' HO_321001.out).2.2 | (with_reducible refine cA ?_ _) | (with_reducible refine cN ?_ _) | (with_reducible refine cD ?_)))
         (case side2 => exact (Kd.V_reads' HO_321001.out).2.1)
         rintro e w35 ⟨rfl, hb⟩
         refine ⟨_, rfl, ?_⟩
         have n0_ := zK (Kd.V_below (by (with_reducible repeat (first | apply vA | apply vN | apply vD)); exact HO_321001.out) hb)
         have n1_ := zK (blk_below (g := gb320) (o := .cells #[.int .i64 a0_0, .slice A0_1 l0_1.length c0_1, .bool a0_2] 30 (0, 0)) (by (with_reducible repeat (first | refine zN ?_ _ | refine zD ?_ | refine zA ?_ _)); exact BK320.out) hb)
         have n2_ := zK (below_step (by repeat (first | (with_reducible first | exact HB.out | apply yA | apply yN | apply yD | refine yS ?_ GE320.out) | exact HB.out)) hb)
         clear HO_321001
         clear BK320
         clear HB
         have HO_321001 := n0_
         have BK320 := n1_
         have HB := n2_
         clear n0_ n1_ n2_
         (try clear hb)
         (try clear hb2)
         (try clear hk)
         (try clear hi)
         refine hK.out _ _ ⟨(blk_cell BK320.out 0).trans rfl, (blk_cell BK320.out 1).trans rfl, (blk_cell BK320.out 2).trans rfl⟩ (fun hHeld => ?_)
         clear hK K
         refine norm_ (a' := ?_) ?_ ?_
         rotate_left
         ·show Act.put _ (some 49) _ = _
          simp only [Act.put, List.setIfInBounds_toArray, List.set_cons_zero, List.set_cons_succ, i64_w, i32_w]
          rfl
         refine pure_ (i := 19) (N := some 50) (v := ?_) (a' := ?_) #[true, true, true, true, true, true, true, true, true, true, true, true, true, true, true, true, true, true, true, true, false, false, false, false, false, false, false, false, false, false, false, false] rfl rfl (any_of HT_.out (by kernel_rfl)) (fun _ _ _ h => h) (Or.inl ⟨by rfl, ?_⟩) ?_ ?_
         rotate_left
         ·intro w'
          go_simp
          with_reducible rfl
         rotate_left
         ·simp only [Act.put, List.setIfInBounds_toArray, List.set_cons_zero, List.set_cons_succ, i64_w, i32_w]
          rfl
         refine pure_ (i := 20) (N := some 51) (v := ?_) (a' := ?_) #[true, true, true, true, true, true, true, true, true, true, true, true, true, true, true, true, true, true, true, true, true, false, false, false, false, false, false, false, false, false, false, false] rfl rfl (any_of HT_.out (by kernel_rfl)) (fun _ _ _ h => h) (Or.inl ⟨by rfl, ?_⟩) ?_ ?_
         rotate_left
         ·intro w'
          go_simp
          with_reducible rfl
         rotate_left
         ·simp only [Act.put, List.setIfInBounds_toArray, List.set_cons_zero, List.set_cons_succ, i64_w, i32_w]
          rfl
         refine pure_ (i := 21) (N := some 52) (v := ?_) (a' := ?_) #[true, true, true, true, true, true, true, true, true, true, true, true, true, true, true, true, true, true, true, true, true, true, false, false, false, false, false, false, false, false, false, false] rfl rfl (any_of HT_.out (by kernel_rfl)) (fun _ _ _ h => h) (Or.inl ⟨by rfl, ?_⟩) ?_ ?_
         rotate_left
         ·intro w'
          go_simp
          with_reducible rfl
         rotate_left
         ·simp only [Act.put, List.setIfInBounds_toArray, List.set_cons_zero, List.set_cons_succ, i64_w, i32_w]
          rfl
         refine take_ (i := 22) (N := some 53) (v := ?_) (a' := ?_) #[true, true, true, true, true, true, true, true, true, true, true, true, true, true, true, true, true, true, true, true, true, true, true, false, false, false, false, false, false, false, false, false] rfl rfl (take_ofW HT_.out HW_.out (by kernel_rfl)) (fun _ _ _ h => h) (Or.inl ⟨by rfl, ?_⟩) hHeld ?_ ?_
         rotate_left
         ·rintro w' ⟨s0, s1, s2⟩
          go_simp
          with_reducible rfl
         rotate_left
         ·simp only [Act.put, List.setIfInBounds_toArray, List.set_cons_zero, List.set_cons_succ, i64_w, i32_w]
          rfl
         refine take_ (i := 24) (N := some 55) (v := ?_) (a' := ?_) #[true, true, true, true, true, true, true, true, true, true, true, true, true, true, true, true, true, true, true, true, true, true, true, false, true, false, false, false, false, false, false, false] rfl rfl (take_ofW HT_.out HW_.out (by kernel_rfl)) (fun _ _ _ h => h) (Or.inl ⟨by rfl, ?_⟩) hHeld ?_ ?_
         rotate_left
         ·rintro w' ⟨s0, s1, s2⟩
          go_simp
          with_reducible rfl
         rotate_left
         ·simp only [Act.put, List.setIfInBounds_toArray, List.set_cons_zero, List.set_cons_succ, i64_w, i32_w]
          rfl
         refine one_ (i := 23) (N := some 54) #[true, true, true, true, true, true, true, true, true, true, true, true, true, true, true, true, true, true, true, true, true, true, true, true, true, false, false, false, false, false, false, false] rfl rfl (one_of HT_.out (by kernel_rfl)) (by decide) (fun K hK => ?_)
         refine goes_ Try.func21 (by kernel_rfl) rfl #[.agg #[.int .i64 a0_0, .slice A0_1 l0_1.length c0_1, .bool a0_2]] (by rfl) rfl rfl (by (try simp only [List.map_toArray, List.map_cons, List.map_nil]); first | done | rfl | (simp only [List.length_drop, List.length_take]; rfl)) ?_
         with_reducible refine (ineq_Void.calls kj7 a0_0 _ _ l0_1 a0_2 t334 _ ?side1 ?side2 A28.out).mono ?_
         (case side1 => repeat (first | exact (Kd.V_reads' HO_321001.out).2.2 | (with_reducible refine cA ?_ _) | (with_reducible refine cN ?_ _) | (with_reducible refine cD ?_)))
         (case side2 => exact (Kd.V_reads' HO_321001.out).2.1)
         rintro e w36 ⟨rfl, hb⟩
         refine ⟨_, rfl, ?_⟩
         have n0_ := zK (Kd.V_below (by (with_reducible repeat (first | apply vA | apply vN | apply vD)); exact HO_321001.out) hb)
         have n1_ := zK (blk_below (g := gb320) (o := .cells #[.int .i64 a0_0, .slice A0_1 l0_1.length c0_1, .bool a0_2] 30 (0, 0)) (by (with_reducible repeat (first | refine zN ?_ _ | refine zD ?_ | refine zA ?_ _)); exact BK320.out) hb)
         have n2_ := zK (below_step (by repeat (first | (with_reducible first | exact HB.out | apply yA | apply yN | apply yD | refine yS ?_ GE320.out) | exact HB.out)) hb)
         clear HO_321001
         clear BK320
         clear HB
         have HO_321001 := n0_
         have BK320 := n1_
         have HB := n2_
         clear n0_ n1_ n2_
         (try clear hb)
         (try clear hb2)
         (try clear hk)
         (try clear hi)
         refine hK.out _ _ ⟨(blk_cell BK320.out 0).trans rfl, (blk_cell BK320.out 1).trans rfl, (blk_cell BK320.out 2).trans rfl⟩ (fun hHeld => ?_)
         clear hK K
         refine norm_ (a' := ?_) ?_ ?_
         rotate_left
         ·show Act.put _ (some 54) _ = _
          simp only [Act.put, List.setIfInBounds_toArray, List.set_cons_zero, List.set_cons_succ, i64_w, i32_w]
          rfl
         refine one_ (i := 25) (N := some 56) #[true, true, true, true, true, true, true, true, true, true, true, true, true, true, true, true, true, true, true, true, true, true, true, true, true, true, false, false, false, false, false, false] rfl rfl (one_of HT_.out (by kernel_rfl)) (by decide) (fun K hK => ?_)
         refine goes_ Try.func22 (by kernel_rfl) rfl #[.agg #[.int .i64 a0_0, .slice A0_1 l0_1.length c0_1, .bool a0_2]] (by rfl) rfl rfl (by (try simp only [List.map_toArray, List.map_cons, List.map_nil]); first | done | rfl | (simp only [List.length_drop, List.length_take]; rfl)) ?_
         with_reducible refine (sequiturref28_Void.calls a0_0 _ _ l0_1 a0_2 t335 _ ?side1 ?side2 A29.out).mono ?_
         (case side1 => repeat (first | exact (Kd.V_reads' HO_321001.out).2.2 | (with_reducible refine cA ?_ _) | (with_reducible refine cN ?_ _) | (with_reducible refine cD ?_)))
         (case side2 => exact (Kd.V_reads' HO_321001.out).2.1)
         rintro e w37 ⟨rfl, hb⟩
         refine ⟨_, rfl, ?_⟩
         have n0_ := zK (Kd.V_below (by (with_reducible repeat (first | apply vA | apply vN | apply vD)); exact HO_321001.out) hb)
         have n1_ := zK (blk_below (g := gb320) (o := .cells #[.int .i64 a0_0, .slice A0_1 l0_1.length c0_1, .bool a0_2] 30 (0, 0)) (by (with_reducible repeat (first | refine zN ?_ _ | refine zD ?_ | refine zA ?_ _)); exact BK320.out) hb)
         have n2_ := zK (below_step (by repeat (first | (with_reducible first | exact HB.out | apply yA | apply yN | apply yD | refine yS ?_ GE320.out) | exact HB.out)) hb)
         clear HO_321001
         clear BK320
         clear HB
         have HO_321001 := n0_
         have BK320 := n1_
         have HB := n2_
         clear n0_ n1_ n2_
         (try clear hb)
         (try clear hb2)
         (try clear hk)
         (try clear hi)
         refine hK.out _ _ ⟨(blk_cell BK320.out 0).trans rfl, (blk_cell BK320.out 1).trans rfl, (blk_cell BK320.out 2).trans rfl⟩ (fun hHeld => ?_)
         clear hK K
         refine norm_ (a' := ?_) ?_ ?_
         rotate_left
         ·show Act.put _ (some 56) _ = _
          simp only [Act.put, List.setIfInBounds_toArray, List.set_cons_zero, List.set_cons_succ, i64_w, i32_w]
          rfl
         refine pure_ (i := 26) (N := some 57) (v := ?_) (a' := ?_) #[true, true, true, true, true, true, true, true, true, true, true, true, true, true, true, true, true, true, true, true, true, true, true, true, true, true, true, false, false, false, false, false] rfl rfl (any_of HT_.out (by kernel_rfl)) (fun _ _ _ h => h) (Or.inl ⟨by rfl, ?_⟩) ?_ ?_
         rotate_left
         ·intro w'
          go_simp
          with_reducible rfl
         rotate_left
         ·simp only [Act.put, List.setIfInBounds_toArray, List.set_cons_zero, List.set_cons_succ, i64_w, i32_w]
          rfl
         refine pure_ (i := 27) (N := some 58) (v := ?_) (a' := ?_) #[true, true, true, true, true, true, true, true, true, true, true, true, true, true, true, true, true, true, true, true, true, true, true, true, true, true, true, true, false, false, false, false] rfl rfl (any_of HT_.out (by kernel_rfl)) (fun _ _ _ h => h) (Or.inl ⟨by rfl, ?_⟩) ?_ ?_
         rotate_left
         ·intro w'
          go_simp
          with_reducible rfl
         rotate_left
         ·simp only [Act.put, List.setIfInBounds_toArray, List.set_cons_zero, List.set_cons_succ, i64_w, i32_w]
          rfl
         refine pure_ (i := 28) (N := some 59) (v := ?_) (a' := ?_) #[true, true, true, true, true, true, true, true, true, true, true, true, true, true, true, true, true, true, true, true, true, true, true, true, true, true, true, true, true, false, false, false] rfl rfl (any_of HT_.out (by kernel_rfl)) (fun _ _ _ h => h) (Or.inl ⟨by rfl, ?_⟩) ?_ ?_
         rotate_left
         ·intro w'
          go_simp
          with_reducible rfl
         rotate_left
         ·simp only [Act.put, List.setIfInBounds_toArray, List.set_cons_zero, List.set_cons_succ, i64_w, i32_w]
          rfl
         refine one_ (i := 29) (N := some 60) #[true, true, true, true, true, true, true, true, true, true, true, true, true, true, true, true, true, true, true, true, true, true, true, true, true, true, true, true, true, true, false, false] rfl rfl (one_of HT_.out (by kernel_rfl)) (by decide) (fun K hK => ?_)
         refine goes_ Try.func10 (by kernel_rfl) rfl #[] (by rfl) rfl rfl (by (try simp only [List.map_toArray, List.map_cons, List.map_nil]); first | done | rfl | (simp only [List.length_drop, List.length_take]; rfl)) ?_
         with_reducible refine (sequiturlaw28_goes.calls kj7  t336 _ A31.out).mono ?_
         rintro e w38 ⟨rfl, hb⟩
         refine ⟨_, rfl, ?_⟩
         have n0_ := zK (Kd.V_below (by (with_reducible repeat (first | apply vA | apply vN | apply vD)); exact HO_321001.out) hb)
         have n1_ := zK (blk_below (g := gb320) (o := .cells #[.int .i64 a0_0, .slice A0_1 l0_1.length c0_1, .bool a0_2] 30 (0, 0)) (by (with_reducible repeat (first | refine zN ?_ _ | refine zD ?_ | refine zA ?_ _)); exact BK320.out) hb)
         have n2_ := zK (below_step (by repeat (first | (with_reducible first | exact HB.out | apply yA | apply yN | apply yD | refine yS ?_ GE320.out) | exact HB.out)) hb)
         clear HO_321001
         clear BK320
         clear HB
         have HO_321001 := n0_
         have BK320 := n1_
         have HB := n2_
         clear n0_ n1_ n2_
         (try clear hb)
         (try clear hb2)
         (try clear hk)
         (try clear hi)
         refine hK.out _ _ ⟨(blk_cell BK320.out 0).trans rfl, (blk_cell BK320.out 1).trans rfl, (blk_cell BK320.out 2).trans rfl⟩ (fun hHeld => ?_)
         clear hK K
         refine norm_ (a' := ?_) ?_ ?_
         rotate_left
         ·show Act.put _ (some 60) _ = _
          simp only [Act.put, List.setIfInBounds_toArray, List.set_cons_zero, List.set_cons_succ, i64_w, i32_w]
          rfl
         refine pure_ (i := 30) (N := some 61) (v := ?_) (a' := ?_) #[true, true, true, true, true, true, true, true, true, true, true, true, true, true, true, true, true, true, true, true, true, true, true, true, true, true, true, true, true, true, true, false] rfl rfl (any_of HT_.out (by kernel_rfl)) (fun _ _ _ h => h) (Or.inl ⟨by rfl, ?_⟩) ?_ ?_
         rotate_left
         ·intro w'
          go_simp
          with_reducible rfl
         rotate_left
         ·simp only [Act.put, List.setIfInBounds_toArray, List.set_cons_zero, List.set_cons_succ, i64_w, i32_w]
          rfl
         refine pure_ (i := 31) (N := some 4) (v := ?_) (a' := ?_) #[true, true, true, true, true, true, true, true, true, true, true, true, true, true, true, true, true, true, true, true, true, true, true, true, true, true, true, true, true, true, true, true] rfl rfl (any_of HT_.out (by kernel_rfl)) (fun _ _ _ h => h) (Or.inl ⟨by rfl, ?_⟩) ?_ ?_
         rotate_left
         ·intro w'
          go_simp
          with_reducible rfl
         rotate_left
         ·simp only [Act.put, List.setIfInBounds_toArray, List.set_cons_zero, List.set_cons_succ, i64_w, i32_w]
          rfl
         refine done_ (done_of HT_.out (by kernel_rfl)) ?_
         try go_wp2
         go_ret
         exact ⟨by first | rfl | (simp [errW_none, errW_some] <;> rfl) | (simp [*, errW_none, errW_some] <;> rfl), by repeat (first | (with_reducible first | exact HB.out | apply yA | apply yN | apply yD | refine yS ?_ GE320.out) | exact HB.out)⟩
        ·rw [if_neg c30] at H
         have c30b0 : (t334 == t335) = false := by simpa using c30
         (try (have c30b1 : decide (t334 = t335) = false := by simpa using c30))
         (try (have c30b2 : (t334 == t335) = false := by simpa using c30))
         (try (have c30b3 : ¬ (t334 = t335) := by simpa using c30))
         clear c30
         exact absurd H (by simp)
       ·rw [if_neg c27] at H
        have c27b0 : (t332 == t333) = false := by simpa using c27
        (try (have c27b1 : decide (t332 = t333) = false := by simpa using c27))
        (try (have c27b2 : (t332 == t333) = false := by simpa using c27))
        (try (have c27b3 : ¬ (t332 = t333) := by simpa using c27))
        clear c27
        exact absurd H (by simp)
      ·rw [if_neg c24] at H
       have c24b0 : (t331 == x9_7) = false := beq_eq_false_iff_ne.mpr c24
       have c24b1 : (t331 != x9_7) = true := bne_iff_ne.mpr c24
       exact absurd H (by simp)
     ·rw [if_neg c22] at H
      have c22b0 : (t327 == t329) = false := beq_eq_false_iff_ne.mpr c22
      have c22b1 : (t327 != t329) = true := bne_iff_ne.mpr c22
      exact absurd H (by simp)
    ·rw [if_neg c21] at H
     have c21b0 : (t326 == t328) = false := by simpa using c21
     (try (have c21b1 : decide (t326 = t328) = false := by simpa using c21))
     (try (have c21b2 : (t326 == t328) = false := by simpa using c21))
     (try (have c21b3 : ¬ (t326 = t328) := by simpa using c21))
     clear c21
     exact absurd H (by simp)
 ·replace c4 := Bool.eq_false_iff.mpr c4
  subst c4
  have H1 : ((sequiturlaw28_goes.f k).bind fun t325 => (some t325)) = some r := by rw [if_neg (show ¬ (false = true) by decide)] at H; exact H
  clear H
  have H := H1
  clear H1
  replace H := Option.bind_eq_some_iff.mp H
  obtain ⟨t325, A390, H⟩ := H
  replace H : (some t325) = some r := H
  have A39 := zK A390
  clear A390
  obtain rfl := Option.some.inj H
  go_enter Try.func5, Try.ntmps5
  go_wp2_with (first | ((with_reducible refine gate_dst (N := 2) rfl ?_); refine box_event ?hg (N := 2) ?hd (cs := #[.int .i64 a0_0, .slice A0_1 l0_1.length c0_1, .bool a0_2]) (t := 30) ?hr ?_; (case hd => rfl); (case hg => rfl); (case hr => first | (go_simp; done) | (go_simp; rfl)); intro gb320 hg w40 hbox hb; have n0_ := zK (Kd.V_below (Kd.V_elderB (by (with_reducible repeat (first | apply vA | apply vN | apply vD)); exact HO0_1.out) gb320 (Nat.le_of_eq hg.symm)) hb); have n1_ := zK (below_step (by repeat (first | (with_reducible first | exact HB.out | apply yA | apply yN | apply yD) | exact HB.out)) hb); have n2_ := zK (hbox); have n3_ := zK ((by rw [hg]; exact (below_size (by repeat (first | (with_reducible first | exact HB.out | apply yA | apply yN | apply yD) | exact HB.out))) : w.heap.size ≤ gb320)); have n4_ := zK ((by rw [hg]; exact (below_size (by repeat (first | (with_reducible first | exact HB.out | apply yA | apply yN | apply yD) | exact HB.out))) : w.heap.size ≤ gb320)); clear HO0_1; clear HB; have HO0_1 := n0_; have HB := n1_; have BK320 := n2_; have GW320 := n3_; have GE320 := n4_; clear n0_ n1_ n2_ n3_ n4_; clear hb hbox hg; have hcz41_0 : w40.cell? ⟨gb320, 0, none⟩ = some (.int .i64 a0_0) := (blk_cell BK320.out 0).trans rfl; have hcz41_1 : w40.cell? ⟨gb320, 1, none⟩ = some (.slice A0_1 l0_1.length c0_1) := (blk_cell BK320.out 1).trans rfl; have hcz41_2 : w40.cell? ⟨gb320, 2, none⟩ = some (.bool a0_2) := (blk_cell BK320.out 2).trans rfl; have hfz41_0 := blk_frozen BK320.out 0; have hfz41_1 := blk_frozen BK320.out 1; have hfz41_2 := blk_frozen BK320.out 2) | ((with_reducible refine gate_dst (N := 11) rfl ?_); refine Kd.N_lit k30 _ 30 ?hg (N' := 11) ?hd (xs := ([(⟨(⟨a0_0, l0_1⟩ : S28), a0_2⟩ : S30)] : List (S30))) (inner := [.int .i64 a0_0, .slice A0_1 l0_1.length c0_1, .bool a0_2]) (ok := (fun k_ => (P0_1_ k_ ∨ w.heap.size ≤ k_) ∧ k_ ≠ gb320)) (okp := (fun k_ => (P0_1_ k_ ∨ w.heap.size ≤ k_) ∧ k_ ≠ gb320)) ?hr ?hp (fun _ hk => hk) ((show ∀ k_, w40.heap.size ≤ k_ → (fun k_ => (P0_1_ k_ ∨ w.heap.size ≤ k_) ∧ k_ ≠ gb320) k_ from fun k_ hk => ⟨(.inr (Nat.le_trans (below_size (by repeat (first | (with_reducible first | exact HB.out | apply yA | apply yN | apply yD | refine yS ?_ GE320.out) | exact HB.out))) hk)), Kd.freshB (g := gb320) (o := .cells #[.int .i64 a0_0, .slice A0_1 l0_1.length c0_1, .bool a0_2] 30 (0, 0)) (by (with_reducible repeat (first | refine zN ?_ _ | refine zD ?_ | refine zA ?_ _)); exact BK320.out) k_ hk⟩) _ (Nat.le_refl _)) (Below.refl _ _) (Nat.le_refl _) (by simp) ?_; (case hd => rfl); (case hg => rfl); (case hr => first | (go_simp; done) | (go_simp; rfl)); (case hp => exact (Reps.c3 (show Kd.FK k30 _ _ (⟨(⟨a0_0, l0_1⟩ : S28), a0_2⟩ : S30) [.int .i64 a0_0, .slice A0_1 l0_1.length c0_1, .bool a0_2] from (k30_mkF _ _ (⟨(⟨a0_0, l0_1⟩ : S28), a0_2⟩ : S30) (Kd.V_reads' (vM (ok' := (fun k_ => (P0_1_ k_ ∨ w.heap.size ≤ k_) ∧ k_ ≠ gb320)) (HO0_1.out) (fun k_ hk => ⟨hk.1, hk.2⟩))).2.1 (Kd.V_F (vM (ok' := (fun k_ => (P0_1_ k_ ∨ w.heap.size ≤ k_) ∧ k_ ≠ gb320)) (HO0_1.out) (fun k_ hk => ⟨hk.1, hk.2⟩))))) (Reps.none _ _))); intro v322 w42 ho43 hb hg_ hnew_; clear hg_ hnew_; (first | rw [← Ny321.out] at ho43 | (simp only [Int.reduceToNat] at ho43; rw [← Ny321.out] at ho43)); have n0_ := zK (Kd.V_elder' (by (with_reducible repeat (first | apply vA | apply vN | apply vD)); exact HO0_1.out) (Kd.N_base ho43) hb); have n1_ := zK (Kd.N_lower ho43 (below_size (by repeat (first | (with_reducible first | exact HB.out | apply yA | apply yN | apply yD | refine yS ?_ GE320.out) | exact HB.out)))); have n2_ := zK (blk_below (g := gb320) (o := .cells #[.int .i64 a0_0, .slice A0_1 l0_1.length c0_1, .bool a0_2] 30 (0, 0)) (by (with_reducible repeat (first | refine zN ?_ _ | refine zD ?_ | refine zA ?_ _)); exact BK320.out) hb); have n3_ := zK (below_step (by repeat (first | (with_reducible first | exact HB.out | apply yA | apply yN | apply yD | refine yS ?_ GE320.out) | exact HB.out)) hb); clear HO0_1; clear BK320; clear HB; have HO0_1 := n0_; have HO323 := n1_; have BK320 := n2_; have HB := n3_; clear n0_ n1_ n2_ n3_; clear hb ho43; obtain ⟨Ao44, co44, eo44⟩ := Kd.N_slice HO323.out; subst eo44) | ((with_reducible refine zC (f := 9) rfl ?_); refine goesL_ (some 12) rfl rfl Try.func9 (by kernel_rfl) rfl #[.int .i64 1, .slice Ao44 y321.length co44] rfl (by (try simp only [List.map_toArray, List.map_cons, List.map_nil]); first | done | rfl | (simp only [List.length_drop, List.length_take]; rfl)) ?_; (with_reducible refine (sequiturlaw28_Short.calls k 1 _ _ y321 false _ ?side1 ?side2 A3.out).mono ?_); (case side1 => repeat (first | exact (Kd.N_reads' HO323.out).2.2 | (with_reducible refine cA ?_ _) | (with_reducible refine cN ?_ _) | (with_reducible refine cD ?_))); (case side2 => exact (Kd.N_reads' HO323.out).2.1); rintro e w' ⟨rfl, ⟨nd, rfl⟩⟩; refine ⟨_, rfl, ?_⟩) | ((with_reducible refine zC (f := 10) rfl ?_); refine goesL_ (some 14) rfl rfl Try.func10 (by kernel_rfl) rfl #[] rfl (by (try simp only [List.map_toArray, List.map_cons, List.map_nil]); first | done | rfl | (simp only [List.length_drop, List.length_take]; rfl)) ?_; (with_reducible refine (sequiturlaw28_goes.calls k  t325 _ A39.out).mono ?_); rintro e w45 ⟨rfl, hb⟩; refine ⟨_, rfl, ?_⟩; have n0_ := zK (Kd.V_below (by (with_reducible repeat (first | apply vA | apply vN | apply vD)); exact HO0_1.out) hb); have n1_ := zK (Kd.N_below (by (with_reducible repeat (first | apply nA | apply nN | apply nD)); exact HO323.out) hb); have n2_ := zK (blk_below (g := gb320) (o := .cells #[.int .i64 a0_0, .slice A0_1 l0_1.length c0_1, .bool a0_2] 30 (0, 0)) (by (with_reducible repeat (first | refine zN ?_ _ | refine zD ?_ | refine zA ?_ _)); exact BK320.out) hb); have n3_ := zK (below_step (by repeat (first | (with_reducible first | exact HB.out | apply yA | apply yN | apply yD | refine yS ?_ GE320.out) | exact HB.out)) hb); clear HO0_1; clear HO323; clear BK320; clear HB; have HO0_1 := n0_; have HO323 := n1_; have BK320 := n2_; have HB := n3_; clear n0_ n1_ n2_ n3_; (try clear hb); (try clear hb2); (try clear hk); (try clear hi)))
  go_ret
  exact ⟨by first | rfl | (simp [errW_none, errW_some] <;> rfl) | (simp [*, errW_none, errW_some] <;> rfl), by repeat (first | (with_reducible first | exact HB.out | apply yA | apply yN | apply yD | refine yS ?_ GE320.out) | exact HB.out)⟩

end Go.Proofs.Ytmedciidghmkkaa.PIneqHolds
