/- What the call of each function that the law reaches comes to: it answers as the plain function of the same name does, wherever that one answers; and the law itself out of its plain form. Written by a program of this session (an extended copy of the printer); no condition but what stands in each theorem. -/
import Derived.Test.YtmedciidghmkkaaDoorPLinTellsx0
import Derived.Test.YtmedciidghmkkaaDoorPLinTellsx2
import Derived.Test.YtmedciidghmkkaaDoorPLinTellsx4
import Derived.Test.YtmedciidghmkkaaDoorPLinTellsx5
import Derived.Test.YtmedciidghmkkaaDoorPLinTellsx6
import Derived.Test.YtmedciidghmkkaaDoorPLinTellsx7
import Derived.Test.YtmedciidghmkkaaDoorPLinTellsx10
import Derived.Test.YtmedciidghmkkaaDoorPLinTellsx11
import Derived.Test.YtmedciidghmkkaaDoorPLinTellsx12
import Derived.Test.YtmedciidghmkkaaDoorPLinTellsx13
namespace Go.Proofs.YtmedciidghmkkaaDoor.PLinTells
open Go.RowKit Go.Proofs.YtmedciidghmkkaaDoorW.PrintWords Go.Proofs.YtmedciidghmkkaaDoorW.PrintLast Go.Proofs.YtmedciidghmkkaaDoorW.PrintMore
open Go.Proofs.YtmedciidghmkkaaDoorW.PrintWords renaming blk_drewN → zN, blk_drew → zD, blk_alloc → zA, below_alloc → yA, pw_below_drewN → yN, below_drew1 → yD, below_set → yS, gate_callee → zC, gate_guard → zG
open Go.Proofs.YtmedciidghmkkaaDoorW.PrintWords.Kd renaming V_alloc → vA, V_drewN → vN, V_drew → vD, C_alloc → cA, C_drewN → cN, C_drew → cD, V_mono → vM
open Go.Proofs.YtmedciidghmkkaaDoorW.PrintWords.Aside0 renaming mk → zK
attribute [local go_sem] max2_int min2_int max_two min_two max_three min_three max_four min_four   -- for this text's walks alone
set_option linter.unusedVariables false
set_option linter.unusedSimpArgs false

/-! ### sequiturlaw27_LinTells: function 7 -/
mutual
def sequiturlaw27_LinTells.j0 : Nat → List Int → Bool → Int → List (S51) → Int → List (S51) → Option (Bool)
 | 0, _, _, _, _, _, _ => none
 | k + 1, x2, x22, x362000, x362001, x363000, x363001 => if x22 = true then (some true) else ((lin_Eval.f k x362000 x362001 x2).bind fun bt368 => ((sequiturref27_Eval.f k x362000 x362001 x2).bind fun bt370 => (sequiturlaw27_LinTells.l0 k bt368.1 bt368.2 bt370.1 bt370.2 (-1) x362000 x362001 x363000 x363001)))
def sequiturlaw27_LinTells.l0 : Nat → Int → Int → Int → Int → Int → Int → List (S51) → Int → List (S51) → Option (Bool)
 | 0, _, _, _, _, _, _, _, _, _ => none
 | k + 1, x7, x8, x9, x10, x11, x362000, x362001, x363000, x363001 => if x11 < 6 then ((lin_By.f k x362000 x362001 x11).bind fun t372 => ((sequiturref27_By.f k x362000 x362001 x11).bind fun t373 => (if t372 = t373 then (sequiturlaw27_LinTells.l0 k x7 x8 x9 x10 (wrap64 (x11 + 1)) x362000 x362001 x363000 x363001) else (none)))) else (if x7 = x9 then (if x8 = x10 then ((lin_Right.f k x362000 x362001).bind fun t374 => ((sequiturref27_Right.f k x362000 x362001).bind fun t375 => (if t374 = t375 then ((lin_Same.f k x362000 x362001 x363000 x363001).bind fun t376 => ((sequiturbase_Lin.f k x362000 x362001 x363000 x363001).bind fun t377 => (if (t376 == t377) = true then ((lin_Same.f k x363000 x363001 x363000 x363001).bind fun t378 => (if t378 = true then ((lin_Gcd.f k x362000 x362001).bind fun t379 => ((sequiturref27_Gcd.f k x362000 x362001).bind fun t380 => (if t379 = t380 then ((lin_Text.f x362000 x362001).bind fun t381 => ((sequiturref27_Text.f k x362000 x362001).bind fun t382 => (some (t381.toList == t382.toList)))) else (none)))) else (none))) else (none)))) else (none)))) else (none)) else (none))
end
def sequiturlaw27_LinTells.f (k : Nat) (a0_0 : Int) (l0_1 : List (S51)) (a1_0 : Int) (l1_1 : List (S51)) (l2 : List Int) : Option (Bool) := (sequiturlaw27_alive.f k).bind fun t363 => (if t363 = true then ((sequiturref27_Long.f k (([(⟨a0_0, l0_1⟩ : S28), (⟨a1_0, l1_1⟩ : S28)] : List (S28))) 2).bind fun t367 => (if t367 = true then (sequiturlaw27_LinTells.j0 k l2 true a0_0 l0_1 a1_0 l1_1) else (sequiturlaw27_LinTells.j0 k l2 (decide ((l2.length : Int) > 80)) a0_0 l0_1 a1_0 l1_1))) else (none))
theorem sequiturlaw27_LinTells.mono_l : ∀ k, (∀ y0 y1 y2 y3 y4 y5, LeO (sequiturlaw27_LinTells.j0 k y0 y1 y2 y3 y4 y5) (sequiturlaw27_LinTells.j0 (k + 1) y0 y1 y2 y3 y4 y5)) ∧ (∀ y0 y1 y2 y3 y4 y5 y6 y7 y8, LeO (sequiturlaw27_LinTells.l0 k y0 y1 y2 y3 y4 y5 y6 y7 y8) (sequiturlaw27_LinTells.l0 (k + 1) y0 y1 y2 y3 y4 y5 y6 y7 y8))
 | 0 => ⟨fun _ _ _ _ _ _ r h => by simp [sequiturlaw27_LinTells.j0] at h, fun _ _ _ _ _ _ _ _ _ r h => by simp [sequiturlaw27_LinTells.l0] at h⟩
 | k + 1 => by
  obtain ⟨ih0, ih1⟩ := sequiturlaw27_LinTells.mono_l k
  refine ⟨?_, ?_⟩
  ·intro y0 y1 y2 y3 y4 y5
   unfold sequiturlaw27_LinTells.j0
   repeat' first
   | (with_reducible exact ih0 _ _ _ _ _ _)
   | (with_reducible exact ih1 _ _ _ _ _ _ _ _ _)
   | (with_reducible exact lin_By.mono _ _ _ _)
   | (with_reducible exact lin_Eval.mono _ _ _ _)
   | (with_reducible exact lin_Gcd.mono _ _ _)
   | (with_reducible exact lin_Right.mono _ _ _)
   | (with_reducible exact lin_Same.mono _ _ _ _ _)
   | (with_reducible exact sequiturbase_Lin.mono _ _ _ _ _)
   | (with_reducible exact sequiturlaw27_alive.mono _)
   | (with_reducible exact sequiturref27_By.mono _ _ _ _)
   | (with_reducible exact sequiturref27_Eval.mono _ _ _ _)
   | (with_reducible exact sequiturref27_Gcd.mono _ _ _)
   | (with_reducible exact sequiturref27_Long.mono _ _ _)
   | (with_reducible exact sequiturref27_Right.mono _ _ _)
   | (with_reducible exact sequiturref27_Text.mono _ _ _)
   | (with_reducible exact LeO.refl _)
   | (with_reducible exact LeO.none _)
   | (with_reducible refine LeO.ite ?_ ?_)
   | (with_reducible refine LeO.bind ?_ (fun _ => ?_))
   | exact ih0 _ _ _ _ _ _
   | exact ih1 _ _ _ _ _ _ _ _ _
   | exact lin_By.mono _ _ _ _
   | exact lin_Eval.mono _ _ _ _
   | exact lin_Gcd.mono _ _ _
   | exact lin_Right.mono _ _ _
   | exact lin_Same.mono _ _ _ _ _
   | exact sequiturbase_Lin.mono _ _ _ _ _
   | exact sequiturlaw27_alive.mono _
   | exact sequiturref27_By.mono _ _ _ _
   | exact sequiturref27_Eval.mono _ _ _ _
   | exact sequiturref27_Gcd.mono _ _ _
   | exact sequiturref27_Long.mono _ _ _
   | exact sequiturref27_Right.mono _ _ _
   | exact sequiturref27_Text.mono _ _ _
   | exact LeO.none _
   | refine LeO.ite ?_ ?_
   | refine LeO.bind ?_ (fun _ => ?_)
  ·intro y0 y1 y2 y3 y4 y5 y6 y7 y8
   unfold sequiturlaw27_LinTells.l0
   repeat' first
   | (with_reducible exact ih0 _ _ _ _ _ _)
   | (with_reducible exact ih1 _ _ _ _ _ _ _ _ _)
   | (with_reducible exact lin_By.mono _ _ _ _)
   | (with_reducible exact lin_Eval.mono _ _ _ _)
   | (with_reducible exact lin_Gcd.mono _ _ _)
   | (with_reducible exact lin_Right.mono _ _ _)
   | (with_reducible exact lin_Same.mono _ _ _ _ _)
   | (with_reducible exact sequiturbase_Lin.mono _ _ _ _ _)
   | (with_reducible exact sequiturlaw27_alive.mono _)
   | (with_reducible exact sequiturref27_By.mono _ _ _ _)
   | (with_reducible exact sequiturref27_Eval.mono _ _ _ _)
   | (with_reducible exact sequiturref27_Gcd.mono _ _ _)
   | (with_reducible exact sequiturref27_Long.mono _ _ _)
   | (with_reducible exact sequiturref27_Right.mono _ _ _)
   | (with_reducible exact sequiturref27_Text.mono _ _ _)
   | (with_reducible exact LeO.refl _)
   | (with_reducible exact LeO.none _)
   | (with_reducible refine LeO.ite ?_ ?_)
   | (with_reducible refine LeO.bind ?_ (fun _ => ?_))
   | exact ih0 _ _ _ _ _ _
   | exact ih1 _ _ _ _ _ _ _ _ _
   | exact lin_By.mono _ _ _ _
   | exact lin_Eval.mono _ _ _ _
   | exact lin_Gcd.mono _ _ _
   | exact lin_Right.mono _ _ _
   | exact lin_Same.mono _ _ _ _ _
   | exact sequiturbase_Lin.mono _ _ _ _ _
   | exact sequiturlaw27_alive.mono _
   | exact sequiturref27_By.mono _ _ _ _
   | exact sequiturref27_Eval.mono _ _ _ _
   | exact sequiturref27_Gcd.mono _ _ _
   | exact sequiturref27_Long.mono _ _ _
   | exact sequiturref27_Right.mono _ _ _
   | exact sequiturref27_Text.mono _ _ _
   | exact LeO.none _
   | refine LeO.ite ?_ ?_
   | refine LeO.bind ?_ (fun _ => ?_)
theorem sequiturlaw27_LinTells.mono : ∀ a0 a1 a2 a3 a4 k, LeO (sequiturlaw27_LinTells.f k a0 a1 a2 a3 a4) (sequiturlaw27_LinTells.f (k + 1) a0 a1 a2 a3 a4) := by
 intro a0 a1 a2 a3 a4 k
 obtain ⟨ih0, ih1⟩ := sequiturlaw27_LinTells.mono_l k
 unfold sequiturlaw27_LinTells.f
 repeat' first
   | (with_reducible exact ih0 _ _ _ _ _ _)
   | (with_reducible exact ih1 _ _ _ _ _ _ _ _ _)
   | (with_reducible exact lin_By.mono _ _ _ _)
   | (with_reducible exact lin_Eval.mono _ _ _ _)
   | (with_reducible exact lin_Gcd.mono _ _ _)
   | (with_reducible exact lin_Right.mono _ _ _)
   | (with_reducible exact lin_Same.mono _ _ _ _ _)
   | (with_reducible exact sequiturbase_Lin.mono _ _ _ _ _)
   | (with_reducible exact sequiturlaw27_alive.mono _)
   | (with_reducible exact sequiturref27_By.mono _ _ _ _)
   | (with_reducible exact sequiturref27_Eval.mono _ _ _ _)
   | (with_reducible exact sequiturref27_Gcd.mono _ _ _)
   | (with_reducible exact sequiturref27_Long.mono _ _ _)
   | (with_reducible exact sequiturref27_Right.mono _ _ _)
   | (with_reducible exact sequiturref27_Text.mono _ _ _)
   | (with_reducible exact LeO.refl _)
   | (with_reducible exact LeO.none _)
   | (with_reducible refine LeO.ite ?_ ?_)
   | (with_reducible refine LeO.bind ?_ (fun _ => ?_))
   | exact ih0 _ _ _ _ _ _
   | exact ih1 _ _ _ _ _ _ _ _ _
   | exact lin_By.mono _ _ _ _
   | exact lin_Eval.mono _ _ _ _
   | exact lin_Gcd.mono _ _ _
   | exact lin_Right.mono _ _ _
   | exact lin_Same.mono _ _ _ _ _
   | exact sequiturbase_Lin.mono _ _ _ _ _
   | exact sequiturlaw27_alive.mono _
   | exact sequiturref27_By.mono _ _ _ _
   | exact sequiturref27_Eval.mono _ _ _ _
   | exact sequiturref27_Gcd.mono _ _ _
   | exact sequiturref27_Long.mono _ _ _
   | exact sequiturref27_Right.mono _ _ _
   | exact sequiturref27_Text.mono _ _ _
   | exact LeO.none _
   | refine LeO.ite ?_ ?_
   | refine LeO.bind ?_ (fun _ => ?_)
def sequiturlaw27_LinTells.T12 : Bool × List (List Nat × List Nat) := (true, [([], []), ([], []), ([0, 1], [0, 1]), ([2], [2]), ([3], [3]), ([3], [3]), ([4, 5, 3], [3, 4, 5]), ([3, 6], [3, 6]), ([7, 3], [7]), ([8], [8]), ([9, 8, 8], [8, 9]), ([8], [8]), ([11, 10, 8], [8, 11]), ([10, 12, 8], [8, 10, 12]), ([8, 13], [8, 13]), ([14, 12], [14]), ([15], [15]), ([15], [15]), ([16, 17, 15, 15], [15, 16, 17]), ([15], [15]), ([15], [15]), ([19, 20, 18, 15], [15, 19, 20]), ([18, 21, 15], [15, 18, 21]), ([15, 22], [15, 22]), ([23, 21], [23]), ([24], [24]), ([24], [24]), ([25, 26, 24, 24], [24, 25, 26]), ([24, 27], [24, 27]), ([28, 27], [28]), ([29], [29]), ([30, 29, 29], [29, 30]), ([29], [29]), ([32, 31, 29], [29, 32]), ([31, 33, 29], [29, 31, 33]), ([29, 34], [29, 34]), ([35, 33], [35]), ([36], [36]), ([37, 36, 36], [36, 37]), ([36], [36]), ([39, 38, 36], [36, 39]), ([38, 40, 36], [36, 38, 40]), ([36, 41], [36, 41]), ([42, 40, 0, 1, 2, 3, 4, 5, 6, 7, 8, 9, 10, 11, 12, 13, 14, 15, 16, 17, 18, 19, 20, 21, 22, 23, 24, 25, 26, 27, 28, 29, 30, 31, 32, 33, 34, 35, 36, 37, 38, 39, 40, 41, 42], [42])])
def sequiturlaw27_LinTells.B12 : List Nat := [0, 0, 3, 7, 15, 15, 63, 127, 255, 511, 1023, 511, 4095, 8191, 16383, 32767, 65535, 65535, 262143, 65535, 65535, 2097151, 4194303, 8388607, 16777215, 33554431, 33554431, 134217727, 268435455, 536870911, 1073741823, 2147483647, 1073741823, 8589934591, 17179869183, 34359738367, 68719476735, 137438953471, 274877906943, 137438953471, 1099511627775, 2199023255551, 4398046511103, 8796093022207]
theorem sequiturlaw27_LinTells.tab12 : rtab .any (opsOf Tryd.f7 12) = sequiturlaw27_LinTells.T12 := by kernel_rfl
theorem sequiturlaw27_LinTells.bits12 : waitsOk sequiturlaw27_LinTells.T12.2 sequiturlaw27_LinTells.B12 = true := by kernel_rfl
set_option maxHeartbeats 8000000 in
set_option maxRecDepth 100000 in
theorem sequiturlaw27_LinTells.calls (k : Nat) (a0_0 : Int) (P0_1_ : Nat → Prop) (A0_1 : Option Addr) (c0_1 : Nat) (l0_1 : List (S51)) (a1_0 : Int) (P1_1_ : Nat → Prop) (A1_1 : Option Addr) (c1_1 : Nat) (l1_1 : List (S51)) (A2 : Option Addr) (c2 : Nat) (l2 : List Int) (r : Bool) (w : World) [ti_ : Txt.TabI w] (hs0_1 : Kd.V k51 51 w w.heap.size (fun k_ => P0_1_ k_) (.slice A0_1 l0_1.length c0_1) l0_1) (hs1_1 : Kd.V k51 51 w w.heap.size (fun k_ => P1_1_ k_) (.slice A1_1 l1_1.length c1_1) l1_1) (hr2 : Kd.C (Kd.int .i64) w A2 l2.length l2) (hc2 : l2.length ≤ c2) (h : sequiturlaw27_LinTells.f k a0_0 l0_1 a1_0 l1_1 l2 = some r) :
  Calls Tryd.prog 7 #[.agg #[.int .i64 a0_0, .slice A0_1 l0_1.length c0_1], .agg #[.int .i64 a1_0, .slice A1_1 l1_1.length c1_1], .slice A2 l2.length c2] w fun e w' => e = .returned (.bool r) ∧ Below w.heap.size w w' := by
 have hu28 := Tryd.underlying28
 have HO0_1 := zK (show Kd.V k51 51 w w.heap.size (fun k_ => ((P0_1_ k_ ∨ P1_1_ k_) ∨ w.heap.size ≤ k_)) (.slice A0_1 l0_1.length c0_1) l0_1 from vM hs0_1 (fun k_ hk => .inl (.inl hk)))
 have HO1_1 := zK (show Kd.V k51 51 w w.heap.size (fun k_ => ((P0_1_ k_ ∨ P1_1_ k_) ∨ w.heap.size ≤ k_)) (.slice A1_1 l1_1.length c1_1) l1_1 from vM hs1_1 (fun k_ hk => .inl (.inr hk)))
 have HR2 := zK hr2
 have HC2 := zK hc2
 clear hr2 hc2
 have HB := zK (Below.refl w.heap.size w)
 have H : ((sequiturlaw27_alive.f k).bind fun t363 => (if t363 = true then ((sequiturref27_Long.f k (([(⟨a0_0, l0_1⟩ : S28), (⟨a1_0, l1_1⟩ : S28)] : List (S28))) 2).bind fun t367 => (if t367 = true then (sequiturlaw27_LinTells.j0 k l2 true a0_0 l0_1 a1_0 l1_1) else (sequiturlaw27_LinTells.j0 k l2 (decide ((l2.length : Int) > 80)) a0_0 l0_1 a1_0 l1_1))) else (none))) = some r := h
 clear h
 replace H := Option.bind_eq_some_iff.mp H
 obtain ⟨t363, A40, H⟩ := H
 replace H : (if t363 = true then ((sequiturref27_Long.f k (([(⟨a0_0, l0_1⟩ : S28), (⟨a1_0, l1_1⟩ : S28)] : List (S28))) 2).bind fun t367 => (if t367 = true then (sequiturlaw27_LinTells.j0 k l2 true a0_0 l0_1 a1_0 l1_1) else (sequiturlaw27_LinTells.j0 k l2 (decide ((l2.length : Int) > 80)) a0_0 l0_1 a1_0 l1_1))) else (none)) = some r := H
 have A4 := zK A40
 clear A40
 by_cases c5 : t363 = true
 ·subst c5
  have H1 : ((sequiturref27_Long.f k (([(⟨a0_0, l0_1⟩ : S28), (⟨a1_0, l1_1⟩ : S28)] : List (S28))) 2).bind fun t367 => (if t367 = true then (sequiturlaw27_LinTells.j0 k l2 true a0_0 l0_1 a1_0 l1_1) else (sequiturlaw27_LinTells.j0 k l2 (decide ((l2.length : Int) > 80)) a0_0 l0_1 a1_0 l1_1))) = some r := by rw [if_pos rfl] at H; exact H
  clear H
  have H := H1
  clear H1
  have HC6 := zK H
  clear H
  go_enter Tryd.func7, Tryd.ntmps7
  go_upto_region 3 with (first | ((with_reducible refine gate_dst (N := 3) rfl ?_); (try (refine zG (by rfl) ?_; dsimp only)); refine box_event ?hg (N := 3) ?hd (cs := #[.int .i64 a0_0, .slice A0_1 l0_1.length c0_1]) (t := 28) ?hr ?_; (case hd => rfl); (case hg => rfl); (case hr => first | (go_simp; done) | (go_simp; rfl)); intro gb361 hg w7 hbox hb; replace HO0_1 := zK (Kd.V_below (Kd.V_elderB (zv HO0_1) gb361 (Nat.le_of_eq hg.symm)) hb); replace HO1_1 := zK (Kd.V_below (Kd.V_elderB (zv HO1_1) gb361 (Nat.le_of_eq hg.symm)) hb); have BK361 := zK (hbox); have GW361 := zK ((by rw [hg]; exact (below_size (zo HB)) : w.heap.size ≤ gb361)); have GE361 := zK ((by rw [hg]; exact (below_size (zo HB)) : w.heap.size ≤ gb361)); replace HB := zK (below_step (zo HB) hb); clear hb hbox hg) | ((with_reducible refine gate_dst (N := 4) rfl ?_); (try (refine zG (by rfl) ?_; dsimp only)); refine box_event ?hg (N := 4) ?hd (cs := #[.int .i64 a1_0, .slice A1_1 l1_1.length c1_1]) (t := 28) ?hr ?_; (case hd => rfl); (case hg => rfl); (case hr => first | (go_simp; done) | (go_simp; rfl)); intro gb362 hg w8 hbox hb; replace HO0_1 := zK (Kd.V_below (Kd.V_elderB (zv HO0_1) gb362 (Nat.le_of_eq hg.symm)) hb); replace HO1_1 := zK (Kd.V_below (Kd.V_elderB (zv HO1_1) gb362 (Nat.le_of_eq hg.symm)) hb); have BK362 := zK (hbox); have GW362 := zK ((by rw [hg]; exact (below_size (zo HB)) : w.heap.size ≤ gb362)); have GE362 := zK ((by rw [hg]; exact (below_size (zo HB)) : w.heap.size ≤ gb362)); replace HB := zK (below_step (zo HB) hb); have NB361_362 := zK ((by rw [hg]; exact Nat.ne_of_lt (blk_lt (g := gb361) (o := .cells #[.int .i64 a0_0, .slice A0_1 l0_1.length c0_1] 28 (0, 0)) (zb BK361)) : gb361 ≠ gb362)); have NB362_361 := zK ((by rw [hg]; exact Nat.ne_of_gt (blk_lt (g := gb361) (o := .cells #[.int .i64 a0_0, .slice A0_1 l0_1.length c0_1] 28 (0, 0)) (zb BK361)) : gb362 ≠ gb361)); replace BK361 := zK (blk_below (g := gb361) (o := .cells #[.int .i64 a0_0, .slice A0_1 l0_1.length c0_1] 28 (0, 0)) (zb BK361) hb); clear hb hbox hg) | ((with_reducible refine zC (f := 8) rfl ?_); refine goesL_ (some 12) rfl rfl Tryd.func8 (by kernel_rfl) rfl #[] rfl (by (try simp only [List.map_toArray, List.map_cons, List.map_nil]); first | done | rfl | (simp only [List.length_drop, List.length_take]; rfl)) ?_; (with_reducible refine (sequiturlaw27_alive.calls (ti_ := ⟨Txt.Tab.below ti_.out (zo HB)⟩) k  true _ A4.out).mono ?_); rintro e w9 ⟨rfl, hb⟩; refine ⟨_, rfl, ?_⟩; replace HO0_1 := zK (Kd.V_below (zv HO0_1) hb); replace HO1_1 := zK (Kd.V_below (zv HO1_1) hb); replace BK361 := zK (blk_below (g := gb361) (o := .cells #[.int .i64 a0_0, .slice A0_1 l0_1.length c0_1] 28 (0, 0)) (zb BK361) hb); replace BK362 := zK (blk_below (g := gb362) (o := .cells #[.int .i64 a1_0, .slice A1_1 l1_1.length c1_1] 28 (0, 0)) (zb BK362) hb); replace HB := zK (below_step (zo HB) hb); (try clear hb); (try clear hb2); (try clear hk); (try clear hi)))
  (try simp only [Act.put, List.setIfInBounds_toArray, List.set_cons_zero, List.set_cons_succ])
  go_cut [22] (fun v22 wc => ∃ (kq : Nat) (x22_5 : Bool), v22 = .bool x22_5 ∧ Aside0 (sequiturlaw27_LinTells.j0 kq l2 x22_5 a0_0 l0_1 a1_0 l1_1 = some r) ∧ Aside0 (kq ≤ k) ∧ Aside0 (Kd.V k51 51 wc w.heap.size (fun k_ => ((P0_1_ k_ ∨ P1_1_ k_) ∨ w.heap.size ≤ k_) ∧ k_ ≠ gb361 ∧ k_ ≠ gb362) (.slice A0_1 l0_1.length c0_1) l0_1) ∧ Aside0 (Kd.V k51 51 wc w.heap.size (fun k_ => ((P0_1_ k_ ∨ P1_1_ k_) ∨ w.heap.size ≤ k_) ∧ k_ ≠ gb361 ∧ k_ ≠ gb362) (.slice A1_1 l1_1.length c1_1) l1_1) ∧ Aside0 (wc.heap[gb361]? = some (.cells #[.int .i64 a0_0, (.slice A0_1 l0_1.length c0_1)] 28 (0, 0))) ∧ Aside0 (wc.heap[gb362]? = some (.cells #[.int .i64 a1_0, (.slice A1_1 l1_1.length c1_1)] 28 (0, 0))) ∧ Aside0 (Below w.heap.size w wc))
  case first =>
   have H := HC6.out
   clear HC6
   obtain ⟨y364, hy364⟩ : ∃ y_ : List (S28), y_ = (([(⟨a0_0, l0_1⟩ : S28), (⟨a1_0, l1_1⟩ : S28)] : List (S28))) := ⟨_, rfl⟩
   replace H : ((sequiturref27_Long.f k y364 2).bind fun t367 => (if t367 = true then (sequiturlaw27_LinTells.j0 k l2 true a0_0 l0_1 a1_0 l1_1) else (sequiturlaw27_LinTells.j0 k l2 (decide ((l2.length : Int) > 80)) a0_0 l0_1 a1_0 l1_1))) = some r := by first | (rw [hy364]; with_reducible exact H) | (have H2_ := (Option.bind_some _ _).symm.trans H; rw [hy364]; with_reducible exact H2_) | (have H2_ := (Option.bind_some _ _).symm.trans H; with_reducible exact H2_) | with_reducible exact H | (rw [hy364]; exact H) | exact H
   have Ny364 := zK hy364
   clear hy364
   replace H := Option.bind_eq_some_iff.mp H
   obtain ⟨t367, A100, H⟩ := H
   replace H : (if t367 = true then (sequiturlaw27_LinTells.j0 k l2 true a0_0 l0_1 a1_0 l1_1) else (sequiturlaw27_LinTells.j0 k l2 (decide ((l2.length : Int) > 80)) a0_0 l0_1 a1_0 l1_1)) = some r := H
   have A10 := zK A100
   clear A100
   by_cases c11 : t367 = true
   ·subst c11
    have H1 : (sequiturlaw27_LinTells.j0 k l2 true a0_0 l0_1 a1_0 l1_1) = some r := by rw [if_pos rfl] at H; exact H
    clear H
    have H := H1
    clear H1
    have H' := zK H
    clear H
    have hnb12 := NB361_362.out
    have hnc12 := NB362_361.out
    have hcz13_0 : w9.cell? ⟨gb361, 0, none⟩ = some (.int .i64 a0_0) := (blk_cell BK361.out 0).trans rfl
    have hcz13_1 : w9.cell? ⟨gb361, 1, none⟩ = some (.slice A0_1 l0_1.length c0_1) := (blk_cell BK361.out 1).trans rfl
    have hfz13_0 := blk_frozen BK361.out 0
    have hfz13_1 := blk_frozen BK361.out 1
    have hcz14_0 : w9.cell? ⟨gb362, 0, none⟩ = some (.int .i64 a1_0) := (blk_cell BK362.out 0).trans rfl
    have hcz14_1 : w9.cell? ⟨gb362, 1, none⟩ = some (.slice A1_1 l1_1.length c1_1) := (blk_cell BK362.out 1).trans rfl
    have hfz14_0 := blk_frozen BK362.out 0
    have hfz14_1 := blk_frozen BK362.out 1
    go_wp2_with (first | ((with_reducible refine gate_dst (N := 16) rfl ?_); (try (refine zG (by rfl) ?_; dsimp only)); refine Kd.N_lit k28 _ 28 ?hg (N' := 16) ?hd (xs := ([(⟨a0_0, l0_1⟩ : S28), (⟨a1_0, l1_1⟩ : S28)] : List (S28))) (inner := [.int .i64 a0_0, .slice A0_1 l0_1.length c0_1, .int .i64 a1_0, .slice A1_1 l1_1.length c1_1]) (ok := (fun k_ => ((P0_1_ k_ ∨ P1_1_ k_) ∨ w.heap.size ≤ k_) ∧ k_ ≠ gb361 ∧ k_ ≠ gb362)) (okp := (fun k_ => ((P0_1_ k_ ∨ P1_1_ k_) ∨ w.heap.size ≤ k_) ∧ k_ ≠ gb361 ∧ k_ ≠ gb362)) ?hr ?hp (fun _ hk => hk) ((show ∀ k_, w9.heap.size ≤ k_ → (fun k_ => ((P0_1_ k_ ∨ P1_1_ k_) ∨ w.heap.size ≤ k_) ∧ k_ ≠ gb361 ∧ k_ ≠ gb362) k_ from fun k_ hk => ⟨(.inr (Nat.le_trans (below_size (zo HB)) hk)), Kd.freshB (g := gb361) (o := .cells #[.int .i64 a0_0, .slice A0_1 l0_1.length c0_1] 28 (0, 0)) (zb BK361) k_ hk, Kd.freshB (g := gb362) (o := .cells #[.int .i64 a1_0, .slice A1_1 l1_1.length c1_1] 28 (0, 0)) (zb BK362) k_ hk⟩) _ (Nat.le_refl _)) (Below.refl _ _) (Nat.le_refl _) (by simp) ?_; (case hd => rfl); (case hg => rfl); (case hr => first | (go_simp; done) | (go_simp; rfl)); (case hp => exact (Reps.c2 (show Kd.FK k28 _ _ (⟨a0_0, l0_1⟩ : S28) [.int .i64 a0_0, .slice A0_1 l0_1.length c0_1] from (k28_mkF _ _ (⟨a0_0, l0_1⟩ : S28) (Kd.V_reads' (vM (ok' := (fun k_ => ((P0_1_ k_ ∨ P1_1_ k_) ∨ w.heap.size ≤ k_) ∧ k_ ≠ gb361 ∧ k_ ≠ gb362)) (HO0_1.out) (fun k_ hk => ⟨hk.1.1, ⟨hk.1.2, hk.2⟩⟩))).2.1 (Kd.V_F (vM (ok' := (fun k_ => ((P0_1_ k_ ∨ P1_1_ k_) ∨ w.heap.size ≤ k_) ∧ k_ ≠ gb361 ∧ k_ ≠ gb362)) (HO0_1.out) (fun k_ hk => ⟨hk.1.1, ⟨hk.1.2, hk.2⟩⟩))))) (Reps.c2 (show Kd.FK k28 _ _ (⟨a1_0, l1_1⟩ : S28) [.int .i64 a1_0, .slice A1_1 l1_1.length c1_1] from (k28_mkF _ _ (⟨a1_0, l1_1⟩ : S28) (Kd.V_reads' (vM (ok' := (fun k_ => ((P0_1_ k_ ∨ P1_1_ k_) ∨ w.heap.size ≤ k_) ∧ k_ ≠ gb361 ∧ k_ ≠ gb362)) (HO1_1.out) (fun k_ hk => ⟨hk.1.1, ⟨hk.1.2, hk.2⟩⟩))).2.1 (Kd.V_F (vM (ok' := (fun k_ => ((P0_1_ k_ ∨ P1_1_ k_) ∨ w.heap.size ≤ k_) ∧ k_ ≠ gb361 ∧ k_ ≠ gb362)) (HO1_1.out) (fun k_ hk => ⟨hk.1.1, ⟨hk.1.2, hk.2⟩⟩))))) (Reps.none _ _)))); intro v365 w15 ho16 hb hg_ hnew_; clear hg_ hnew_; (first | rw [← Ny364.out] at ho16 | (simp only [Int.reduceToNat] at ho16; rw [← Ny364.out] at ho16)); replace HO0_1 := zK (Kd.V_elder' (zv HO0_1) (Kd.N_base ho16) hb); replace HO1_1 := zK (Kd.V_elder' (zv HO1_1) (Kd.N_base ho16) hb); have HO366 := zK (Kd.N_lower ho16 (below_size (zo HB))); replace BK361 := zK (blk_below (g := gb361) (o := .cells #[.int .i64 a0_0, .slice A0_1 l0_1.length c0_1] 28 (0, 0)) (zb BK361) hb); replace BK362 := zK (blk_below (g := gb362) (o := .cells #[.int .i64 a1_0, .slice A1_1 l1_1.length c1_1] 28 (0, 0)) (zb BK362) hb); replace HB := zK (below_step (zo HB) hb); clear hb ho16; obtain ⟨Ao17, co17, eo17⟩ := Kd.N_slice HO366.out; subst eo17) | ((with_reducible refine zC (f := 9) rfl ?_); refine goesL_ (some 17) rfl rfl Tryd.func9 (by kernel_rfl) rfl #[.slice Ao17 y364.length co17, .int .i64 2] rfl (by (try simp only [List.map_toArray, List.map_cons, List.map_nil]); first | done | rfl | (simp only [List.length_drop, List.length_take]; rfl)) ?_; (with_reducible refine (sequiturref27_Long.calls k _ _ y364 2 true _ ?side1 ?side2 A10.out).mono ?_); (case side1 => repeat (first | exact (Kd.N_reads' HO366.out).2.2 | (with_reducible refine cA ?_ _) | (with_reducible refine cN ?_ _) | (with_reducible refine cD ?_))); (case side2 => exact (Kd.N_reads' HO366.out).2.1); rintro e w' ⟨rfl, ⟨nd, rfl⟩⟩; refine ⟨_, rfl, ?_⟩))
    go_meet
    case rel => exact ⟨_, (true), (by first | rfl | (simp; done) | (simp [*]; done)), H', ⟨by first | omega | exact Nat.le_refl _⟩, ⟨by (with_reducible repeat (first | apply vA | apply vN | apply vD)); exact vM HO0_1.out (fun _ hk => ⟨hk.1.1.1, ⟨hk.1.1.2, hk.1.2⟩⟩)⟩, ⟨by (with_reducible repeat (first | apply vA | apply vN | apply vD)); exact vM HO1_1.out (fun _ hk => ⟨hk.1.1.1, ⟨hk.1.1.2, hk.1.2⟩⟩)⟩, ⟨zb BK361⟩, ⟨zb BK362⟩, ⟨zo HB⟩⟩
   ·replace c11 := Bool.eq_false_iff.mpr c11
    subst c11
    have H1 : (sequiturlaw27_LinTells.j0 k l2 (decide ((l2.length : Int) > 80)) a0_0 l0_1 a1_0 l1_1) = some r := by rw [if_neg (show ¬ (false = true) by decide)] at H; exact H
    clear H
    have H := H1
    clear H1
    have H' := zK H
    clear H
    have hnb18 := NB361_362.out
    have hnc18 := NB362_361.out
    have hcz19_0 : w9.cell? ⟨gb361, 0, none⟩ = some (.int .i64 a0_0) := (blk_cell BK361.out 0).trans rfl
    have hcz19_1 : w9.cell? ⟨gb361, 1, none⟩ = some (.slice A0_1 l0_1.length c0_1) := (blk_cell BK361.out 1).trans rfl
    have hfz19_0 := blk_frozen BK361.out 0
    have hfz19_1 := blk_frozen BK361.out 1
    have hcz20_0 : w9.cell? ⟨gb362, 0, none⟩ = some (.int .i64 a1_0) := (blk_cell BK362.out 0).trans rfl
    have hcz20_1 : w9.cell? ⟨gb362, 1, none⟩ = some (.slice A1_1 l1_1.length c1_1) := (blk_cell BK362.out 1).trans rfl
    have hfz20_0 := blk_frozen BK362.out 0
    have hfz20_1 := blk_frozen BK362.out 1
    go_wp2_with (first | ((with_reducible refine gate_dst (N := 16) rfl ?_); (try (refine zG (by rfl) ?_; dsimp only)); refine Kd.N_lit k28 _ 28 ?hg (N' := 16) ?hd (xs := ([(⟨a0_0, l0_1⟩ : S28), (⟨a1_0, l1_1⟩ : S28)] : List (S28))) (inner := [.int .i64 a0_0, .slice A0_1 l0_1.length c0_1, .int .i64 a1_0, .slice A1_1 l1_1.length c1_1]) (ok := (fun k_ => ((P0_1_ k_ ∨ P1_1_ k_) ∨ w.heap.size ≤ k_) ∧ k_ ≠ gb361 ∧ k_ ≠ gb362)) (okp := (fun k_ => ((P0_1_ k_ ∨ P1_1_ k_) ∨ w.heap.size ≤ k_) ∧ k_ ≠ gb361 ∧ k_ ≠ gb362)) ?hr ?hp (fun _ hk => hk) ((show ∀ k_, w9.heap.size ≤ k_ → (fun k_ => ((P0_1_ k_ ∨ P1_1_ k_) ∨ w.heap.size ≤ k_) ∧ k_ ≠ gb361 ∧ k_ ≠ gb362) k_ from fun k_ hk => ⟨(.inr (Nat.le_trans (below_size (zo HB)) hk)), Kd.freshB (g := gb361) (o := .cells #[.int .i64 a0_0, .slice A0_1 l0_1.length c0_1] 28 (0, 0)) (zb BK361) k_ hk, Kd.freshB (g := gb362) (o := .cells #[.int .i64 a1_0, .slice A1_1 l1_1.length c1_1] 28 (0, 0)) (zb BK362) k_ hk⟩) _ (Nat.le_refl _)) (Below.refl _ _) (Nat.le_refl _) (by simp) ?_; (case hd => rfl); (case hg => rfl); (case hr => first | (go_simp; done) | (go_simp; rfl)); (case hp => exact (Reps.c2 (show Kd.FK k28 _ _ (⟨a0_0, l0_1⟩ : S28) [.int .i64 a0_0, .slice A0_1 l0_1.length c0_1] from (k28_mkF _ _ (⟨a0_0, l0_1⟩ : S28) (Kd.V_reads' (vM (ok' := (fun k_ => ((P0_1_ k_ ∨ P1_1_ k_) ∨ w.heap.size ≤ k_) ∧ k_ ≠ gb361 ∧ k_ ≠ gb362)) (HO0_1.out) (fun k_ hk => ⟨hk.1.1, ⟨hk.1.2, hk.2⟩⟩))).2.1 (Kd.V_F (vM (ok' := (fun k_ => ((P0_1_ k_ ∨ P1_1_ k_) ∨ w.heap.size ≤ k_) ∧ k_ ≠ gb361 ∧ k_ ≠ gb362)) (HO0_1.out) (fun k_ hk => ⟨hk.1.1, ⟨hk.1.2, hk.2⟩⟩))))) (Reps.c2 (show Kd.FK k28 _ _ (⟨a1_0, l1_1⟩ : S28) [.int .i64 a1_0, .slice A1_1 l1_1.length c1_1] from (k28_mkF _ _ (⟨a1_0, l1_1⟩ : S28) (Kd.V_reads' (vM (ok' := (fun k_ => ((P0_1_ k_ ∨ P1_1_ k_) ∨ w.heap.size ≤ k_) ∧ k_ ≠ gb361 ∧ k_ ≠ gb362)) (HO1_1.out) (fun k_ hk => ⟨hk.1.1, ⟨hk.1.2, hk.2⟩⟩))).2.1 (Kd.V_F (vM (ok' := (fun k_ => ((P0_1_ k_ ∨ P1_1_ k_) ∨ w.heap.size ≤ k_) ∧ k_ ≠ gb361 ∧ k_ ≠ gb362)) (HO1_1.out) (fun k_ hk => ⟨hk.1.1, ⟨hk.1.2, hk.2⟩⟩))))) (Reps.none _ _)))); intro v365 w21 ho22 hb hg_ hnew_; clear hg_ hnew_; (first | rw [← Ny364.out] at ho22 | (simp only [Int.reduceToNat] at ho22; rw [← Ny364.out] at ho22)); replace HO0_1 := zK (Kd.V_elder' (zv HO0_1) (Kd.N_base ho22) hb); replace HO1_1 := zK (Kd.V_elder' (zv HO1_1) (Kd.N_base ho22) hb); have HO366 := zK (Kd.N_lower ho22 (below_size (zo HB))); replace BK361 := zK (blk_below (g := gb361) (o := .cells #[.int .i64 a0_0, .slice A0_1 l0_1.length c0_1] 28 (0, 0)) (zb BK361) hb); replace BK362 := zK (blk_below (g := gb362) (o := .cells #[.int .i64 a1_0, .slice A1_1 l1_1.length c1_1] 28 (0, 0)) (zb BK362) hb); replace HB := zK (below_step (zo HB) hb); clear hb ho22; obtain ⟨Ao23, co23, eo23⟩ := Kd.N_slice HO366.out; subst eo23) | ((with_reducible refine zC (f := 9) rfl ?_); refine goesL_ (some 17) rfl rfl Tryd.func9 (by kernel_rfl) rfl #[.slice Ao23 y364.length co23, .int .i64 2] rfl (by (try simp only [List.map_toArray, List.map_cons, List.map_nil]); first | done | rfl | (simp only [List.length_drop, List.length_take]; rfl)) ?_; (with_reducible refine (sequiturref27_Long.calls k _ _ y364 2 false _ ?side1 ?side2 A10.out).mono ?_); (case side1 => repeat (first | exact (Kd.N_reads' HO366.out).2.2 | (with_reducible refine cA ?_ _) | (with_reducible refine cN ?_ _) | (with_reducible refine cD ?_))); (case side2 => exact (Kd.N_reads' HO366.out).2.1); rintro e w' ⟨rfl, ⟨nd, rfl⟩⟩; refine ⟨_, rfl, ?_⟩))
    go_meet
    case rel => exact ⟨_, (decide ((l2.length : Int) > 80)), (by first | rfl | (simp; done) | (simp [*]; done)), H', ⟨by first | omega | exact Nat.le_refl _⟩, ⟨by (with_reducible repeat (first | apply vA | apply vN | apply vD)); exact vM HO0_1.out (fun _ hk => ⟨hk.1.1.1, ⟨hk.1.1.2, hk.1.2⟩⟩)⟩, ⟨by (with_reducible repeat (first | apply vA | apply vN | apply vD)); exact vM HO1_1.out (fun _ hk => ⟨hk.1.1.1, ⟨hk.1.1.2, hk.1.2⟩⟩)⟩, ⟨zb BK361⟩, ⟨zb BK362⟩, ⟨zo HB⟩⟩
  case rest =>
   clear HC6
   try clear c1
   try clear c2
   try clear p2
   try clear c5
   try clear c7
   try clear c8
   try clear c9
   try clear c11
   try clear c12
   try clear c18
   try clear hcz13_0
   try clear hcz13_1
   try clear hcz14_0
   try clear hcz14_1
   try clear hcz19_0
   try clear hcz19_1
   try clear hcz20_0
   try clear hcz20_1
   try clear hfz13_0
   try clear hfz13_1
   try clear hfz14_0
   try clear hfz14_1
   try clear hfz19_0
   try clear hfz19_1
   try clear hfz20_0
   try clear hfz20_1
   obtain ⟨kq, x22_5, rfl, HA, HJ5, HO_362001, HO_363001, BK361, BK362, HB⟩ := hcut
   cases kq with
   | zero => exact absurd HA.out (by simp [sequiturlaw27_LinTells.j0])
   | succ kj5 =>
    have H := HA.out
    clear HA
    simp only [sequiturlaw27_LinTells.j0] at H
    by_cases c24 : x22_5 = true
    ·subst c24
     have H1 : (some true) = some r := by rw [if_pos rfl] at H; exact H
     clear H
     have H := H1
     clear H1
     obtain rfl := Option.some.inj H
     go_wp2
     go_ret
     exact ⟨by first | rfl | (simp [errW_none, errW_some] <;> rfl) | (simp [*, errW_none, errW_some] <;> rfl), zo HB⟩
    ·replace c24 := Bool.eq_false_iff.mpr c24
     subst c24
     have H1 : ((lin_Eval.f kj5 a0_0 l0_1 l2).bind fun bt368 => ((sequiturref27_Eval.f kj5 a0_0 l0_1 l2).bind fun bt370 => (sequiturlaw27_LinTells.l0 kj5 bt368.1 bt368.2 bt370.1 bt370.2 (-1) a0_0 l0_1 a1_0 l1_1))) = some r := by rw [if_neg (show ¬ (false = true) by decide)] at H; exact H
     clear H
     have H := H1
     clear H1
     replace H := Option.bind_eq_some_iff.mp H
     obtain ⟨⟨t368, t369⟩, A250, H⟩ := H
     replace H : ((sequiturref27_Eval.f kj5 a0_0 l0_1 l2).bind fun bt370 => (sequiturlaw27_LinTells.l0 kj5 t368 t369 bt370.1 bt370.2 (-1) a0_0 l0_1 a1_0 l1_1)) = some r := H
     have A25 := zK A250
     clear A250
     replace H := Option.bind_eq_some_iff.mp H
     obtain ⟨⟨t370, t371⟩, A260, H⟩ := H
     replace H : (sequiturlaw27_LinTells.l0 kj5 t368 t369 t370 t371 (-1) a0_0 l0_1 a1_0 l1_1) = some r := H
     have A26 := zK A260
     clear A260
     have H' := zK H
     clear H
     have hnb27 := NB361_362.out
     have hnc27 := NB362_361.out
     have hcz28_0 : wc.cell? ⟨gb361, 0, none⟩ = some (.int .i64 a0_0) := (blk_cell BK361.out 0).trans rfl
     have hcz28_1 : wc.cell? ⟨gb361, 1, none⟩ = some (.slice A0_1 l0_1.length c0_1) := (blk_cell BK361.out 1).trans rfl
     have hfz28_0 := blk_frozen BK361.out 0
     have hfz28_1 := blk_frozen BK361.out 1
     go_wp2_with (first | ((with_reducible refine zC (f := 17) rfl ?_); refine goesL_ (some 26) rfl rfl Tryd.func17 (by kernel_rfl) rfl #[.agg #[.int .i64 a0_0, .slice A0_1 l0_1.length c0_1], .slice A2 l2.length c2] rfl (by (try simp only [List.map_toArray, List.map_cons, List.map_nil]); first | done | rfl | (simp only [List.length_drop, List.length_take]; rfl)) ?_; (with_reducible refine (lin_Eval.calls kj5 a0_0 _ _ l0_1 _ _ l2 t368 t369 _ ?side1 ?side2 ?side3 ?side4 A25.out).mono ?_); (case side1 => repeat (first | exact (Kd.V_reads' HO_362001.out).2.2 | (with_reducible refine cA ?_ _) | (with_reducible refine cN ?_ _) | (with_reducible refine cD ?_))); (case side2 => exact (Kd.V_reads' HO_362001.out).2.1); (case side3 => repeat (first | exact (Kd.C_below HR2.out HB.out) | (with_reducible refine cA ?_ _) | (with_reducible refine cN ?_ _) | (with_reducible refine cD ?_))); (case side4 => exact HC2.out); rintro e w29 ⟨rfl, hb⟩; refine ⟨_, rfl, ?_⟩; replace HO_362001 := zK (Kd.V_below (zv HO_362001) hb); replace HO_363001 := zK (Kd.V_below (zv HO_363001) hb); replace BK361 := zK (blk_below (g := gb361) (o := .cells #[.int .i64 a0_0, .slice A0_1 l0_1.length c0_1] 28 (0, 0)) (zb BK361) hb); replace BK362 := zK (blk_below (g := gb362) (o := .cells #[.int .i64 a1_0, .slice A1_1 l1_1.length c1_1] 28 (0, 0)) (zb BK362) hb); replace HB := zK (below_step (zo HB) hb); (try clear hb); (try clear hb2); (try clear hk); (try clear hi); have hcz30_0 : w29.cell? ⟨gb361, 0, none⟩ = some (.int .i64 a0_0) := (blk_cell BK361.out 0).trans rfl; have hcz30_1 : w29.cell? ⟨gb361, 1, none⟩ = some (.slice A0_1 l0_1.length c0_1) := (blk_cell BK361.out 1).trans rfl; have hfz30_0 := blk_frozen BK361.out 0; have hfz30_1 := blk_frozen BK361.out 1) | ((with_reducible refine zC (f := 19) rfl ?_); refine goesL_ (some 32) rfl rfl Tryd.func19 (by kernel_rfl) rfl #[.agg #[.int .i64 a0_0, .slice A0_1 l0_1.length c0_1], .slice A2 l2.length c2] rfl (by (try simp only [List.map_toArray, List.map_cons, List.map_nil]); first | done | rfl | (simp only [List.length_drop, List.length_take]; rfl)) ?_; (with_reducible refine (sequiturref27_Eval.calls kj5 a0_0 _ _ l0_1 _ _ l2 t370 t371 _ ?side1 ?side2 ?side3 ?side4 A26.out).mono ?_); (case side1 => repeat (first | exact (Kd.V_reads' HO_362001.out).2.2 | (with_reducible refine cA ?_ _) | (with_reducible refine cN ?_ _) | (with_reducible refine cD ?_))); (case side2 => exact (Kd.V_reads' HO_362001.out).2.1); (case side3 => repeat (first | exact (Kd.C_below HR2.out HB.out) | (with_reducible refine cA ?_ _) | (with_reducible refine cN ?_ _) | (with_reducible refine cD ?_))); (case side4 => exact HC2.out); rintro e w31 ⟨rfl, hb⟩; refine ⟨_, rfl, ?_⟩; replace HO_362001 := zK (Kd.V_below (zv HO_362001) hb); replace HO_363001 := zK (Kd.V_below (zv HO_363001) hb); replace BK361 := zK (blk_below (g := gb361) (o := .cells #[.int .i64 a0_0, .slice A0_1 l0_1.length c0_1] 28 (0, 0)) (zb BK361) hb); replace BK362 := zK (blk_below (g := gb362) (o := .cells #[.int .i64 a1_0, .slice A1_1 l1_1.length c1_1] 28 (0, 0)) (zb BK362) hb); replace HB := zK (below_step (zo HB) hb); (try clear hb); (try clear hb2); (try clear hk); (try clear hi)))
     go_loopg [11] kj5 (fun kq v11 w' => ∃ (x11_2 : Int), v11 = .int .i64 x11_2 ∧ Aside0 (sequiturlaw27_LinTells.l0 kq t368 t369 t370 t371 x11_2 a0_0 l0_1 a1_0 l1_1 = some r) ∧ Aside0 (kq ≤ kj5) ∧ Aside0 (Kd.V k51 51 w' w.heap.size (fun k_ => ((P0_1_ k_ ∨ P1_1_ k_) ∨ w.heap.size ≤ k_) ∧ k_ ≠ gb361 ∧ k_ ≠ gb362) (.slice A0_1 l0_1.length c0_1) l0_1) ∧ Aside0 (Kd.V k51 51 w' w.heap.size (fun k_ => ((P0_1_ k_ ∨ P1_1_ k_) ∨ w.heap.size ≤ k_) ∧ k_ ≠ gb361 ∧ k_ ≠ gb362) (.slice A1_1 l1_1.length c1_1) l1_1) ∧ Aside0 (w'.heap[gb361]? = some (.cells #[.int .i64 a0_0, (.slice A0_1 l0_1.length c0_1)] 28 (0, 0))) ∧ Aside0 (w'.heap[gb362]? = some (.cells #[.int .i64 a1_0, (.slice A1_1 l1_1.length c1_1)] 28 (0, 0))) ∧ Aside0 (Below w.heap.size w w'))
     case atStart => exact ⟨((-1)), (by first | rfl | (simp; done) | (simp [*]; done)), H', ⟨Nat.le_refl _⟩, ⟨zv HO_362001⟩, ⟨zv HO_363001⟩, ⟨zb BK361⟩, ⟨zb BK362⟩, ⟨zo HB⟩⟩
     case round =>
      clear H'
      try clear c1
      try clear c2
      try clear p2
      try clear c5
      try clear c7
      try clear c8
      try clear c9
      try clear c11
      try clear c12
      try clear c17
      try clear c18
      try clear c19
      try clear c24
      try clear c27
      try clear hcz13_0
      try clear hcz13_1
      try clear hcz14_0
      try clear hcz14_1
      try clear hcz19_0
      try clear hcz19_1
      try clear hcz20_0
      try clear hcz20_1
      try clear hcz28_0
      try clear hcz28_1
      try clear hcz30_0
      try clear hcz30_1
      try clear hfz13_0
      try clear hfz13_1
      try clear hfz14_0
      try clear hfz14_1
      try clear hfz19_0
      try clear hfz19_1
      try clear hfz20_0
      try clear hfz20_1
      try clear hfz28_0
      try clear hfz28_1
      try clear hfz30_0
      try clear hfz30_1
      try clear p2
      obtain ⟨x11_2, rfl, HA, HK2, HO_362001, HO_363001, BK361, BK362, HB⟩ := hrel
      cases gk with
      | zero => exact absurd HA.out (by simp [sequiturlaw27_LinTells.l0])
      | succ k2 =>
       have H := HA.out
       clear HA
       simp only [sequiturlaw27_LinTells.l0] at H
       by_cases c32 : x11_2 < 6
       ·rw [if_pos c32] at H
        have c32b0 : decide (x11_2 < 6) = true := decide_eq_true c32
        clear c32
        replace H := Option.bind_eq_some_iff.mp H
        obtain ⟨t372, A330, H⟩ := H
        replace H : ((sequiturref27_By.f k2 a0_0 l0_1 x11_2).bind fun t373 => (if t372 = t373 then (sequiturlaw27_LinTells.l0 k2 t368 t369 t370 t371 (wrap64 (x11_2 + 1)) a0_0 l0_1 a1_0 l1_1) else (none))) = some r := H
        have A33 := zK A330
        clear A330
        replace H := Option.bind_eq_some_iff.mp H
        obtain ⟨t373, A340, H⟩ := H
        replace H : (if t372 = t373 then (sequiturlaw27_LinTells.l0 k2 t368 t369 t370 t371 (wrap64 (x11_2 + 1)) a0_0 l0_1 a1_0 l1_1) else (none)) = some r := H
        have A34 := zK A340
        clear A340
        by_cases c35 : t372 = t373
        ·rw [if_pos c35] at H
         have c35b0 : (t372 == t373) = true := beq_iff_eq.mpr c35
         have c35b1 : (t372 != t373) = false := bne_eq_false_iff_eq.mpr c35
         clear c35
         have H' := zK H
         clear H
         try go_wp2
         replace HO_362001 := zK (vD HO_362001.out)
         replace HO_363001 := zK (vD HO_363001.out)
         replace BK361 := zK (zD BK361.out)
         replace BK362 := zK (zD BK362.out)
         replace HB := zK (yD HB.out)
         refine start_ (n := 7) (S := fun w' => w'.cell? ⟨gb361, 0, none⟩ = some (.int .i64 a0_0) ∧ w'.cell? ⟨gb361, 1, none⟩ = some (.slice A0_1 l0_1.length c0_1)) (ds := []) #[false, false, false, false, false, false, false] (by kernel_rfl) rfl rfl ⟨(blk_cell BK361.out 0).trans rfl, (blk_cell BK361.out 1).trans rfl⟩ (fun hHeld => ?_)
         generalize wr.drew = w36 at HO_362001 HO_363001 BK361 BK362 HB hHeld ⊢
         refine pure_ (i := 1) (N := some 40) (v := ?_) (a' := ?_) #[false, true, false, false, false, false, false] rfl rfl (by kernel_rfl) (fun _ _ _ h => h) (Or.inl ⟨by rfl, ?_⟩) ?_ ?_
         rotate_left
         ·intro w'
          go_simp
          with_reducible rfl
         rotate_left
         ·simp only [Act.put, List.setIfInBounds_toArray, List.set_cons_zero, List.set_cons_succ, i64_w, i32_w]
          rfl
         refine pure_ (i := 4) (N := some 43) (v := ?_) (a' := ?_) #[false, true, false, false, true, false, false] rfl rfl (by kernel_rfl) (fun _ _ _ h => h) (Or.inl ⟨by rfl, ?_⟩) ?_ ?_
         rotate_left
         ·intro w'
          go_simp
          with_reducible rfl
         rotate_left
         ·simp only [Act.put, List.setIfInBounds_toArray, List.set_cons_zero, List.set_cons_succ, i64_w, i32_w]
          rfl
         refine take_ (i := 0) (N := some 39) (v := ?_) (a' := ?_) #[true, true, false, false, true, false, false] rfl rfl (by kernel_rfl) (fun _ _ _ h => h) (Or.inl ⟨by rfl, ?_⟩) hHeld ?_ ?_
         rotate_left
         ·rintro w' ⟨s0, s1⟩
          go_simp
          with_reducible rfl
         rotate_left
         ·simp only [Act.put, List.setIfInBounds_toArray, List.set_cons_zero, List.set_cons_succ, i64_w, i32_w]
          rfl
         refine take_ (i := 3) (N := some 42) (v := ?_) (a' := ?_) #[true, true, false, true, true, false, false] rfl rfl (by kernel_rfl) (fun _ _ _ h => h) (Or.inl ⟨by rfl, ?_⟩) hHeld ?_ ?_
         rotate_left
         ·rintro w' ⟨s0, s1⟩
          go_simp
          with_reducible rfl
         rotate_left
         ·simp only [Act.put, List.setIfInBounds_toArray, List.set_cons_zero, List.set_cons_succ, i64_w, i32_w]
          rfl
         refine one_ (i := 2) (N := some 41) #[true, true, true, true, true, false, false] rfl rfl (by kernel_rfl) (by decide) (fun K hK => ?_)
         refine goes_ Tryd.func20 (by kernel_rfl) rfl #[.agg #[.int .i64 a0_0, .slice A0_1 l0_1.length c0_1], .int .i64 x11_2] (by rfl) rfl rfl (by (try simp only [List.map_toArray, List.map_cons, List.map_nil]); first | done | rfl | (simp only [List.length_drop, List.length_take]; rfl)) ?_
         with_reducible refine (lin_By.calls k2 a0_0 _ _ l0_1 x11_2 t372 _ ?side1 ?side2 A33.out).mono ?_
         (case side1 => repeat (first | exact (Kd.V_reads' HO_362001.out).2.2 | (with_reducible refine cA ?_ _) | (with_reducible refine cN ?_ _) | (with_reducible refine cD ?_)))
         (case side2 => exact (Kd.V_reads' HO_362001.out).2.1)
         rintro e w37 ⟨rfl, hb⟩
         refine ⟨_, rfl, ?_⟩
         replace HO_362001 := zK (Kd.V_below (zv HO_362001) hb)
         replace HO_363001 := zK (Kd.V_below (zv HO_363001) hb)
         replace BK361 := zK (blk_below (g := gb361) (o := .cells #[.int .i64 a0_0, .slice A0_1 l0_1.length c0_1] 28 (0, 0)) (zb BK361) hb)
         replace BK362 := zK (blk_below (g := gb362) (o := .cells #[.int .i64 a1_0, .slice A1_1 l1_1.length c1_1] 28 (0, 0)) (zb BK362) hb)
         replace HB := zK (below_step (zo HB) hb)
         (try clear hb)
         (try clear hb2)
         (try clear hk)
         (try clear hi)
         refine hK.out _ _ ⟨(blk_cell BK361.out 0).trans rfl, (blk_cell BK361.out 1).trans rfl⟩ (fun hHeld => ?_)
         clear hK K
         refine norm_ (a' := ?_) ?_ ?_
         rotate_left
         ·show Act.put _ (some 41) _ = _
          simp only [Act.put, List.setIfInBounds_toArray, List.set_cons_zero, List.set_cons_succ, i64_w, i32_w]
          rfl
         refine one_ (i := 5) (N := some 44) #[true, true, true, true, true, true, false] rfl rfl (by kernel_rfl) (by decide) (fun K hK => ?_)
         refine goes_ Tryd.func21 (by kernel_rfl) rfl #[.agg #[.int .i64 a0_0, .slice A0_1 l0_1.length c0_1], .int .i64 x11_2] (by rfl) rfl rfl (by (try simp only [List.map_toArray, List.map_cons, List.map_nil]); first | done | rfl | (simp only [List.length_drop, List.length_take]; rfl)) ?_
         with_reducible refine (sequiturref27_By.calls k2 a0_0 _ _ l0_1 x11_2 t373 _ ?side1 ?side2 A34.out).mono ?_
         (case side1 => repeat (first | exact (Kd.V_reads' HO_362001.out).2.2 | (with_reducible refine cA ?_ _) | (with_reducible refine cN ?_ _) | (with_reducible refine cD ?_)))
         (case side2 => exact (Kd.V_reads' HO_362001.out).2.1)
         rintro e w38 ⟨rfl, hb⟩
         refine ⟨_, rfl, ?_⟩
         replace HO_362001 := zK (Kd.V_below (zv HO_362001) hb)
         replace HO_363001 := zK (Kd.V_below (zv HO_363001) hb)
         replace BK361 := zK (blk_below (g := gb361) (o := .cells #[.int .i64 a0_0, .slice A0_1 l0_1.length c0_1] 28 (0, 0)) (zb BK361) hb)
         replace BK362 := zK (blk_below (g := gb362) (o := .cells #[.int .i64 a1_0, .slice A1_1 l1_1.length c1_1] 28 (0, 0)) (zb BK362) hb)
         replace HB := zK (below_step (zo HB) hb)
         (try clear hb)
         (try clear hb2)
         (try clear hk)
         (try clear hi)
         refine hK.out _ _ ⟨(blk_cell BK361.out 0).trans rfl, (blk_cell BK361.out 1).trans rfl⟩ (fun hHeld => ?_)
         clear hK K
         refine norm_ (a' := ?_) ?_ ?_
         rotate_left
         ·show Act.put _ (some 44) _ = _
          simp only [Act.put, List.setIfInBounds_toArray, List.set_cons_zero, List.set_cons_succ, i64_w, i32_w]
          rfl
         refine pure_ (i := 6) (N := some 45) (v := ?_) (a' := ?_) #[true, true, true, true, true, true, true] rfl rfl (by kernel_rfl) (fun _ _ _ h => h) (Or.inl ⟨by rfl, ?_⟩) ?_ ?_
         rotate_left
         ·intro w'
          go_simp
          with_reducible rfl
         rotate_left
         ·simp only [Act.put, List.setIfInBounds_toArray, List.set_cons_zero, List.set_cons_succ, i64_w, i32_w]
          rfl
         refine done_ (by kernel_rfl) ?_
         try go_wp2
         go_roundg k2
         case measure => have := HJ5.out; have := HK2.out; omega
         case rel => exact ⟨(wrap64 (x11_2 + 1)), (by first | rfl | (simp; done) | (simp [*]; done)), H', ⟨by have := HJ5.out; have := HK2.out; omega⟩, ⟨zv HO_362001⟩, ⟨zv HO_363001⟩, ⟨zb BK361⟩, ⟨zb BK362⟩, ⟨zo HB⟩⟩
        ·rw [if_neg c35] at H
         exact absurd H (by simp)
       ·rw [if_neg c32] at H
        have c32b0 : decide (x11_2 < 6) = false := decide_eq_false c32
        clear c32
        by_cases c39 : t368 = t370
        ·rw [if_pos c39] at H
         have c39b0 : (t368 == t370) = true := beq_iff_eq.mpr c39
         have c39b1 : (t368 != t370) = false := bne_eq_false_iff_eq.mpr c39
         clear c39
         by_cases c40 : t369 = t371
         ·rw [if_pos c40] at H
          have c40b0 : (t369 == t371) = true := beq_iff_eq.mpr c40
          have c40b1 : (t369 != t371) = false := bne_eq_false_iff_eq.mpr c40
          clear c40
          replace H := Option.bind_eq_some_iff.mp H
          obtain ⟨t374, A410, H⟩ := H
          replace H : ((sequiturref27_Right.f k2 a0_0 l0_1).bind fun t375 => (if t374 = t375 then ((lin_Same.f k2 a0_0 l0_1 a1_0 l1_1).bind fun t376 => ((sequiturbase_Lin.f k2 a0_0 l0_1 a1_0 l1_1).bind fun t377 => (if (t376 == t377) = true then ((lin_Same.f k2 a1_0 l1_1 a1_0 l1_1).bind fun t378 => (if t378 = true then ((lin_Gcd.f k2 a0_0 l0_1).bind fun t379 => ((sequiturref27_Gcd.f k2 a0_0 l0_1).bind fun t380 => (if t379 = t380 then ((lin_Text.f a0_0 l0_1).bind fun t381 => ((sequiturref27_Text.f k2 a0_0 l0_1).bind fun t382 => (some (t381.toList == t382.toList)))) else (none)))) else (none))) else (none)))) else (none))) = some r := H
          have A41 := zK A410
          clear A410
          replace H := Option.bind_eq_some_iff.mp H
          obtain ⟨t375, A420, H⟩ := H
          replace H : (if t374 = t375 then ((lin_Same.f k2 a0_0 l0_1 a1_0 l1_1).bind fun t376 => ((sequiturbase_Lin.f k2 a0_0 l0_1 a1_0 l1_1).bind fun t377 => (if (t376 == t377) = true then ((lin_Same.f k2 a1_0 l1_1 a1_0 l1_1).bind fun t378 => (if t378 = true then ((lin_Gcd.f k2 a0_0 l0_1).bind fun t379 => ((sequiturref27_Gcd.f k2 a0_0 l0_1).bind fun t380 => (if t379 = t380 then ((lin_Text.f a0_0 l0_1).bind fun t381 => ((sequiturref27_Text.f k2 a0_0 l0_1).bind fun t382 => (some (t381.toList == t382.toList)))) else (none)))) else (none))) else (none)))) else (none)) = some r := H
          have A42 := zK A420
          clear A420
          by_cases c43 : t374 = t375
          ·rw [if_pos c43] at H
           have c43b0 : (t374 == t375) = true := beq_iff_eq.mpr c43
           have c43b1 : (t374 != t375) = false := bne_eq_false_iff_eq.mpr c43
           clear c43
           replace H := Option.bind_eq_some_iff.mp H
           obtain ⟨t376, A440, H⟩ := H
           replace H : ((sequiturbase_Lin.f k2 a0_0 l0_1 a1_0 l1_1).bind fun t377 => (if (t376 == t377) = true then ((lin_Same.f k2 a1_0 l1_1 a1_0 l1_1).bind fun t378 => (if t378 = true then ((lin_Gcd.f k2 a0_0 l0_1).bind fun t379 => ((sequiturref27_Gcd.f k2 a0_0 l0_1).bind fun t380 => (if t379 = t380 then ((lin_Text.f a0_0 l0_1).bind fun t381 => ((sequiturref27_Text.f k2 a0_0 l0_1).bind fun t382 => (some (t381.toList == t382.toList)))) else (none)))) else (none))) else (none))) = some r := H
           have A44 := zK A440
           clear A440
           replace H := Option.bind_eq_some_iff.mp H
           obtain ⟨t377, A450, H⟩ := H
           replace H : (if (t376 == t377) = true then ((lin_Same.f k2 a1_0 l1_1 a1_0 l1_1).bind fun t378 => (if t378 = true then ((lin_Gcd.f k2 a0_0 l0_1).bind fun t379 => ((sequiturref27_Gcd.f k2 a0_0 l0_1).bind fun t380 => (if t379 = t380 then ((lin_Text.f a0_0 l0_1).bind fun t381 => ((sequiturref27_Text.f k2 a0_0 l0_1).bind fun t382 => (some (t381.toList == t382.toList)))) else (none)))) else (none))) else (none)) = some r := H
           have A45 := zK A450
           clear A450
           by_cases c46 : (t376 == t377) = true
           ·rw [if_pos c46] at H
            have c46b0 : (t376 == t377) = true := c46
            (try (have c46b1 : decide (t376 = t377) = true := by simpa using c46))
            (try (have c46b2 : (t376 == t377) = true := by simpa using c46))
            clear c46
            replace H := Option.bind_eq_some_iff.mp H
            obtain ⟨t378, A470, H⟩ := H
            replace H : (if t378 = true then ((lin_Gcd.f k2 a0_0 l0_1).bind fun t379 => ((sequiturref27_Gcd.f k2 a0_0 l0_1).bind fun t380 => (if t379 = t380 then ((lin_Text.f a0_0 l0_1).bind fun t381 => ((sequiturref27_Text.f k2 a0_0 l0_1).bind fun t382 => (some (t381.toList == t382.toList)))) else (none)))) else (none)) = some r := H
            have A47 := zK A470
            clear A470
            by_cases c48 : t378 = true
            ·subst c48
             have H1 : ((lin_Gcd.f k2 a0_0 l0_1).bind fun t379 => ((sequiturref27_Gcd.f k2 a0_0 l0_1).bind fun t380 => (if t379 = t380 then ((lin_Text.f a0_0 l0_1).bind fun t381 => ((sequiturref27_Text.f k2 a0_0 l0_1).bind fun t382 => (some (t381.toList == t382.toList)))) else (none)))) = some r := by rw [if_pos rfl] at H; exact H
             clear H
             have H := H1
             clear H1
             replace H := Option.bind_eq_some_iff.mp H
             obtain ⟨t379, A490, H⟩ := H
             replace H : ((sequiturref27_Gcd.f k2 a0_0 l0_1).bind fun t380 => (if t379 = t380 then ((lin_Text.f a0_0 l0_1).bind fun t381 => ((sequiturref27_Text.f k2 a0_0 l0_1).bind fun t382 => (some (t381.toList == t382.toList)))) else (none))) = some r := H
             have A49 := zK A490
             clear A490
             replace H := Option.bind_eq_some_iff.mp H
             obtain ⟨t380, A500, H⟩ := H
             replace H : (if t379 = t380 then ((lin_Text.f a0_0 l0_1).bind fun t381 => ((sequiturref27_Text.f k2 a0_0 l0_1).bind fun t382 => (some (t381.toList == t382.toList)))) else (none)) = some r := H
             have A50 := zK A500
             clear A500
             by_cases c51 : t379 = t380
             ·rw [if_pos c51] at H
              have c51b0 : (t379 == t380) = true := beq_iff_eq.mpr c51
              have c51b1 : (t379 != t380) = false := bne_eq_false_iff_eq.mpr c51
              clear c51
              replace H := Option.bind_eq_some_iff.mp H
              obtain ⟨t381, A520, H⟩ := H
              replace H : ((sequiturref27_Text.f k2 a0_0 l0_1).bind fun t382 => (some (t381.toList == t382.toList))) = some r := H
              have A52 := zK A520
              clear A520
              replace H := Option.bind_eq_some_iff.mp H
              obtain ⟨t382, A530, H⟩ := H
              replace H : (some (t381.toList == t382.toList)) = some r := H
              have A53 := zK A530
              clear A530
              obtain rfl := Option.some.inj H
              try go_wp2
              replace HO_362001 := zK (vD HO_362001.out)
              replace HO_363001 := zK (vD HO_363001.out)
              replace BK361 := zK (zD BK361.out)
              replace BK362 := zK (zD BK362.out)
              replace HB := zK (yD HB.out)
              refine start_ (n := 44) (S := fun w' => w'.cell? ⟨gb361, 0, none⟩ = some (.int .i64 a0_0) ∧ w'.cell? ⟨gb361, 1, none⟩ = some (.slice A0_1 l0_1.length c0_1) ∧ w'.cell? ⟨gb362, 0, none⟩ = some (.int .i64 a1_0) ∧ w'.cell? ⟨gb362, 1, none⟩ = some (.slice A1_1 l1_1.length c1_1)) (ds := []) #[false, false, false, false, false, false, false, false, false, false, false, false, false, false, false, false, false, false, false, false, false, false, false, false, false, false, false, false, false, false, false, false, false, false, false, false, false, false, false, false, false, false, false, false] (by kernel_rfl) rfl rfl ⟨(blk_cell BK361.out 0).trans rfl, (blk_cell BK361.out 1).trans rfl, (blk_cell BK362.out 0).trans rfl, (blk_cell BK362.out 1).trans rfl⟩ (fun hHeld => ?_); refine with_tabW sequiturlaw27_LinTells.tab12 sequiturlaw27_LinTells.bits12 (fun HT_ HW_ => ?_)
              generalize wr.drew = w54 at HO_362001 HO_363001 BK361 BK362 HB hHeld ⊢
              refine pure_ (i := 0) (N := some 46) (v := ?_) (a' := ?_) #[true, false, false, false, false, false, false, false, false, false, false, false, false, false, false, false, false, false, false, false, false, false, false, false, false, false, false, false, false, false, false, false, false, false, false, false, false, false, false, false, false, false, false, false] rfl rfl (any_of HT_.out (by kernel_rfl)) (fun _ _ _ h => h) (Or.inl ⟨by rfl, ?_⟩) ?_ ?_
              rotate_left
              ·intro w'
               go_simp
               with_reducible rfl
              rotate_left
              ·simp only [Act.put, List.setIfInBounds_toArray, List.set_cons_zero, List.set_cons_succ, i64_w, i32_w]
               rfl
              refine pure_ (i := 1) (N := some 47) (v := ?_) (a' := ?_) #[true, true, false, false, false, false, false, false, false, false, false, false, false, false, false, false, false, false, false, false, false, false, false, false, false, false, false, false, false, false, false, false, false, false, false, false, false, false, false, false, false, false, false, false] rfl rfl (any_of HT_.out (by kernel_rfl)) (fun _ _ _ h => h) (Or.inl ⟨by rfl, ?_⟩) ?_ ?_
              rotate_left
              ·intro w'
               go_simp
               with_reducible rfl
              rotate_left
              ·simp only [Act.put, List.setIfInBounds_toArray, List.set_cons_zero, List.set_cons_succ, i64_w, i32_w]
               rfl
              refine pure_ (i := 2) (N := some 48) (v := ?_) (a' := ?_) #[true, true, true, false, false, false, false, false, false, false, false, false, false, false, false, false, false, false, false, false, false, false, false, false, false, false, false, false, false, false, false, false, false, false, false, false, false, false, false, false, false, false, false, false] rfl rfl (any_of HT_.out (by kernel_rfl)) (fun _ _ _ h => h) (Or.inl ⟨by rfl, ?_⟩) ?_ ?_
              rotate_left
              ·intro w'
               go_simp
               with_reducible rfl
              rotate_left
              ·simp only [Act.put, List.setIfInBounds_toArray, List.set_cons_zero, List.set_cons_succ, i64_w, i32_w]
               rfl
              refine pure_ (i := 3) (N := some 49) (v := ?_) (a' := ?_) #[true, true, true, true, false, false, false, false, false, false, false, false, false, false, false, false, false, false, false, false, false, false, false, false, false, false, false, false, false, false, false, false, false, false, false, false, false, false, false, false, false, false, false, false] rfl rfl (any_of HT_.out (by kernel_rfl)) (fun _ _ _ h => h) (Or.inl ⟨by rfl, ?_⟩) ?_ ?_
              rotate_left
              ·intro w'
               go_simp
               with_reducible rfl
              rotate_left
              ·simp only [Act.put, List.setIfInBounds_toArray, List.set_cons_zero, List.set_cons_succ, i64_w, i32_w]
               rfl
              refine pure_ (i := 4) (N := some 50) (v := ?_) (a' := ?_) #[true, true, true, true, true, false, false, false, false, false, false, false, false, false, false, false, false, false, false, false, false, false, false, false, false, false, false, false, false, false, false, false, false, false, false, false, false, false, false, false, false, false, false, false] rfl rfl (any_of HT_.out (by kernel_rfl)) (fun _ _ _ h => h) (Or.inl ⟨by rfl, ?_⟩) ?_ ?_
              rotate_left
              ·intro w'
               go_simp
               with_reducible rfl
              rotate_left
              ·simp only [Act.put, List.setIfInBounds_toArray, List.set_cons_zero, List.set_cons_succ, i64_w, i32_w]
               rfl
              refine pure_ (i := 5) (N := some 51) (v := ?_) (a' := ?_) #[true, true, true, true, true, true, false, false, false, false, false, false, false, false, false, false, false, false, false, false, false, false, false, false, false, false, false, false, false, false, false, false, false, false, false, false, false, false, false, false, false, false, false, false] rfl rfl (any_of HT_.out (by kernel_rfl)) (fun _ _ _ h => h) (Or.inl ⟨by rfl, ?_⟩) ?_ ?_
              rotate_left
              ·intro w'
               go_simp
               with_reducible rfl
              rotate_left
              ·simp only [Act.put, List.setIfInBounds_toArray, List.set_cons_zero, List.set_cons_succ, i64_w, i32_w]
               rfl
              refine pure_ (i := 6) (N := some 52) (v := ?_) (a' := ?_) #[true, true, true, true, true, true, true, false, false, false, false, false, false, false, false, false, false, false, false, false, false, false, false, false, false, false, false, false, false, false, false, false, false, false, false, false, false, false, false, false, false, false, false, false] rfl rfl (any_of HT_.out (by kernel_rfl)) (fun _ _ _ h => h) (Or.inl ⟨by rfl, ?_⟩) ?_ ?_
              rotate_left
              ·intro w'
               go_simp
               with_reducible rfl
              rotate_left
              ·simp only [Act.put, List.setIfInBounds_toArray, List.set_cons_zero, List.set_cons_succ, i64_w, i32_w]
               rfl
              refine pure_ (i := 7) (N := some 53) (v := ?_) (a' := ?_) #[true, true, true, true, true, true, true, true, false, false, false, false, false, false, false, false, false, false, false, false, false, false, false, false, false, false, false, false, false, false, false, false, false, false, false, false, false, false, false, false, false, false, false, false] rfl rfl (any_of HT_.out (by kernel_rfl)) (fun _ _ _ h => h) (Or.inl ⟨by rfl, ?_⟩) ?_ ?_
              rotate_left
              ·intro w'
               go_simp
               with_reducible rfl
              rotate_left
              ·simp only [Act.put, List.setIfInBounds_toArray, List.set_cons_zero, List.set_cons_succ, i64_w, i32_w]
               rfl
              refine pure_ (i := 8) (N := some 54) (v := ?_) (a' := ?_) #[true, true, true, true, true, true, true, true, true, false, false, false, false, false, false, false, false, false, false, false, false, false, false, false, false, false, false, false, false, false, false, false, false, false, false, false, false, false, false, false, false, false, false, false] rfl rfl (any_of HT_.out (by kernel_rfl)) (fun _ _ _ h => h) (Or.inl ⟨by rfl, ?_⟩) ?_ ?_
              rotate_left
              ·intro w'
               go_simp
               with_reducible rfl
              rotate_left
              ·simp only [Act.put, List.setIfInBounds_toArray, List.set_cons_zero, List.set_cons_succ, i64_w, i32_w]
               rfl
              refine take_ (i := 9) (N := some 55) (v := ?_) (a' := ?_) #[true, true, true, true, true, true, true, true, true, true, false, false, false, false, false, false, false, false, false, false, false, false, false, false, false, false, false, false, false, false, false, false, false, false, false, false, false, false, false, false, false, false, false, false] rfl rfl (take_ofW HT_.out HW_.out (by kernel_rfl)) (fun _ _ _ h => h) (Or.inl ⟨by rfl, ?_⟩) hHeld ?_ ?_
              rotate_left
              ·rintro w' ⟨s0, s1, s2, s3⟩
               go_simp
               with_reducible rfl
              rotate_left
              ·simp only [Act.put, List.setIfInBounds_toArray, List.set_cons_zero, List.set_cons_succ, i64_w, i32_w]
               rfl
              refine take_ (i := 11) (N := some 57) (v := ?_) (a' := ?_) #[true, true, true, true, true, true, true, true, true, true, false, true, false, false, false, false, false, false, false, false, false, false, false, false, false, false, false, false, false, false, false, false, false, false, false, false, false, false, false, false, false, false, false, false] rfl rfl (take_ofW HT_.out HW_.out (by kernel_rfl)) (fun _ _ _ h => h) (Or.inl ⟨by rfl, ?_⟩) hHeld ?_ ?_
              rotate_left
              ·rintro w' ⟨s0, s1, s2, s3⟩
               go_simp
               with_reducible rfl
              rotate_left
              ·simp only [Act.put, List.setIfInBounds_toArray, List.set_cons_zero, List.set_cons_succ, i64_w, i32_w]
               rfl
              refine one_ (i := 10) (N := some 56) #[true, true, true, true, true, true, true, true, true, true, true, true, false, false, false, false, false, false, false, false, false, false, false, false, false, false, false, false, false, false, false, false, false, false, false, false, false, false, false, false, false, false, false, false] rfl rfl (one_of HT_.out (by kernel_rfl)) (by decide) (fun K hK => ?_)
              refine goes_ Tryd.func18 (by kernel_rfl) rfl #[.agg #[.int .i64 a0_0, .slice A0_1 l0_1.length c0_1]] (by rfl) rfl rfl (by (try simp only [List.map_toArray, List.map_cons, List.map_nil]); first | done | rfl | (simp only [List.length_drop, List.length_take]; rfl)) ?_
              with_reducible refine (lin_Right.calls k2 a0_0 _ _ l0_1 t374 _ ?side1 ?side2 A41.out).mono ?_
              (case side1 => repeat (first | exact (Kd.V_reads' HO_362001.out).2.2 | (with_reducible refine cA ?_ _) | (with_reducible refine cN ?_ _) | (with_reducible refine cD ?_)))
              (case side2 => exact (Kd.V_reads' HO_362001.out).2.1)
              rintro e w55 ⟨rfl, hb⟩
              refine ⟨_, rfl, ?_⟩
              replace HO_362001 := zK (Kd.V_below (zv HO_362001) hb)
              replace HO_363001 := zK (Kd.V_below (zv HO_363001) hb)
              replace BK361 := zK (blk_below (g := gb361) (o := .cells #[.int .i64 a0_0, .slice A0_1 l0_1.length c0_1] 28 (0, 0)) (zb BK361) hb)
              replace BK362 := zK (blk_below (g := gb362) (o := .cells #[.int .i64 a1_0, .slice A1_1 l1_1.length c1_1] 28 (0, 0)) (zb BK362) hb)
              replace HB := zK (below_step (zo HB) hb)
              (try clear hb)
              (try clear hb2)
              (try clear hk)
              (try clear hi)
              refine hK.out _ _ ⟨(blk_cell BK361.out 0).trans rfl, (blk_cell BK361.out 1).trans rfl, (blk_cell BK362.out 0).trans rfl, (blk_cell BK362.out 1).trans rfl⟩ (fun hHeld => ?_)
              clear hK K
              refine norm_ (a' := ?_) ?_ ?_
              rotate_left
              ·show Act.put _ (some 56) _ = _
               simp only [Act.put, List.setIfInBounds_toArray, List.set_cons_zero, List.set_cons_succ, i64_w, i32_w]
               rfl
              refine one_ (i := 12) (N := some 58) #[true, true, true, true, true, true, true, true, true, true, true, true, true, false, false, false, false, false, false, false, false, false, false, false, false, false, false, false, false, false, false, false, false, false, false, false, false, false, false, false, false, false, false, false] rfl rfl (one_of HT_.out (by kernel_rfl)) (by decide) (fun K hK => ?_)
              refine goes_ Tryd.func22 (by kernel_rfl) rfl #[.agg #[.int .i64 a0_0, .slice A0_1 l0_1.length c0_1]] (by rfl) rfl rfl (by (try simp only [List.map_toArray, List.map_cons, List.map_nil]); first | done | rfl | (simp only [List.length_drop, List.length_take]; rfl)) ?_
              with_reducible refine (sequiturref27_Right.calls k2 a0_0 _ _ l0_1 t375 _ ?side1 ?side2 A42.out).mono ?_
              (case side1 => repeat (first | exact (Kd.V_reads' HO_362001.out).2.2 | (with_reducible refine cA ?_ _) | (with_reducible refine cN ?_ _) | (with_reducible refine cD ?_)))
              (case side2 => exact (Kd.V_reads' HO_362001.out).2.1)
              rintro e w56 ⟨rfl, hb⟩
              refine ⟨_, rfl, ?_⟩
              replace HO_362001 := zK (Kd.V_below (zv HO_362001) hb)
              replace HO_363001 := zK (Kd.V_below (zv HO_363001) hb)
              replace BK361 := zK (blk_below (g := gb361) (o := .cells #[.int .i64 a0_0, .slice A0_1 l0_1.length c0_1] 28 (0, 0)) (zb BK361) hb)
              replace BK362 := zK (blk_below (g := gb362) (o := .cells #[.int .i64 a1_0, .slice A1_1 l1_1.length c1_1] 28 (0, 0)) (zb BK362) hb)
              replace HB := zK (below_step (zo HB) hb)
              (try clear hb)
              (try clear hb2)
              (try clear hk)
              (try clear hi)
              refine hK.out _ _ ⟨(blk_cell BK361.out 0).trans rfl, (blk_cell BK361.out 1).trans rfl, (blk_cell BK362.out 0).trans rfl, (blk_cell BK362.out 1).trans rfl⟩ (fun hHeld => ?_)
              clear hK K
              refine norm_ (a' := ?_) ?_ ?_
              rotate_left
              ·show Act.put _ (some 58) _ = _
               simp only [Act.put, List.setIfInBounds_toArray, List.set_cons_zero, List.set_cons_succ, i64_w, i32_w]
               rfl
              refine pure_ (i := 13) (N := some 59) (v := ?_) (a' := ?_) #[true, true, true, true, true, true, true, true, true, true, true, true, true, true, false, false, false, false, false, false, false, false, false, false, false, false, false, false, false, false, false, false, false, false, false, false, false, false, false, false, false, false, false, false] rfl rfl (any_of HT_.out (by kernel_rfl)) (fun _ _ _ h => h) (Or.inl ⟨by rfl, ?_⟩) ?_ ?_
              rotate_left
              ·intro w'
               go_simp
               with_reducible rfl
              rotate_left
              ·simp only [Act.put, List.setIfInBounds_toArray, List.set_cons_zero, List.set_cons_succ, i64_w, i32_w]
               rfl
              refine pure_ (i := 14) (N := some 60) (v := ?_) (a' := ?_) #[true, true, true, true, true, true, true, true, true, true, true, true, true, true, true, false, false, false, false, false, false, false, false, false, false, false, false, false, false, false, false, false, false, false, false, false, false, false, false, false, false, false, false, false] rfl rfl (any_of HT_.out (by kernel_rfl)) (fun _ _ _ h => h) (Or.inl ⟨by rfl, ?_⟩) ?_ ?_
              rotate_left
              ·intro w'
               go_simp
               with_reducible rfl
              rotate_left
              ·simp only [Act.put, List.setIfInBounds_toArray, List.set_cons_zero, List.set_cons_succ, i64_w, i32_w]
               rfl
              refine pure_ (i := 15) (N := some 61) (v := ?_) (a' := ?_) #[true, true, true, true, true, true, true, true, true, true, true, true, true, true, true, true, false, false, false, false, false, false, false, false, false, false, false, false, false, false, false, false, false, false, false, false, false, false, false, false, false, false, false, false] rfl rfl (any_of HT_.out (by kernel_rfl)) (fun _ _ _ h => h) (Or.inl ⟨by rfl, ?_⟩) ?_ ?_
              rotate_left
              ·intro w'
               go_simp
               with_reducible rfl
              rotate_left
              ·simp only [Act.put, List.setIfInBounds_toArray, List.set_cons_zero, List.set_cons_succ, i64_w, i32_w]
               rfl
              refine take_ (i := 16) (N := some 62) (v := ?_) (a' := ?_) #[true, true, true, true, true, true, true, true, true, true, true, true, true, true, true, true, true, false, false, false, false, false, false, false, false, false, false, false, false, false, false, false, false, false, false, false, false, false, false, false, false, false, false, false] rfl rfl (take_ofW HT_.out HW_.out (by kernel_rfl)) (fun _ _ _ h => h) (Or.inl ⟨by rfl, ?_⟩) hHeld ?_ ?_
              rotate_left
              ·rintro w' ⟨s0, s1, s2, s3⟩
               go_simp
               with_reducible rfl
              rotate_left
              ·simp only [Act.put, List.setIfInBounds_toArray, List.set_cons_zero, List.set_cons_succ, i64_w, i32_w]
               rfl
              refine take_ (i := 17) (N := some 63) (v := ?_) (a' := ?_) #[true, true, true, true, true, true, true, true, true, true, true, true, true, true, true, true, true, true, false, false, false, false, false, false, false, false, false, false, false, false, false, false, false, false, false, false, false, false, false, false, false, false, false, false] rfl rfl (take_ofW HT_.out HW_.out (by kernel_rfl)) (fun _ _ _ h => h) (Or.inl ⟨by rfl, ?_⟩) hHeld ?_ ?_
              rotate_left
              ·rintro w' ⟨s0, s1, s2, s3⟩
               go_simp
               with_reducible rfl
              rotate_left
              ·simp only [Act.put, List.setIfInBounds_toArray, List.set_cons_zero, List.set_cons_succ, i64_w, i32_w]
               rfl
              refine take_ (i := 19) (N := some 65) (v := ?_) (a' := ?_) #[true, true, true, true, true, true, true, true, true, true, true, true, true, true, true, true, true, true, false, true, false, false, false, false, false, false, false, false, false, false, false, false, false, false, false, false, false, false, false, false, false, false, false, false] rfl rfl (take_ofW HT_.out HW_.out (by kernel_rfl)) (fun _ _ _ h => h) (Or.inl ⟨by rfl, ?_⟩) hHeld ?_ ?_
              rotate_left
              ·rintro w' ⟨s0, s1, s2, s3⟩
               go_simp
               with_reducible rfl
              rotate_left
              ·simp only [Act.put, List.setIfInBounds_toArray, List.set_cons_zero, List.set_cons_succ, i64_w, i32_w]
               rfl
              refine take_ (i := 20) (N := some 66) (v := ?_) (a' := ?_) #[true, true, true, true, true, true, true, true, true, true, true, true, true, true, true, true, true, true, false, true, true, false, false, false, false, false, false, false, false, false, false, false, false, false, false, false, false, false, false, false, false, false, false, false] rfl rfl (take_ofW HT_.out HW_.out (by kernel_rfl)) (fun _ _ _ h => h) (Or.inl ⟨by rfl, ?_⟩) hHeld ?_ ?_
              rotate_left
              ·rintro w' ⟨s0, s1, s2, s3⟩
               go_simp
               with_reducible rfl
              rotate_left
              ·simp only [Act.put, List.setIfInBounds_toArray, List.set_cons_zero, List.set_cons_succ, i64_w, i32_w]
               rfl
              refine one_ (i := 18) (N := some 64) #[true, true, true, true, true, true, true, true, true, true, true, true, true, true, true, true, true, true, true, true, true, false, false, false, false, false, false, false, false, false, false, false, false, false, false, false, false, false, false, false, false, false, false, false] rfl rfl (one_of HT_.out (by kernel_rfl)) (by decide) (fun K hK => ?_)
              refine goes_ Tryd.func23 (by kernel_rfl) rfl #[.agg #[.int .i64 a0_0, .slice A0_1 l0_1.length c0_1], .agg #[.int .i64 a1_0, .slice A1_1 l1_1.length c1_1]] (by rfl) rfl rfl (by (try simp only [List.map_toArray, List.map_cons, List.map_nil]); first | done | rfl | (simp only [List.length_drop, List.length_take]; rfl)) ?_
              with_reducible refine (lin_Same.calls k2 a0_0 _ _ l0_1 a1_0 _ _ l1_1 t376 _ ?side1 ?side2 ?side3 ?side4 A44.out).mono ?_
              (case side1 => repeat (first | exact (Kd.V_reads' HO_362001.out).2.2 | (with_reducible refine cA ?_ _) | (with_reducible refine cN ?_ _) | (with_reducible refine cD ?_)))
              (case side2 => exact (Kd.V_reads' HO_362001.out).2.1)
              (case side3 => repeat (first | exact (Kd.V_reads' HO_363001.out).2.2 | (with_reducible refine cA ?_ _) | (with_reducible refine cN ?_ _) | (with_reducible refine cD ?_)))
              (case side4 => exact (Kd.V_reads' HO_363001.out).2.1)
              rintro e w57 ⟨rfl, hb⟩
              refine ⟨_, rfl, ?_⟩
              replace HO_362001 := zK (Kd.V_below (zv HO_362001) hb)
              replace HO_363001 := zK (Kd.V_below (zv HO_363001) hb)
              replace BK361 := zK (blk_below (g := gb361) (o := .cells #[.int .i64 a0_0, .slice A0_1 l0_1.length c0_1] 28 (0, 0)) (zb BK361) hb)
              replace BK362 := zK (blk_below (g := gb362) (o := .cells #[.int .i64 a1_0, .slice A1_1 l1_1.length c1_1] 28 (0, 0)) (zb BK362) hb)
              replace HB := zK (below_step (zo HB) hb)
              (try clear hb)
              (try clear hb2)
              (try clear hk)
              (try clear hi)
              refine hK.out _ _ ⟨(blk_cell BK361.out 0).trans rfl, (blk_cell BK361.out 1).trans rfl, (blk_cell BK362.out 0).trans rfl, (blk_cell BK362.out 1).trans rfl⟩ (fun hHeld => ?_)
              clear hK K
              refine norm_ (a' := ?_) ?_ ?_
              rotate_left
              ·show Act.put _ (some 64) _ = _
               simp only [Act.put, List.setIfInBounds_toArray, List.set_cons_zero, List.set_cons_succ, i64_w, i32_w]
               rfl
              refine one_ (i := 21) (N := some 67) #[true, true, true, true, true, true, true, true, true, true, true, true, true, true, true, true, true, true, true, true, true, true, false, false, false, false, false, false, false, false, false, false, false, false, false, false, false, false, false, false, false, false, false, false] rfl rfl (one_of HT_.out (by kernel_rfl)) (by decide) (fun K hK => ?_)
              refine goes_ Tryd.func24 (by kernel_rfl) rfl #[.agg #[.int .i64 a0_0, .slice A0_1 l0_1.length c0_1], .agg #[.int .i64 a1_0, .slice A1_1 l1_1.length c1_1]] (by rfl) rfl rfl (by (try simp only [List.map_toArray, List.map_cons, List.map_nil]); first | done | rfl | (simp only [List.length_drop, List.length_take]; rfl)) ?_
              with_reducible refine (sequiturbase_Lin.calls k2 a0_0 _ _ l0_1 a1_0 _ _ l1_1 t377 _ ?side1 ?side2 ?side3 ?side4 A45.out).mono ?_
              (case side1 => repeat (first | exact (Kd.V_reads' HO_362001.out).2.2 | (with_reducible refine cA ?_ _) | (with_reducible refine cN ?_ _) | (with_reducible refine cD ?_)))
              (case side2 => exact (Kd.V_reads' HO_362001.out).2.1)
              (case side3 => repeat (first | exact (Kd.V_reads' HO_363001.out).2.2 | (with_reducible refine cA ?_ _) | (with_reducible refine cN ?_ _) | (with_reducible refine cD ?_)))
              (case side4 => exact (Kd.V_reads' HO_363001.out).2.1)
              rintro e w58 ⟨rfl, hb⟩
              refine ⟨_, rfl, ?_⟩
              replace HO_362001 := zK (Kd.V_below (zv HO_362001) hb)
              replace HO_363001 := zK (Kd.V_below (zv HO_363001) hb)
              replace BK361 := zK (blk_below (g := gb361) (o := .cells #[.int .i64 a0_0, .slice A0_1 l0_1.length c0_1] 28 (0, 0)) (zb BK361) hb)
              replace BK362 := zK (blk_below (g := gb362) (o := .cells #[.int .i64 a1_0, .slice A1_1 l1_1.length c1_1] 28 (0, 0)) (zb BK362) hb)
              replace HB := zK (below_step (zo HB) hb)
              (try clear hb)
              (try clear hb2)
              (try clear hk)
              (try clear hi)
              refine hK.out _ _ ⟨(blk_cell BK361.out 0).trans rfl, (blk_cell BK361.out 1).trans rfl, (blk_cell BK362.out 0).trans rfl, (blk_cell BK362.out 1).trans rfl⟩ (fun hHeld => ?_)
              clear hK K
              refine norm_ (a' := ?_) ?_ ?_
              rotate_left
              ·show Act.put _ (some 67) _ = _
               simp only [Act.put, List.setIfInBounds_toArray, List.set_cons_zero, List.set_cons_succ, i64_w, i32_w]
               rfl
              refine pure_ (i := 22) (N := some 68) (v := ?_) (a' := ?_) #[true, true, true, true, true, true, true, true, true, true, true, true, true, true, true, true, true, true, true, true, true, true, true, false, false, false, false, false, false, false, false, false, false, false, false, false, false, false, false, false, false, false, false, false] rfl rfl (any_of HT_.out (by kernel_rfl)) (fun _ _ _ h => h) (Or.inl ⟨by rfl, ?_⟩) ?_ ?_
              rotate_left
              ·intro w'
               go_simp
               with_reducible rfl
              rotate_left
              ·simp only [Act.put, List.setIfInBounds_toArray, List.set_cons_zero, List.set_cons_succ, i64_w, i32_w]
               rfl
              refine pure_ (i := 23) (N := some 69) (v := ?_) (a' := ?_) #[true, true, true, true, true, true, true, true, true, true, true, true, true, true, true, true, true, true, true, true, true, true, true, true, false, false, false, false, false, false, false, false, false, false, false, false, false, false, false, false, false, false, false, false] rfl rfl (any_of HT_.out (by kernel_rfl)) (fun _ _ _ h => h) (Or.inl ⟨by rfl, ?_⟩) ?_ ?_
              rotate_left
              ·intro w'
               go_simp
               with_reducible rfl
              rotate_left
              ·simp only [Act.put, List.setIfInBounds_toArray, List.set_cons_zero, List.set_cons_succ, i64_w, i32_w]
               rfl
              refine pure_ (i := 24) (N := some 70) (v := ?_) (a' := ?_) #[true, true, true, true, true, true, true, true, true, true, true, true, true, true, true, true, true, true, true, true, true, true, true, true, true, false, false, false, false, false, false, false, false, false, false, false, false, false, false, false, false, false, false, false] rfl rfl (any_of HT_.out (by kernel_rfl)) (fun _ _ _ h => h) (Or.inl ⟨by rfl, ?_⟩) ?_ ?_
              rotate_left
              ·intro w'
               go_simp
               with_reducible rfl
              rotate_left
              ·simp only [Act.put, List.setIfInBounds_toArray, List.set_cons_zero, List.set_cons_succ, i64_w, i32_w]
               rfl
              refine take_ (i := 25) (N := some 71) (v := ?_) (a' := ?_) #[true, true, true, true, true, true, true, true, true, true, true, true, true, true, true, true, true, true, true, true, true, true, true, true, true, true, false, false, false, false, false, false, false, false, false, false, false, false, false, false, false, false, false, false] rfl rfl (take_ofW HT_.out HW_.out (by kernel_rfl)) (fun _ _ _ h => h) (Or.inl ⟨by rfl, ?_⟩) hHeld ?_ ?_
              rotate_left
              ·rintro w' ⟨s0, s1, s2, s3⟩
               go_simp
               with_reducible rfl
              rotate_left
              ·simp only [Act.put, List.setIfInBounds_toArray, List.set_cons_zero, List.set_cons_succ, i64_w, i32_w]
               rfl
              refine take_ (i := 26) (N := some 72) (v := ?_) (a' := ?_) #[true, true, true, true, true, true, true, true, true, true, true, true, true, true, true, true, true, true, true, true, true, true, true, true, true, true, true, false, false, false, false, false, false, false, false, false, false, false, false, false, false, false, false, false] rfl rfl (take_ofW HT_.out HW_.out (by kernel_rfl)) (fun _ _ _ h => h) (Or.inl ⟨by rfl, ?_⟩) hHeld ?_ ?_
              rotate_left
              ·rintro w' ⟨s0, s1, s2, s3⟩
               go_simp
               with_reducible rfl
              rotate_left
              ·simp only [Act.put, List.setIfInBounds_toArray, List.set_cons_zero, List.set_cons_succ, i64_w, i32_w]
               rfl
              refine one_ (i := 27) (N := some 73) #[true, true, true, true, true, true, true, true, true, true, true, true, true, true, true, true, true, true, true, true, true, true, true, true, true, true, true, true, false, false, false, false, false, false, false, false, false, false, false, false, false, false, false, false] rfl rfl (one_of HT_.out (by kernel_rfl)) (by decide) (fun K hK => ?_)
              refine goes_ Tryd.func23 (by kernel_rfl) rfl #[.agg #[.int .i64 a1_0, .slice A1_1 l1_1.length c1_1], .agg #[.int .i64 a1_0, .slice A1_1 l1_1.length c1_1]] (by rfl) rfl rfl (by (try simp only [List.map_toArray, List.map_cons, List.map_nil]); first | done | rfl | (simp only [List.length_drop, List.length_take]; rfl)) ?_
              with_reducible refine (lin_Same.calls k2 a1_0 _ _ l1_1 a1_0 _ _ l1_1 true _ ?side1 ?side2 ?side3 ?side4 A47.out).mono ?_
              (case side1 => repeat (first | exact (Kd.V_reads' HO_363001.out).2.2 | (with_reducible refine cA ?_ _) | (with_reducible refine cN ?_ _) | (with_reducible refine cD ?_)))
              (case side2 => exact (Kd.V_reads' HO_363001.out).2.1)
              (case side3 => repeat (first | exact (Kd.V_reads' HO_363001.out).2.2 | (with_reducible refine cA ?_ _) | (with_reducible refine cN ?_ _) | (with_reducible refine cD ?_)))
              (case side4 => exact (Kd.V_reads' HO_363001.out).2.1)
              rintro e w59 ⟨rfl, hb⟩
              refine ⟨_, rfl, ?_⟩
              replace HO_362001 := zK (Kd.V_below (zv HO_362001) hb)
              replace HO_363001 := zK (Kd.V_below (zv HO_363001) hb)
              replace BK361 := zK (blk_below (g := gb361) (o := .cells #[.int .i64 a0_0, .slice A0_1 l0_1.length c0_1] 28 (0, 0)) (zb BK361) hb)
              replace BK362 := zK (blk_below (g := gb362) (o := .cells #[.int .i64 a1_0, .slice A1_1 l1_1.length c1_1] 28 (0, 0)) (zb BK362) hb)
              replace HB := zK (below_step (zo HB) hb)
              (try clear hb)
              (try clear hb2)
              (try clear hk)
              (try clear hi)
              refine hK.out _ _ ⟨(blk_cell BK361.out 0).trans rfl, (blk_cell BK361.out 1).trans rfl, (blk_cell BK362.out 0).trans rfl, (blk_cell BK362.out 1).trans rfl⟩ (fun hHeld => ?_)
              clear hK K
              refine norm_ (a' := ?_) ?_ ?_
              rotate_left
              ·show Act.put _ (some 73) _ = _
               simp only [Act.put, List.setIfInBounds_toArray, List.set_cons_zero, List.set_cons_succ, i64_w, i32_w]
               rfl
              refine pure_ (i := 28) (N := some 74) (v := ?_) (a' := ?_) #[true, true, true, true, true, true, true, true, true, true, true, true, true, true, true, true, true, true, true, true, true, true, true, true, true, true, true, true, true, false, false, false, false, false, false, false, false, false, false, false, false, false, false, false] rfl rfl (any_of HT_.out (by kernel_rfl)) (fun _ _ _ h => h) (Or.inl ⟨by rfl, ?_⟩) ?_ ?_
              rotate_left
              ·intro w'
               go_simp
               with_reducible rfl
              rotate_left
              ·simp only [Act.put, List.setIfInBounds_toArray, List.set_cons_zero, List.set_cons_succ, i64_w, i32_w]
               rfl
              refine pure_ (i := 29) (N := some 75) (v := ?_) (a' := ?_) #[true, true, true, true, true, true, true, true, true, true, true, true, true, true, true, true, true, true, true, true, true, true, true, true, true, true, true, true, true, true, false, false, false, false, false, false, false, false, false, false, false, false, false, false] rfl rfl (any_of HT_.out (by kernel_rfl)) (fun _ _ _ h => h) (Or.inl ⟨by rfl, ?_⟩) ?_ ?_
              rotate_left
              ·intro w'
               go_simp
               with_reducible rfl
              rotate_left
              ·simp only [Act.put, List.setIfInBounds_toArray, List.set_cons_zero, List.set_cons_succ, i64_w, i32_w]
               rfl
              refine take_ (i := 30) (N := some 76) (v := ?_) (a' := ?_) #[true, true, true, true, true, true, true, true, true, true, true, true, true, true, true, true, true, true, true, true, true, true, true, true, true, true, true, true, true, true, true, false, false, false, false, false, false, false, false, false, false, false, false, false] rfl rfl (take_ofW HT_.out HW_.out (by kernel_rfl)) (fun _ _ _ h => h) (Or.inl ⟨by rfl, ?_⟩) hHeld ?_ ?_
              rotate_left
              ·rintro w' ⟨s0, s1, s2, s3⟩
               go_simp
               with_reducible rfl
              rotate_left
              ·simp only [Act.put, List.setIfInBounds_toArray, List.set_cons_zero, List.set_cons_succ, i64_w, i32_w]
               rfl
              refine take_ (i := 32) (N := some 78) (v := ?_) (a' := ?_) #[true, true, true, true, true, true, true, true, true, true, true, true, true, true, true, true, true, true, true, true, true, true, true, true, true, true, true, true, true, true, true, false, true, false, false, false, false, false, false, false, false, false, false, false] rfl rfl (take_ofW HT_.out HW_.out (by kernel_rfl)) (fun _ _ _ h => h) (Or.inl ⟨by rfl, ?_⟩) hHeld ?_ ?_
              rotate_left
              ·rintro w' ⟨s0, s1, s2, s3⟩
               go_simp
               with_reducible rfl
              rotate_left
              ·simp only [Act.put, List.setIfInBounds_toArray, List.set_cons_zero, List.set_cons_succ, i64_w, i32_w]
               rfl
              refine one_ (i := 31) (N := some 77) #[true, true, true, true, true, true, true, true, true, true, true, true, true, true, true, true, true, true, true, true, true, true, true, true, true, true, true, true, true, true, true, true, true, false, false, false, false, false, false, false, false, false, false, false] rfl rfl (one_of HT_.out (by kernel_rfl)) (by decide) (fun K hK => ?_)
              refine goes_ Tryd.func25 (by kernel_rfl) rfl #[.agg #[.int .i64 a0_0, .slice A0_1 l0_1.length c0_1]] (by rfl) rfl rfl (by (try simp only [List.map_toArray, List.map_cons, List.map_nil]); first | done | rfl | (simp only [List.length_drop, List.length_take]; rfl)) ?_
              with_reducible refine (lin_Gcd.calls k2 a0_0 _ _ l0_1 t379 _ ?side1 ?side2 A49.out).mono ?_
              (case side1 => repeat (first | exact (Kd.V_reads' HO_362001.out).2.2 | (with_reducible refine cA ?_ _) | (with_reducible refine cN ?_ _) | (with_reducible refine cD ?_)))
              (case side2 => exact (Kd.V_reads' HO_362001.out).2.1)
              rintro e w60 ⟨rfl, hb⟩
              refine ⟨_, rfl, ?_⟩
              replace HO_362001 := zK (Kd.V_below (zv HO_362001) hb)
              replace HO_363001 := zK (Kd.V_below (zv HO_363001) hb)
              replace BK361 := zK (blk_below (g := gb361) (o := .cells #[.int .i64 a0_0, .slice A0_1 l0_1.length c0_1] 28 (0, 0)) (zb BK361) hb)
              replace BK362 := zK (blk_below (g := gb362) (o := .cells #[.int .i64 a1_0, .slice A1_1 l1_1.length c1_1] 28 (0, 0)) (zb BK362) hb)
              replace HB := zK (below_step (zo HB) hb)
              (try clear hb)
              (try clear hb2)
              (try clear hk)
              (try clear hi)
              refine hK.out _ _ ⟨(blk_cell BK361.out 0).trans rfl, (blk_cell BK361.out 1).trans rfl, (blk_cell BK362.out 0).trans rfl, (blk_cell BK362.out 1).trans rfl⟩ (fun hHeld => ?_)
              clear hK K
              refine norm_ (a' := ?_) ?_ ?_
              rotate_left
              ·show Act.put _ (some 77) _ = _
               simp only [Act.put, List.setIfInBounds_toArray, List.set_cons_zero, List.set_cons_succ, i64_w, i32_w]
               rfl
              refine one_ (i := 33) (N := some 79) #[true, true, true, true, true, true, true, true, true, true, true, true, true, true, true, true, true, true, true, true, true, true, true, true, true, true, true, true, true, true, true, true, true, true, false, false, false, false, false, false, false, false, false, false] rfl rfl (one_of HT_.out (by kernel_rfl)) (by decide) (fun K hK => ?_)
              refine goes_ Tryd.func26 (by kernel_rfl) rfl #[.agg #[.int .i64 a0_0, .slice A0_1 l0_1.length c0_1]] (by rfl) rfl rfl (by (try simp only [List.map_toArray, List.map_cons, List.map_nil]); first | done | rfl | (simp only [List.length_drop, List.length_take]; rfl)) ?_
              with_reducible refine (sequiturref27_Gcd.calls k2 a0_0 _ _ l0_1 t380 _ ?side1 ?side2 A50.out).mono ?_
              (case side1 => repeat (first | exact (Kd.V_reads' HO_362001.out).2.2 | (with_reducible refine cA ?_ _) | (with_reducible refine cN ?_ _) | (with_reducible refine cD ?_)))
              (case side2 => exact (Kd.V_reads' HO_362001.out).2.1)
              rintro e w61 ⟨rfl, hb⟩
              refine ⟨_, rfl, ?_⟩
              replace HO_362001 := zK (Kd.V_below (zv HO_362001) hb)
              replace HO_363001 := zK (Kd.V_below (zv HO_363001) hb)
              replace BK361 := zK (blk_below (g := gb361) (o := .cells #[.int .i64 a0_0, .slice A0_1 l0_1.length c0_1] 28 (0, 0)) (zb BK361) hb)
              replace BK362 := zK (blk_below (g := gb362) (o := .cells #[.int .i64 a1_0, .slice A1_1 l1_1.length c1_1] 28 (0, 0)) (zb BK362) hb)
              replace HB := zK (below_step (zo HB) hb)
              (try clear hb)
              (try clear hb2)
              (try clear hk)
              (try clear hi)
              refine hK.out _ _ ⟨(blk_cell BK361.out 0).trans rfl, (blk_cell BK361.out 1).trans rfl, (blk_cell BK362.out 0).trans rfl, (blk_cell BK362.out 1).trans rfl⟩ (fun hHeld => ?_)
              clear hK K
              refine norm_ (a' := ?_) ?_ ?_
              rotate_left
              ·show Act.put _ (some 79) _ = _
               simp only [Act.put, List.setIfInBounds_toArray, List.set_cons_zero, List.set_cons_succ, i64_w, i32_w]
               rfl
              refine pure_ (i := 34) (N := some 80) (v := ?_) (a' := ?_) #[true, true, true, true, true, true, true, true, true, true, true, true, true, true, true, true, true, true, true, true, true, true, true, true, true, true, true, true, true, true, true, true, true, true, true, false, false, false, false, false, false, false, false, false] rfl rfl (any_of HT_.out (by kernel_rfl)) (fun _ _ _ h => h) (Or.inl ⟨by rfl, ?_⟩) ?_ ?_
              rotate_left
              ·intro w'
               go_simp
               with_reducible rfl
              rotate_left
              ·simp only [Act.put, List.setIfInBounds_toArray, List.set_cons_zero, List.set_cons_succ, i64_w, i32_w]
               rfl
              refine pure_ (i := 35) (N := some 81) (v := ?_) (a' := ?_) #[true, true, true, true, true, true, true, true, true, true, true, true, true, true, true, true, true, true, true, true, true, true, true, true, true, true, true, true, true, true, true, true, true, true, true, true, false, false, false, false, false, false, false, false] rfl rfl (any_of HT_.out (by kernel_rfl)) (fun _ _ _ h => h) (Or.inl ⟨by rfl, ?_⟩) ?_ ?_
              rotate_left
              ·intro w'
               go_simp
               with_reducible rfl
              rotate_left
              ·simp only [Act.put, List.setIfInBounds_toArray, List.set_cons_zero, List.set_cons_succ, i64_w, i32_w]
               rfl
              refine pure_ (i := 36) (N := some 82) (v := ?_) (a' := ?_) #[true, true, true, true, true, true, true, true, true, true, true, true, true, true, true, true, true, true, true, true, true, true, true, true, true, true, true, true, true, true, true, true, true, true, true, true, true, false, false, false, false, false, false, false] rfl rfl (any_of HT_.out (by kernel_rfl)) (fun _ _ _ h => h) (Or.inl ⟨by rfl, ?_⟩) ?_ ?_
              rotate_left
              ·intro w'
               go_simp
               with_reducible rfl
              rotate_left
              ·simp only [Act.put, List.setIfInBounds_toArray, List.set_cons_zero, List.set_cons_succ, i64_w, i32_w]
               rfl
              refine take_ (i := 37) (N := some 83) (v := ?_) (a' := ?_) #[true, true, true, true, true, true, true, true, true, true, true, true, true, true, true, true, true, true, true, true, true, true, true, true, true, true, true, true, true, true, true, true, true, true, true, true, true, true, false, false, false, false, false, false] rfl rfl (take_ofW HT_.out HW_.out (by kernel_rfl)) (fun _ _ _ h => h) (Or.inl ⟨by rfl, ?_⟩) hHeld ?_ ?_
              rotate_left
              ·rintro w' ⟨s0, s1, s2, s3⟩
               go_simp
               with_reducible rfl
              rotate_left
              ·simp only [Act.put, List.setIfInBounds_toArray, List.set_cons_zero, List.set_cons_succ, i64_w, i32_w]
               rfl
              refine take_ (i := 39) (N := some 85) (v := ?_) (a' := ?_) #[true, true, true, true, true, true, true, true, true, true, true, true, true, true, true, true, true, true, true, true, true, true, true, true, true, true, true, true, true, true, true, true, true, true, true, true, true, true, false, true, false, false, false, false] rfl rfl (take_ofW HT_.out HW_.out (by kernel_rfl)) (fun _ _ _ h => h) (Or.inl ⟨by rfl, ?_⟩) hHeld ?_ ?_
              rotate_left
              ·rintro w' ⟨s0, s1, s2, s3⟩
               go_simp
               with_reducible rfl
              rotate_left
              ·simp only [Act.put, List.setIfInBounds_toArray, List.set_cons_zero, List.set_cons_succ, i64_w, i32_w]
               rfl
              refine one_ (i := 38) (N := some 84) #[true, true, true, true, true, true, true, true, true, true, true, true, true, true, true, true, true, true, true, true, true, true, true, true, true, true, true, true, true, true, true, true, true, true, true, true, true, true, true, true, false, false, false, false] rfl rfl (one_of HT_.out (by kernel_rfl)) (by decide) (fun K hK => ?_)
              refine goes_ Tryd.func27 (by kernel_rfl) rfl #[.agg #[.int .i64 a0_0, .slice A0_1 l0_1.length c0_1]] (by rfl) rfl rfl (by (try simp only [List.map_toArray, List.map_cons, List.map_nil]); first | done | rfl | (simp only [List.length_drop, List.length_take]; rfl)) ?_
              with_reducible refine (lin_Text.calls (ti_ := ⟨Txt.Tab.below ti_.out (zo HB)⟩) a0_0 _ _ l0_1 t381 _ ?side1 ?side2 A52.out).mono ?_
              (case side1 => repeat (first | exact (Kd.V_reads' HO_362001.out).2.2 | (with_reducible refine cA ?_ _) | (with_reducible refine cN ?_ _) | (with_reducible refine cD ?_)))
              (case side2 => exact (Kd.V_reads' HO_362001.out).2.1)
              rintro e w62 ⟨rfl, hb⟩
              refine ⟨_, rfl, ?_⟩
              replace HO_362001 := zK (Kd.V_below (zv HO_362001) hb)
              replace HO_363001 := zK (Kd.V_below (zv HO_363001) hb)
              replace BK361 := zK (blk_below (g := gb361) (o := .cells #[.int .i64 a0_0, .slice A0_1 l0_1.length c0_1] 28 (0, 0)) (zb BK361) hb)
              replace BK362 := zK (blk_below (g := gb362) (o := .cells #[.int .i64 a1_0, .slice A1_1 l1_1.length c1_1] 28 (0, 0)) (zb BK362) hb)
              replace HB := zK (below_step (zo HB) hb)
              (try clear hb)
              (try clear hb2)
              (try clear hk)
              (try clear hi)
              refine hK.out _ _ ⟨(blk_cell BK361.out 0).trans rfl, (blk_cell BK361.out 1).trans rfl, (blk_cell BK362.out 0).trans rfl, (blk_cell BK362.out 1).trans rfl⟩ (fun hHeld => ?_)
              clear hK K
              refine norm_ (a' := ?_) ?_ ?_
              rotate_left
              ·show Act.put _ (some 84) _ = _
               simp only [Act.put, List.setIfInBounds_toArray, List.set_cons_zero, List.set_cons_succ, i64_w, i32_w]
               rfl
              refine one_ (i := 40) (N := some 86) #[true, true, true, true, true, true, true, true, true, true, true, true, true, true, true, true, true, true, true, true, true, true, true, true, true, true, true, true, true, true, true, true, true, true, true, true, true, true, true, true, true, false, false, false] rfl rfl (one_of HT_.out (by kernel_rfl)) (by decide) (fun K hK => ?_)
              refine goes_ Tryd.func28 (by kernel_rfl) rfl #[.agg #[.int .i64 a0_0, .slice A0_1 l0_1.length c0_1]] (by rfl) rfl rfl (by (try simp only [List.map_toArray, List.map_cons, List.map_nil]); first | done | rfl | (simp only [List.length_drop, List.length_take]; rfl)) ?_
              with_reducible refine (sequiturref27_Text.calls k2 a0_0 _ _ l0_1 t382 _ ?side1 ?side2 A53.out).mono ?_
              (case side1 => repeat (first | exact (Kd.V_reads' HO_362001.out).2.2 | (with_reducible refine cA ?_ _) | (with_reducible refine cN ?_ _) | (with_reducible refine cD ?_)))
              (case side2 => exact (Kd.V_reads' HO_362001.out).2.1)
              rintro e w63 ⟨rfl, hb⟩
              refine ⟨_, rfl, ?_⟩
              replace HO_362001 := zK (Kd.V_below (zv HO_362001) hb)
              replace HO_363001 := zK (Kd.V_below (zv HO_363001) hb)
              replace BK361 := zK (blk_below (g := gb361) (o := .cells #[.int .i64 a0_0, .slice A0_1 l0_1.length c0_1] 28 (0, 0)) (zb BK361) hb)
              replace BK362 := zK (blk_below (g := gb362) (o := .cells #[.int .i64 a1_0, .slice A1_1 l1_1.length c1_1] 28 (0, 0)) (zb BK362) hb)
              replace HB := zK (below_step (zo HB) hb)
              (try clear hb)
              (try clear hb2)
              (try clear hk)
              (try clear hi)
              refine hK.out _ _ ⟨(blk_cell BK361.out 0).trans rfl, (blk_cell BK361.out 1).trans rfl, (blk_cell BK362.out 0).trans rfl, (blk_cell BK362.out 1).trans rfl⟩ (fun hHeld => ?_)
              clear hK K
              refine norm_ (a' := ?_) ?_ ?_
              rotate_left
              ·show Act.put _ (some 86) _ = _
               simp only [Act.put, List.setIfInBounds_toArray, List.set_cons_zero, List.set_cons_succ, i64_w, i32_w]
               rfl
              refine pure_ (i := 41) (N := some 87) (v := ?_) (a' := ?_) #[true, true, true, true, true, true, true, true, true, true, true, true, true, true, true, true, true, true, true, true, true, true, true, true, true, true, true, true, true, true, true, true, true, true, true, true, true, true, true, true, true, true, false, false] rfl rfl (any_of HT_.out (by kernel_rfl)) (fun _ _ _ h => h) (Or.inl ⟨by rfl, ?_⟩) ?_ ?_
              rotate_left
              ·intro w'
               go_simp
               with_reducible rfl
              rotate_left
              ·simp only [Act.put, List.setIfInBounds_toArray, List.set_cons_zero, List.set_cons_succ, i64_w, i32_w]
               rfl
              refine pure_ (i := 42) (N := some 88) (v := ?_) (a' := ?_) #[true, true, true, true, true, true, true, true, true, true, true, true, true, true, true, true, true, true, true, true, true, true, true, true, true, true, true, true, true, true, true, true, true, true, true, true, true, true, true, true, true, true, true, false] rfl rfl (any_of HT_.out (by kernel_rfl)) (fun _ _ _ h => h) (Or.inl ⟨by rfl, ?_⟩) ?_ ?_
              rotate_left
              ·intro w'
               go_simp
               with_reducible rfl
              rotate_left
              ·simp only [Act.put, List.setIfInBounds_toArray, List.set_cons_zero, List.set_cons_succ, i64_w, i32_w]
               rfl
              refine pure_ (i := 43) (N := some 6) (v := ?_) (a' := ?_) #[true, true, true, true, true, true, true, true, true, true, true, true, true, true, true, true, true, true, true, true, true, true, true, true, true, true, true, true, true, true, true, true, true, true, true, true, true, true, true, true, true, true, true, true] rfl rfl (any_of HT_.out (by kernel_rfl)) (fun _ _ _ h => h) (Or.inl ⟨by rfl, ?_⟩) ?_ ?_
              rotate_left
              ·intro w'
               go_simp
               with_reducible rfl
              rotate_left
              ·simp only [Act.put, List.setIfInBounds_toArray, List.set_cons_zero, List.set_cons_succ, i64_w, i32_w]
               rfl
              refine done_ (done_of HT_.out (by kernel_rfl)) ?_
              try go_wp2
              go_ret
              exact ⟨by first | rfl | (simp [errW_none, errW_some] <;> rfl) | (simp [*, errW_none, errW_some] <;> rfl), zo HB⟩
             ·rw [if_neg c51] at H
              have c51b0 : (t379 == t380) = false := beq_eq_false_iff_ne.mpr c51
              have c51b1 : (t379 != t380) = true := bne_iff_ne.mpr c51
              exact absurd H (by simp)
            ·replace c48 := Bool.eq_false_iff.mpr c48
             subst c48
             have H1 : (none) = some r := by rw [if_neg (show ¬ (false = true) by decide)] at H; exact H
             clear H
             have H := H1
             clear H1
             exact absurd H (by simp)
           ·rw [if_neg c46] at H
            have c46b0 : (t376 == t377) = false := by simpa using c46
            (try (have c46b1 : decide (t376 = t377) = false := by simpa using c46))
            (try (have c46b2 : (t376 == t377) = false := by simpa using c46))
            (try (have c46b3 : ¬ (t376 = t377) := by simpa using c46))
            clear c46
            exact absurd H (by simp)
          ·rw [if_neg c43] at H
           have c43b0 : (t374 == t375) = false := beq_eq_false_iff_ne.mpr c43
           have c43b1 : (t374 != t375) = true := bne_iff_ne.mpr c43
           exact absurd H (by simp)
         ·rw [if_neg c40] at H
          have c40b0 : (t369 == t371) = false := beq_eq_false_iff_ne.mpr c40
          have c40b1 : (t369 != t371) = true := bne_iff_ne.mpr c40
          exact absurd H (by simp)
        ·rw [if_neg c39] at H
         have c39b0 : (t368 == t370) = false := beq_eq_false_iff_ne.mpr c39
         have c39b1 : (t368 != t370) = true := bne_iff_ne.mpr c39
         exact absurd H (by simp)
 ·replace c5 := Bool.eq_false_iff.mpr c5
  subst c5
  have H1 : (none) = some r := by rw [if_neg (show ¬ (false = true) by decide)] at H; exact H
  clear H
  have H := H1
  clear H1
  exact absurd H (by simp)

end Go.Proofs.YtmedciidghmkkaaDoor.PLinTells
