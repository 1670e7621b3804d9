/- What the call of each function that the law reaches comes to: it answers as the plain function of the same name does, wherever that one answers; and the law itself out of its plain form. Written by a program of this session (an extended copy of the printer); no condition but what stands in each theorem. -/
import Derived.Test.YtkfbfgkdabljiaaPShadowSplitsx0
import Derived.Test.YtkfbfgkdabljiaaPShadowSplitsx9
import Derived.Test.YtkfbfgkdabljiaaPShadowSplitsx10
import Derived.Test.YtkfbfgkdabljiaaPShadowSplitsx11
namespace Go.Proofs.Ytkfbfgkdabljiaa.PShadowSplits
open Go.RowKit Go.Proofs.YtkfbfgkdabljiaaW.PrintWords Go.Proofs.YtkfbfgkdabljiaaW.PrintLast Go.Proofs.YtkfbfgkdabljiaaW.PrintMore
open Go.Proofs.YtkfbfgkdabljiaaW.PrintWords renaming blk_drewN → zN, blk_drew → zD, blk_alloc → zA, below_alloc → yA, pw_below_drewN → yN, below_drew1 → yD, below_set → yS, gate_callee → zC
open Go.Proofs.YtkfbfgkdabljiaaW.PrintWords.Kd renaming C_alloc → cA, C_drewN → cN, C_drew → cD
open Go.Proofs.YtkfbfgkdabljiaaW.PrintWords.Aside0 renaming mk → zK
open Bool renaming true → T_, false → F_
open List renaming setIfInBounds_toArray → zt, set_cons_zero → zz, set_cons_succ → zs
attribute [local go_sem] max2_int min2_int max_two min_two max_three min_three max_four min_four   -- for this text's walks alone
set_option linter.unusedVariables false
set_option linter.unusedSimpArgs false

/-! ### sequiturref27_Sum: function 68 -/
mutual
def sequiturref27_Sum.l0 : Nat → List (S62) → List Int → Int → Option (Int × (List (S68)) × Int)
 | 0, _, _, _ => none
 | k + 1, x0, x1, x6 => if x6 < (x0.length : Int) then (if 0 ≤ x6 then ((sequiturref27_Right.f k ((rd_T62 x0 x6).f0) ((rd_T62 x0 x6).f1)).bind fun t348 => (if t348 = 0 then (sequiturref27_Sum.l0 k x0 x1 (wrap64 (x6 + 1))) else (some (0, ([] : List (S68)), 1)))) else (none)) else (sequiturref27_Sum.l1 k x0 x1 true (-1) 0 ([] : List (S68)))
def sequiturref27_Sum.l1 : Nat → List (S62) → List Int → Bool → Int → Int → List (S68) → Option (Int × (List (S68)) × Int)
 | 0, _, _, _, _, _, _ => none
 | k + 1, x0, x1, x8, x9, x350000, x350001 => if x9 < 64 then (sequiturref27_Sum.l2 k x0 x1 x8 x9 0 x350000 x350001 0 0 0 0) else (if x8 = true then (some (x350000, x350001, 0)) else (some (0, ([] : List (S68)), 5)))
def sequiturref27_Sum.l2 : Nat → List (S62) → List Int → Bool → Int → Int → Int → List (S68) → Int → Int → Int → Int → Option (Int × (List (S68)) × Int)
 | 0, _, _, _, _, _, _, _, _, _, _, _ => none
 | k + 1, x0, x1, x8, x9, x11, x350000, x350001, x351000, x351001, x351002, x351003 => if x11 < (x0.length : Int) then (if x9 < 0 then (if 0 ≤ x11 then (if x11 < (x1.length : Int) then ((sequiturref27_More.f k x351000 x351001 x351002 x351003 ((rd_T62 x0 x11).f0) (rd x1 x11)).bind fun bt353 => (sequiturref27_Sum.l2 k x0 x1 x8 x9 (wrap64 (x11 + 1)) x350000 x350001 bt353.1 bt353.2.1 bt353.2.2.1 bt353.2.2.2)) else (none)) else (none)) else (if 0 ≤ x11 then ((sequiturref27_By.f k ((rd_T62 x0 x11).f0) ((rd_T62 x0 x11).f1) x9).bind fun t358 => (if x11 < (x1.length : Int) then ((sequiturref27_More.f k x351000 x351001 x351002 x351003 t358 (rd x1 x11)).bind fun bt360 => (sequiturref27_Sum.l2 k x0 x1 x8 x9 (wrap64 (x11 + 1)) x350000 x350001 bt360.1 bt360.2.1 bt360.2.2.1 bt360.2.2.2)) else (none))) else (none))) else ((sequiturref27_Fits.f x351000 x351001 x351002 x351003).bind fun bt364 => (if x8 = true then (sequiturref27_Sum.j3 k x0 x1 bt364.2 x9 bt364.1 x350000 x350001) else (sequiturref27_Sum.j3 k x0 x1 false x9 bt364.1 x350000 x350001)))
def sequiturref27_Sum.j3 : Nat → List (S62) → List Int → Bool → Int → Int → Int → List (S68) → Option (Int × (List (S68)) × Int)
 | 0, _, _, _, _, _, _, _ => none
 | k + 1, x0, x1, x8, x9, x12, x350000, x350001 => if x9 < 0 then (sequiturref27_Sum.l1 k x0 x1 x8 (wrap64 (x9 + 1)) x12 x350001) else (if x12 = 0 then (sequiturref27_Sum.l1 k x0 x1 x8 (wrap64 (x9 + 1)) x350000 x350001) else (if x350001.length < 8796093022208 then (sequiturref27_Sum.l1 k x0 x1 x8 (wrap64 (x9 + 1)) x350000 (x350001 ++ [(⟨x9, x12⟩ : S68)])) else (none)))
end
def sequiturref27_Sum.f (k : Nat) (l0 : List (S62)) (l1 : List Int) : Option (Int × (List (S68)) × Int) := if (l0.length : Int) = (l1.length : Int) then (sequiturref27_Sum.l0 k l0 l1 0) else (some (0, ([] : List (S68)), 1))
theorem sequiturref27_Sum.mono_l : ∀ k, (∀ y0 y1 y2, LeO (sequiturref27_Sum.l0 k y0 y1 y2) (sequiturref27_Sum.l0 (k + 1) y0 y1 y2)) ∧ (∀ y0 y1 y2 y3 y4 y5, LeO (sequiturref27_Sum.l1 k y0 y1 y2 y3 y4 y5) (sequiturref27_Sum.l1 (k + 1) y0 y1 y2 y3 y4 y5)) ∧ (∀ y0 y1 y2 y3 y4 y5 y6 y7 y8 y9 y10, LeO (sequiturref27_Sum.l2 k y0 y1 y2 y3 y4 y5 y6 y7 y8 y9 y10) (sequiturref27_Sum.l2 (k + 1) y0 y1 y2 y3 y4 y5 y6 y7 y8 y9 y10)) ∧ (∀ y0 y1 y2 y3 y4 y5 y6, LeO (sequiturref27_Sum.j3 k y0 y1 y2 y3 y4 y5 y6) (sequiturref27_Sum.j3 (k + 1) y0 y1 y2 y3 y4 y5 y6))
 | 0 => ⟨fun _ _ _ r h => by simp [sequiturref27_Sum.l0] at h, fun _ _ _ _ _ _ r h => by simp [sequiturref27_Sum.l1] at h, fun _ _ _ _ _ _ _ _ _ _ _ r h => by simp [sequiturref27_Sum.l2] at h, fun _ _ _ _ _ _ _ r h => by simp [sequiturref27_Sum.j3] at h⟩
 | k + 1 => by
  obtain ⟨ih0, ih1, ih2, ih3⟩ := sequiturref27_Sum.mono_l k
  refine ⟨?_, ?_, ?_, ?_⟩
  ·intro y0 y1 y2
   unfold sequiturref27_Sum.l0
   repeat' first
   | (with_reducible exact ih0 _ _ _)
   | (with_reducible exact ih1 _ _ _ _ _ _)
   | (with_reducible exact ih2 _ _ _ _ _ _ _ _ _ _ _)
   | (with_reducible exact ih3 _ _ _ _ _ _ _)
   | (with_reducible exact sequiturref27_By.mono _ _ _ _)
   | (with_reducible exact sequiturref27_More.mono _ _ _ _ _ _ _)
   | (with_reducible exact sequiturref27_Right.mono _ _ _)
   | (with_reducible exact LeO.refl _)
   | (with_reducible exact LeO.none _)
   | (with_reducible refine LeO.ite ?_ ?_)
   | (with_reducible refine LeO.bind ?_ (fun _ => ?_))
   | exact ih0 _ _ _
   | exact ih1 _ _ _ _ _ _
   | exact ih2 _ _ _ _ _ _ _ _ _ _ _
   | exact ih3 _ _ _ _ _ _ _
   | exact sequiturref27_By.mono _ _ _ _
   | exact sequiturref27_More.mono _ _ _ _ _ _ _
   | exact sequiturref27_Right.mono _ _ _
   | exact LeO.none _
   | refine LeO.ite ?_ ?_
   | refine LeO.bind ?_ (fun _ => ?_)
  ·intro y0 y1 y2 y3 y4 y5
   unfold sequiturref27_Sum.l1
   repeat' first
   | (with_reducible exact ih0 _ _ _)
   | (with_reducible exact ih1 _ _ _ _ _ _)
   | (with_reducible exact ih2 _ _ _ _ _ _ _ _ _ _ _)
   | (with_reducible exact ih3 _ _ _ _ _ _ _)
   | (with_reducible exact sequiturref27_By.mono _ _ _ _)
   | (with_reducible exact sequiturref27_More.mono _ _ _ _ _ _ _)
   | (with_reducible exact sequiturref27_Right.mono _ _ _)
   | (with_reducible exact LeO.refl _)
   | (with_reducible exact LeO.none _)
   | (with_reducible refine LeO.ite ?_ ?_)
   | (with_reducible refine LeO.bind ?_ (fun _ => ?_))
   | exact ih0 _ _ _
   | exact ih1 _ _ _ _ _ _
   | exact ih2 _ _ _ _ _ _ _ _ _ _ _
   | exact ih3 _ _ _ _ _ _ _
   | exact sequiturref27_By.mono _ _ _ _
   | exact sequiturref27_More.mono _ _ _ _ _ _ _
   | exact sequiturref27_Right.mono _ _ _
   | exact LeO.none _
   | refine LeO.ite ?_ ?_
   | refine LeO.bind ?_ (fun _ => ?_)
  ·intro y0 y1 y2 y3 y4 y5 y6 y7 y8 y9 y10
   unfold sequiturref27_Sum.l2
   repeat' first
   | (with_reducible exact ih0 _ _ _)
   | (with_reducible exact ih1 _ _ _ _ _ _)
   | (with_reducible exact ih2 _ _ _ _ _ _ _ _ _ _ _)
   | (with_reducible exact ih3 _ _ _ _ _ _ _)
   | (with_reducible exact sequiturref27_By.mono _ _ _ _)
   | (with_reducible exact sequiturref27_More.mono _ _ _ _ _ _ _)
   | (with_reducible exact sequiturref27_Right.mono _ _ _)
   | (with_reducible exact LeO.refl _)
   | (with_reducible exact LeO.none _)
   | (with_reducible refine LeO.ite ?_ ?_)
   | (with_reducible refine LeO.bind ?_ (fun _ => ?_))
   | exact ih0 _ _ _
   | exact ih1 _ _ _ _ _ _
   | exact ih2 _ _ _ _ _ _ _ _ _ _ _
   | exact ih3 _ _ _ _ _ _ _
   | exact sequiturref27_By.mono _ _ _ _
   | exact sequiturref27_More.mono _ _ _ _ _ _ _
   | exact sequiturref27_Right.mono _ _ _
   | exact LeO.none _
   | refine LeO.ite ?_ ?_
   | refine LeO.bind ?_ (fun _ => ?_)
  ·intro y0 y1 y2 y3 y4 y5 y6
   unfold sequiturref27_Sum.j3
   repeat' first
   | (with_reducible exact ih0 _ _ _)
   | (with_reducible exact ih1 _ _ _ _ _ _)
   | (with_reducible exact ih2 _ _ _ _ _ _ _ _ _ _ _)
   | (with_reducible exact ih3 _ _ _ _ _ _ _)
   | (with_reducible exact sequiturref27_By.mono _ _ _ _)
   | (with_reducible exact sequiturref27_More.mono _ _ _ _ _ _ _)
   | (with_reducible exact sequiturref27_Right.mono _ _ _)
   | (with_reducible exact LeO.refl _)
   | (with_reducible exact LeO.none _)
   | (with_reducible refine LeO.ite ?_ ?_)
   | (with_reducible refine LeO.bind ?_ (fun _ => ?_))
   | exact ih0 _ _ _
   | exact ih1 _ _ _ _ _ _
   | exact ih2 _ _ _ _ _ _ _ _ _ _ _
   | exact ih3 _ _ _ _ _ _ _
   | exact sequiturref27_By.mono _ _ _ _
   | exact sequiturref27_More.mono _ _ _ _ _ _ _
   | exact sequiturref27_Right.mono _ _ _
   | exact LeO.none _
   | refine LeO.ite ?_ ?_
   | refine LeO.bind ?_ (fun _ => ?_)
theorem sequiturref27_Sum.mono : ∀ a0 a1 k, LeO (sequiturref27_Sum.f k a0 a1) (sequiturref27_Sum.f (k + 1) a0 a1) := by
 intro a0 a1 k
 obtain ⟨ih0, ih1, ih2, ih3⟩ := sequiturref27_Sum.mono_l k
 unfold sequiturref27_Sum.f
 repeat' first
   | (with_reducible exact ih0 _ _ _)
   | (with_reducible exact ih1 _ _ _ _ _ _)
   | (with_reducible exact ih2 _ _ _ _ _ _ _ _ _ _ _)
   | (with_reducible exact ih3 _ _ _ _ _ _ _)
   | (with_reducible exact sequiturref27_By.mono _ _ _ _)
   | (with_reducible exact sequiturref27_More.mono _ _ _ _ _ _ _)
   | (with_reducible exact sequiturref27_Right.mono _ _ _)
   | (with_reducible exact LeO.refl _)
   | (with_reducible exact LeO.none _)
   | (with_reducible refine LeO.ite ?_ ?_)
   | (with_reducible refine LeO.bind ?_ (fun _ => ?_))
   | exact ih0 _ _ _
   | exact ih1 _ _ _ _ _ _
   | exact ih2 _ _ _ _ _ _ _ _ _ _ _
   | exact ih3 _ _ _ _ _ _ _
   | exact sequiturref27_By.mono _ _ _ _
   | exact sequiturref27_More.mono _ _ _ _ _ _ _
   | exact sequiturref27_Right.mono _ _ _
   | exact LeO.none _
   | refine LeO.ite ?_ ?_
   | refine LeO.bind ?_ (fun _ => ?_)
def sequiturref27_Sum.T18 : Bool × List (List Nat × List Nat) := (true, [([], []), ([], []), ([], []), ([1, 2], [1, 2]), ([3], [3]), ([4], [4]), ([], []), ([], []), ([6, 7], [6, 7]), ([8], [8]), ([0, 5, 9], [0, 5, 9]), ([10, 10, 0, 1, 2, 3, 4, 5, 6, 7, 8, 9, 10], [10])])
def sequiturref27_Sum.B18 : List Nat := [0, 0, 0, 6, 14, 30, 0, 0, 192, 448, 1023, 2047]
theorem sequiturref27_Sum.tab18 : rtab .any (opsOf Try.f68 18) = sequiturref27_Sum.T18 := by kernel_rfl
theorem sequiturref27_Sum.bits18 : waitsOk sequiturref27_Sum.T18.2 sequiturref27_Sum.B18 = true := by kernel_rfl
def sequiturref27_Sum.T19 : Bool × List (List Nat × List Nat) := (true, [([], []), ([], []), ([], []), ([1, 2], [1, 2]), ([3], [3]), ([], []), ([4, 5], [4, 5]), ([], []), ([], []), ([7, 8], [7, 8]), ([9], [9]), ([0, 6, 10, 6], [0, 6, 10]), ([11, 11, 0, 1, 2, 3, 4, 5, 6, 7, 8, 9, 10, 11], [11])])
def sequiturref27_Sum.B19 : List Nat := [0, 0, 0, 6, 14, 0, 62, 0, 0, 384, 896, 2047, 4095]
theorem sequiturref27_Sum.tab19 : rtab .any (opsOf Try.f68 19) = sequiturref27_Sum.T19 := by kernel_rfl
theorem sequiturref27_Sum.bits19 : waitsOk sequiturref27_Sum.T19.2 sequiturref27_Sum.B19 = true := by kernel_rfl
set_option maxHeartbeats 8000000 in
set_option maxRecDepth 100000 in
theorem sequiturref27_Sum.calls (k : Nat) (A0 : Option Addr) (c0 : Nat) (l0 : List (S62)) (A1 : Option Addr) (c1 : Nat) (l1 : List Int) (r1 : Int) (r2 : List (S68)) (r3 : Int) (w : World) (hr0 : Kd.C k62 w A0 l0.length l0) (hc0 : l0.length ≤ c0) (hr1 : Kd.C (Kd.int .i64) w A1 l1.length l1) (hc1 : l1.length ≤ c1) (h : sequiturref27_Sum.f k l0 l1 = some (r1, r2, r3)) :
  Calls Try.prog 68 #[.slice A0 l0.length c0, .slice A1 l1.length c1] w fun e w' => ∃ v1_ : Value, e = .returned (.tuple #[.agg #[.int .i64 r1, v1_], .int .i64 r3]) ∧ Kd.R k68 68 w' w.heap.size (fun _ => True) v1_ r2 ∧ Below w.heap.size w w' := by
 have hu62 := Try.underlying62
 have hu109 := Try.underlying109
 have hu68 := Try.underlying68
 have HR0 := zK hr0
 have HC0 := zK hc0; clear hr0 hc0
 have HR1 := zK hr1
 have HC1 := zK hc1; clear hr1 hc1
 have HB := zK (Below.refl w.heap.size w)
 have H : (if (l0.length : Int) = (l1.length : Int) then (sequiturref27_Sum.l0 k l0 l1 0) else (some (0, ([] : List (S68)), 1))) = some (r1, r2, r3) := h
 clear h
 by_cases c3 : (l0.length : Int) = (l1.length : Int)
 ·rw [if_pos c3] at H
  have c3b0 : ((l0.length : Int) == (l1.length : Int)) = true := beq_iff_eq.mpr c3
  have c3b1 : ((l0.length : Int) != (l1.length : Int)) = false := bne_eq_false_iff_eq.mpr c3
  have c3b2 : (l0.length == l1.length) = true := by first | simpa using c3 | (simp at c3 ⊢; omega)
  clear c3
  have H' := zK H; clear H
  go_enter Try.func68, Try.ntmps68
  go_wp2_with (first | ((with_reducible refine gate_dst (N := 4) rfl ?_); refine box_event ?hg (N := 4) ?hd (cs := #[.int .i64 0, .slice none 0 0]) (t := 62) ?hr ?_; (case hd => rfl); (case hg => rfl); (case hr => first | (go_simp; done) | (go_simp; rfl)); intro gb346 hg w4 hbox hb; have BK346 := zK (hbox); have GW346 := zK ((by rw [hg]; exact (below_size (zo HB)) : w.heap.size ≤ gb346)); have GE346 := zK ((by rw [hg]; exact (below_size (zo HB)) : w.heap.size ≤ gb346)); replace HB := zK (below_step (zo HB) hb); clear hb hbox hg))
  go_loopg [6] k (fun kq v6 w' => ∃ (x6_1 : Int) (x347000_1 : Int), v6 = .int .i64 x6_1 ∧ Aside0 (sequiturref27_Sum.l0 kq l0 l1 x6_1 = some (r1, r2, r3)) ∧ Aside0 (kq ≤ k) ∧ Aside0 (w'.heap[gb346]? = some (.cells #[.int .i64 x347000_1, (.slice none 0 0)] 62 (0, 0))) ∧ Aside0 (Below w.heap.size w w'))
  case atStart => exact ⟨(0), (0), (by first | rfl | (simp; done) | (simp [*]; done)), H', ⟨Nat.le_refl _⟩, ⟨zb BK346⟩, ⟨zo HB⟩⟩
  case round =>
   clear H'; try clear c1; try clear p2; try clear c3; try clear c3b0; try clear c3b1; try clear c3b2
   obtain ⟨x6_1, x347000_1, rfl, HA, HK1, BK346, HB⟩ := hrel
   cases gk with
   | zero => exact absurd HA.out (by simp [sequiturref27_Sum.l0])
   | succ k1 =>
    have H := HA.out; clear HA
    simp only [sequiturref27_Sum.l0] at H
    by_cases c5 : x6_1 < (l0.length : Int)
    ·rw [if_pos c5] at H
     have c5b0 : decide (x6_1 < (l0.length : Int)) = true := decide_eq_true c5
     clear c5
     by_cases c6 : 0 ≤ x6_1
     ·rw [if_pos c6] at H
      have c6b0 : decide (0 ≤ x6_1) = true := decide_eq_true c6; clear c6
      replace H := Option.bind_eq_some_iff.mp H
      obtain ⟨t348, A70, H⟩ := H
      replace H : (if t348 = 0 then (sequiturref27_Sum.l0 k1 l0 l1 (wrap64 (x6_1 + 1))) else (some (0, ([] : List (S68)), 1))) = some (r1, r2, r3) := H
      have A7 := zK A70; clear A70
      by_cases c8 : t348 = 0
      ·rw [if_pos c8] at H
       have c8b0 : (t348 == 0) = true := beq_iff_eq.mpr c8
       have c8b1 : (t348 != 0) = false := bne_eq_false_iff_eq.mpr c8; clear c8
       have H' := zK H; clear H
       have p347 : 0 ≤ (x6_1 : Int) := of_decide_eq_true (by first | (with_reducible assumption) | assumption)
       have q347 : x6_1 < (l0.length : Int) := of_decide_eq_true (by first | (with_reducible assumption) | assumption)
       obtain ⟨ad347, A347_1, c347_1, e347, hx347_0, hx347_1, hl347_1, hi347_1⟩ := at_T62 HR0.out x6_1 p347 q347
       cases e347
       replace hx347_0 := (HB.out.cell (World.block_lt_of_cell? w _ hx347_0)).trans hx347_0
       replace hx347_1 := (HB.out.cell (World.block_lt_of_cell? w _ hx347_1)).trans hx347_1
       have HR347_1 := zK hi347_1
       have HC347_1 := zK hl347_1; clear hi347_1 hl347_1
       replace p347 := eq_true p347
       replace q347 := eq_true q347
       go_wp2_with (first | ((with_reducible refine zC (f := 70) rfl ?_); refine goesL_ (some 30) rfl rfl Try.func70 (by kernel_rfl) rfl #[.agg #[.int .i64 ((rd_T62 l0 x6_1).f0), .slice A347_1 ((rd_T62 l0 x6_1).f1).length c347_1]] rfl (by (try simp only [List.map_toArray, List.map_cons, List.map_nil]); first | done | rfl | (simp only [List.length_drop, List.length_take]; rfl)) ?_; (with_reducible refine (sequiturref27_Right.calls k1 ((rd_T62 l0 x6_1).f0) _ _ ((rd_T62 l0 x6_1).f1) t348 _ ?side1 ?side2 A7.out).mono ?_); (case side1 => repeat (first | exact (Kd.C_below HR347_1.out HB.out) | (with_reducible refine cA ?_ _) | (with_reducible refine cN ?_ _) | (with_reducible refine cD ?_))); (case side2 => exact HC347_1.out); rintro e w9 ⟨rfl, hb⟩; refine ⟨_, rfl, ?_⟩; replace BK346 := zK (blk_below (g := gb346) (o := .cells #[.int .i64 x347000_1, .slice none 0 0] 62 (0, 0)) (zb BK346) hb); replace HB := zK (below_step (zo HB) hb); (try clear hb); (try clear hb2); (try clear hk); (try clear hi)))
       go_roundg k1
       case measure => have := HK1.out; omega
       case rel => exact ⟨(wrap64 (x6_1 + 1)), (x347000_1), (by first | rfl | (simp; done) | (simp [*]; done)), H', ⟨by have := HK1.out; omega⟩, ⟨zb BK346⟩, ⟨zo HB⟩⟩
      ·rw [if_neg c8] at H
       have c8b0 : (t348 == 0) = false := beq_eq_false_iff_ne.mpr c8
       have c8b1 : (t348 != 0) = true := bne_iff_ne.mpr c8
       simp only [Option.some.injEq, Prod.mk.injEq] at H
       obtain ⟨rfl, rfl, rfl⟩ := H
       have p347 : 0 ≤ (x6_1 : Int) := of_decide_eq_true (by first | (with_reducible assumption) | assumption)
       have q347 : x6_1 < (l0.length : Int) := of_decide_eq_true (by first | (with_reducible assumption) | assumption)
       obtain ⟨ad347, A347_1, c347_1, e347, hx347_0, hx347_1, hl347_1, hi347_1⟩ := at_T62 HR0.out x6_1 p347 q347
       cases e347
       replace hx347_0 := (HB.out.cell (World.block_lt_of_cell? w _ hx347_0)).trans hx347_0
       replace hx347_1 := (HB.out.cell (World.block_lt_of_cell? w _ hx347_1)).trans hx347_1
       have HR347_1 := zK hi347_1
       have HC347_1 := zK hl347_1; clear hi347_1 hl347_1
       replace p347 := eq_true p347
       replace q347 := eq_true q347
       go_wp2_with (first | ((with_reducible refine zC (f := 70) rfl ?_); refine goesL_ (some 30) rfl rfl Try.func70 (by kernel_rfl) rfl #[.agg #[.int .i64 ((rd_T62 l0 x6_1).f0), .slice A347_1 ((rd_T62 l0 x6_1).f1).length c347_1]] rfl (by (try simp only [List.map_toArray, List.map_cons, List.map_nil]); first | done | rfl | (simp only [List.length_drop, List.length_take]; rfl)) ?_; (with_reducible refine (sequiturref27_Right.calls k1 ((rd_T62 l0 x6_1).f0) _ _ ((rd_T62 l0 x6_1).f1) t348 _ ?side1 ?side2 A7.out).mono ?_); (case side1 => repeat (first | exact (Kd.C_below HR347_1.out HB.out) | (with_reducible refine cA ?_ _) | (with_reducible refine cN ?_ _) | (with_reducible refine cD ?_))); (case side2 => exact HC347_1.out); rintro e w10 ⟨rfl, hb⟩; refine ⟨_, rfl, ?_⟩; replace BK346 := zK (blk_below (g := gb346) (o := .cells #[.int .i64 x347000_1, .slice none 0 0] 62 (0, 0)) (zb BK346) hb); replace HB := zK (below_step (zo HB) hb); (try clear hb); (try clear hb2); (try clear hk); (try clear hi); have hcz11_0 : w10.cell? ⟨gb346, 0, none⟩ = some (.int .i64 x347000_1) := (blk_cell BK346.out 0).trans rfl; have hcz11_1 : w10.cell? ⟨gb346, 1, none⟩ = some (.slice none 0 0) := (blk_cell BK346.out 1).trans rfl; have hfz11_0 := blk_frozen BK346.out 0; have hfz11_1 := blk_frozen BK346.out 1))
       refine bodyPost_ret (results_ct rfl _ _ gb346 62 #[.int .i64 0, .slice none 0 0] (0, 0) _ rfl (by refine zM ?_; refine blk_put (cs := #[.int .i64 0, .slice none 0 0]) ?_ 1 _ rfl; refine zM ?_; refine blk_put (cs := #[.int .i64 x347000_1, .slice none 0 0]) ?_ 0 _ rfl; refine zM ?_; exact BK346.out) Try.underlying62 rfl (by kernel_rfl)) rfl ?_
       exact ⟨_, by first | rfl | (simp [errW_none, errW_some] <;> rfl) | (simp [*, errW_none, errW_some] <;> rfl), by first | exact Kd.R_nil _ _ _ _ _ | exact Kd.N_nil _ _ _ _ _ | exact Kd.V_nil _ _ _ _ _ | exact Kd.Q_nil _ _ _ _ _ | exact Kd.S_nil _ _ _ _ _, zo HB⟩
     ·rw [if_neg c6] at H
      exact absurd H (by simp)
    ·rw [if_neg c5] at H
     have c5b0 : decide (x6_1 < (l0.length : Int)) = false := decide_eq_false c5
     clear c5
     have H' := zK H; clear H
     go_wp2_with (first | ((with_reducible refine gate_dst (N := 7) rfl ?_); refine box_event ?hg (N := 7) ?hd (cs := #[.int .i64 0, .slice none 0 0]) (t := 62) ?hr ?_; (case hd => rfl); (case hg => rfl); (case hr => first | (go_simp; done) | (go_simp; rfl)); intro gb349 hg w12 hbox hb; have BK349 := zK (hbox); have GW349 := zK ((by rw [hg]; exact (below_size (zo HB)) : w.heap.size ≤ gb349)); have GE349 := zK ((by rw [hg]; exact (below_size (zo HB)) : w.heap.size ≤ gb349)); replace HB := zK (below_step (zo HB) hb); have NB346_349 := zK ((by rw [hg]; exact Nat.ne_of_lt (blk_lt (g := gb346) (o := .cells #[.int .i64 x347000_1, .slice none 0 0] 62 (0, 0)) (zb BK346)) : gb346 ≠ gb349)); have NB349_346 := zK ((by rw [hg]; exact Nat.ne_of_gt (blk_lt (g := gb346) (o := .cells #[.int .i64 x347000_1, .slice none 0 0] 62 (0, 0)) (zb BK346)) : gb349 ≠ gb346)); replace BK346 := zK (blk_below (g := gb346) (o := .cells #[.int .i64 x347000_1, .slice none 0 0] 62 (0, 0)) (zb BK346) hb); clear hb hbox hg))
     go_loopg [8, 9] k1 (fun kq v8 v9 w' => ∃ (x8_2 : Bool) (x9_2 : Int) (x350000_2 : Int) (x350001_2 : List (S68)) (u350001 : Value), v8 = .bool x8_2 ∧ v9 = .int .i64 x9_2 ∧ Aside0 (sequiturref27_Sum.l1 kq l0 l1 x8_2 x9_2 x350000_2 x350001_2 = some (r1, r2, r3)) ∧ Aside0 (kq ≤ k1) ∧ Aside0 (Kd.R k68 68 w' w.heap.size (fun _ => True) u350001 x350001_2) ∧ Aside0 (w'.heap[gb346]? = some (.cells #[.int .i64 x347000_1, (.slice none 0 0)] 62 (0, 0))) ∧ Aside0 (w'.heap[gb349]? = some (.cells #[.int .i64 x350000_2, u350001] 62 (0, 0))) ∧ Aside0 (Below w.heap.size w w'))
     case atStart => exact ⟨(true), ((-1)), (0), (([] : List (S68))), (.slice none 0 0), (by first | rfl | (simp; done) | (simp [*]; done)), (by first | rfl | (simp; done) | (simp [*]; done)), H', ⟨Nat.le_refl _⟩, ⟨by first | exact Kd.R_nil _ _ _ _ _ | exact Kd.N_nil _ _ _ _ _ | exact Kd.V_nil _ _ _ _ _ | exact Kd.Q_nil _ _ _ _ _ | exact Kd.S_nil _ _ _ _ _⟩, ⟨zb BK346⟩, ⟨zb BK349⟩, ⟨zo HB⟩⟩
     case round =>
      clear H'; try clear c1; try clear p2; try clear c3
      try clear c3b0; try clear c3b1; try clear c3b2; try clear p3
      try clear q3; try clear hx3; try clear c5; try clear c5b0
      try clear c6; try clear c6b0; try clear p6; try clear c7
      try clear c8; try clear c8b0; try clear c8b1; try clear hcz11_0
      try clear hcz11_1; try clear hfz11_0; try clear hfz11_1; try clear hx347_0
      try clear hx347_1; try clear p2; try clear p347; try clear q347
      obtain ⟨x8_2, x9_2, x350000_2, x350001_2, u350001, rfl, rfl, HA, HK2, HO_350001, BK346, BK349, HB⟩ := hrel
      cases gk with
      | zero => exact absurd HA.out (by simp [sequiturref27_Sum.l1])
      | succ k2 =>
       have H := HA.out; clear HA
       simp only [sequiturref27_Sum.l1] at H
       by_cases c13 : x9_2 < 64
       ·rw [if_pos c13] at H
        have c13b0 : decide (x9_2 < 64) = true := decide_eq_true c13; clear c13
        have H' := zK H; clear H
        go_wp2_with (first | ((with_reducible refine gate_dst (N := 10) rfl ?_); refine box_event ?hg (N := 10) ?hd (cs := #[.int .i64 0, .int .u64 0, .int .i64 0, .int .u64 0]) (t := 109) ?hr ?_; (case hd => rfl); (case hg => rfl); (case hr => first | (go_simp; done) | (go_simp; rfl)); intro gb350 hg w14 hbox hb; replace HO_350001 := zK (Kd.R_below (zr HO_350001) hb); have BK350 := zK (hbox); have GW350 := zK ((by rw [hg]; exact (below_size (zo HB)) : w.heap.size ≤ gb350)); have GE350 := zK ((by rw [hg]; exact (below_size (zo HB)) : w.heap.size ≤ gb350)); replace HB := zK (below_step (zo HB) hb); have NB346_350 := zK ((by rw [hg]; exact Nat.ne_of_lt (blk_lt (g := gb346) (o := .cells #[.int .i64 x347000_1, .slice none 0 0] 62 (0, 0)) (zb BK346)) : gb346 ≠ gb350)); have NB350_346 := zK ((by rw [hg]; exact Nat.ne_of_gt (blk_lt (g := gb346) (o := .cells #[.int .i64 x347000_1, .slice none 0 0] 62 (0, 0)) (zb BK346)) : gb350 ≠ gb346)); replace BK346 := zK (blk_below (g := gb346) (o := .cells #[.int .i64 x347000_1, .slice none 0 0] 62 (0, 0)) (zb BK346) hb); have NB349_350 := zK ((by rw [hg]; exact Nat.ne_of_lt (blk_lt (g := gb349) (o := .cells #[.int .i64 x350000_2, u350001] 62 (0, 0)) (zb BK349)) : gb349 ≠ gb350)); have NB350_349 := zK ((by rw [hg]; exact Nat.ne_of_gt (blk_lt (g := gb349) (o := .cells #[.int .i64 x350000_2, u350001] 62 (0, 0)) (zb BK349)) : gb350 ≠ gb349)); replace BK349 := zK (blk_below (g := gb349) (o := .cells #[.int .i64 x350000_2, u350001] 62 (0, 0)) (zb BK349) hb); clear hb hbox hg; have hnb15 := NB350_346.out; have hnc15 := NB346_350.out; have hnb16 := NB350_349.out; have hnc16 := NB349_350.out; have hcz17_0 : w14.cell? ⟨gb350, 0, none⟩ = some (.int .i64 0) := (blk_cell BK350.out 0).trans rfl; have hcz17_1 : w14.cell? ⟨gb350, 1, none⟩ = some (.int .u64 0) := (blk_cell BK350.out 1).trans rfl; have hcz17_2 : w14.cell? ⟨gb350, 2, none⟩ = some (.int .i64 0) := (blk_cell BK350.out 2).trans rfl; have hcz17_3 : w14.cell? ⟨gb350, 3, none⟩ = some (.int .u64 0) := (blk_cell BK350.out 3).trans rfl; have hfz17_0 := blk_frozen BK350.out 0; have hfz17_1 := blk_frozen BK350.out 1; have hfz17_2 := blk_frozen BK350.out 2; have hfz17_3 := blk_frozen BK350.out 3))
        go_loopg [11] k2 (fun kq v11 w' => ∃ (x11_3 : Int) (x351000_3 : Int) (x351001_3 : Int) (x351002_3 : Int) (x351003_3 : Int), v11 = .int .i64 x11_3 ∧ Aside0 (sequiturref27_Sum.l2 kq l0 l1 x8_2 x9_2 x11_3 x350000_2 x350001_2 x351000_3 x351001_3 x351002_3 x351003_3 = some (r1, r2, r3)) ∧ Aside0 (kq ≤ k2) ∧ Aside0 (Kd.R k68 68 w' w.heap.size (fun _ => True) u350001 x350001_2) ∧ Aside0 (w'.heap[gb346]? = some (.cells #[.int .i64 x347000_1, (.slice none 0 0)] 62 (0, 0))) ∧ Aside0 (w'.heap[gb349]? = some (.cells #[.int .i64 x350000_2, u350001] 62 (0, 0))) ∧ Aside0 (w'.heap[gb350]? = some (.cells #[.int .i64 x351000_3, .int .u64 x351001_3, .int .i64 x351002_3, .int .u64 x351003_3] 109 (0, 0))) ∧ Aside0 (Below w.heap.size w w'))
        case atStart => exact ⟨(0), (0), (0), (0), (0), (by first | rfl | (simp; done) | (simp [*]; done)), H', ⟨Nat.le_refl _⟩, ⟨by (with_reducible repeat (first | apply Kd.R_alloc | apply Kd.R_drewN | apply Kd.R_drew)); exact Kd.R_mono (Kd.R_far (p := ⟨gb350, 3, none⟩) (Kd.R_far (p := ⟨gb350, 2, none⟩) (Kd.R_far (p := ⟨gb350, 1, none⟩) (Kd.R_far (p := ⟨gb350, 0, none⟩) (Kd.R_types HO_350001.out BK350.out (by decide)) (fun _ hk => hk.2) (.int .i64 0)) (fun _ hk => hk.2) (.int .u64 0)) (fun _ hk => hk.2) (.int .i64 0)) (fun _ hk => hk.2) (.int .u64 0)) (fun _ hk => trivial)⟩, ⟨zb BK346⟩, ⟨zb BK349⟩, ⟨by refine zM ?_; refine blk_put (cs := #[.int .i64 0, .int .u64 0, .int .i64 0, .int .u64 0]) ?_ 3 _ rfl; refine zM ?_; refine blk_put (cs := #[.int .i64 0, .int .u64 0, .int .i64 0, .int .u64 0]) ?_ 2 _ rfl; refine zM ?_; refine blk_put (cs := #[.int .i64 0, .int .u64 0, .int .i64 0, .int .u64 0]) ?_ 1 _ rfl; refine zM ?_; refine blk_put (cs := #[.int .i64 0, .int .u64 0, .int .i64 0, .int .u64 0]) ?_ 0 _ rfl; refine zM ?_; exact BK350.out⟩, ⟨zo HB⟩⟩
        case round =>
         clear H'; try clear c1; try clear p2; try clear c3
         try clear c3b0; try clear c3b1; try clear c3b2; try clear p3
         try clear q3; try clear hx3; try clear c5; try clear c5b0
         try clear c6; try clear c6b0; try clear p6; try clear c7
         try clear c8; try clear c8b0; try clear c8b1; try clear c13
         try clear c13b0; try clear c15; try clear c16; try clear hcz11_0
         try clear hcz11_1; try clear hcz17_0; try clear hcz17_1; try clear hcz17_2
         try clear hcz17_3; try clear hfz11_0; try clear hfz11_1; try clear hfz17_0
         try clear hfz17_1; try clear hfz17_2; try clear hfz17_3; try clear hx347_0
         try clear hx347_1; try clear p2; try clear p3; try clear p347; try clear p6; try clear q3; try clear q347
         obtain ⟨x11_3, x351000_3, x351001_3, x351002_3, x351003_3, rfl, HA, HK3, HO_350001, BK346, BK349, BK350, HB⟩ := hrel
         cases gk with
         | zero => exact absurd HA.out (by simp [sequiturref27_Sum.l2])
         | succ k3 =>
          have H := HA.out; clear HA
          simp only [sequiturref27_Sum.l2] at H
          by_cases c18 : x11_3 < (l0.length : Int)
          ·rw [if_pos c18] at H
           have c18b0 : decide (x11_3 < (l0.length : Int)) = true := decide_eq_true c18
           clear c18
           by_cases c19 : x9_2 < 0
           ·rw [if_pos c19] at H
            have c19b0 : decide (x9_2 < 0) = true := decide_eq_true c19; clear c19
            by_cases c20 : 0 ≤ x11_3
            ·rw [if_pos c20] at H
             have c20b0 : decide (0 ≤ x11_3) = true := decide_eq_true c20; clear c20
             by_cases c21 : x11_3 < (l1.length : Int)
             ·rw [if_pos c21] at H
              have c21b0 : decide (x11_3 < (l1.length : Int)) = true := decide_eq_true c21
              clear c21; replace H := Option.bind_eq_some_iff.mp H
              obtain ⟨⟨t353, t354, t355, t356⟩, A220, H⟩ := H
              replace H : (sequiturref27_Sum.l2 k3 l0 l1 x8_2 x9_2 (wrap64 (x11_3 + 1)) x350000_2 x350001_2 t353 t354 t355 t356) = some (r1, r2, r3) := H
              have A22 := zK A220; clear A220
              have H' := zK H; clear H
              try go_wp2
              replace HO_350001 := zK (Kd.R_drew HO_350001.out)
              replace BK346 := zK (zD BK346.out)
              replace BK349 := zK (zD BK349.out)
              replace BK350 := zK (zD BK350.out)
              replace HB := zK (yD HB.out)
              have p351 : 0 ≤ (x11_3 : Int) := of_decide_eq_true (by first | (with_reducible assumption) | assumption)
              have q351 : x11_3 < (l0.length : Int) := of_decide_eq_true (by first | (with_reducible assumption) | assumption)
              obtain ⟨ad351, A351_1, c351_1, e351, hx351_0, hx351_1, hl351_1, hi351_1⟩ := at_T62 HR0.out x11_3 p351 q351
              have hw351_1 := hx351_1
              have hw351_0 := hx351_0
              cases e351
              replace hx351_0 := (HB.out.cell (World.block_lt_of_cell? w _ hx351_0)).trans hx351_0
              replace hx351_1 := (HB.out.cell (World.block_lt_of_cell? w _ hx351_1)).trans hx351_1
              have HR351_1 := zK hi351_1
              have HC351_1 := zK hl351_1; clear hi351_1 hl351_1
              replace p351 := eq_true p351
              replace q351 := eq_true q351
              have p352 : 0 ≤ (x11_3 : Int) := of_decide_eq_true (by first | (with_reducible assumption) | assumption)
              have q352 : x11_3 < (l1.length : Int) := of_decide_eq_true (by first | (with_reducible assumption) | assumption)
              obtain ⟨ad352, e352, hx352_0⟩ := Kd.at_int HR1.out x11_3 p352 q352
              have hw352_0 := hx352_0
              cases e352
              replace hx352_0 := (HB.out.cell (World.block_lt_of_cell? w _ hx352_0)).trans hx352_0
              replace p352 := eq_true p352
              replace q352 := eq_true q352
              refine start_ (n := 12) (S := fun w' => w'.cell? ⟨gb350, 0, none⟩ = some (.int .i64 x351000_3) ∧ w'.cell? ⟨gb350, 1, none⟩ = some (.int .u64 x351001_3) ∧ w'.cell? ⟨gb350, 2, none⟩ = some (.int .i64 x351002_3) ∧ w'.cell? ⟨gb350, 3, none⟩ = some (.int .u64 x351003_3) ∧ w'.cell? (ad351.add ((x11_3).toNat * 2)) = some (.int .i64 ((rd_T62 l0 x11_3).f0)) ∧ w'.cell? ⟨(ad351.add ((x11_3).toNat * 2)).block, (ad351.add ((x11_3).toNat * 2)).off + 1, none⟩ = some (.slice A351_1 ((rd_T62 l0 x11_3).f1).length c351_1) ∧ w'.cell? (ad352.add (x11_3).toNat) = some (.int .i64 (rd l1 x11_3))) (ds := [11]) #[F_,F_,F_,F_,F_,F_,F_,F_,F_,F_,F_,F_] (by kernel_rfl) rfl rfl ⟨(blk_cell BK350.out 0).trans rfl, (blk_cell BK350.out 1).trans rfl, (blk_cell BK350.out 2).trans rfl, (blk_cell BK350.out 3).trans rfl, ((HB.out.cell (World.block_lt_of_cell? w _ hw351_0)).trans hw351_0), ((HB.out.cell (World.block_lt_of_cell? w _ hw351_1)).trans hw351_1), ((HB.out.cell (World.block_lt_of_cell? w _ hw352_0)).trans hw352_0)⟩ (fun hHeld => ?_); refine with_tabW sequiturref27_Sum.tab18 sequiturref27_Sum.bits18 (fun HT_ HW_ => ?_)
              generalize wr.drew = w23 at HO_350001 BK346 BK349 BK350 HB HR351_1 hx351_0 hx351_1 hx352_0 hHeld ⊢
              refine pure_ (i := 1) (N := some 47) (v := ?_) (a' := ?_) #[F_,T_,F_,F_,F_,F_,F_,F_,F_,F_,F_,F_] rfl rfl (any_of HT_.out (by kernel_rfl)) (fun _ _ _ h => h) (Or.inl ⟨by rfl, ?_⟩) ?_ ?_; rotate_left; (intro w'; go_simp; with_reducible rfl); rotate_left; (simp only [Act.put, zt, zz, zs, i64_w, i32_w]; rfl)
              refine pure_ (i := 2) (N := some 48) (v := ?_) (a' := ?_) #[F_,T_,T_,F_,F_,F_,F_,F_,F_,F_,F_,F_] rfl rfl (any_of HT_.out (by kernel_rfl)) (fun _ _ _ h => h) (Or.inl ⟨by rfl, ?_⟩) ?_ ?_; rotate_left; (intro w'; go_simp; with_reducible rfl); rotate_left; (simp only [Act.put, zt, zz, zs, i64_w, i32_w]; rfl)
              refine pure_ (i := 3) (N := some 49) (v := ?_) (a' := ?_) #[F_,T_,T_,T_,F_,F_,F_,F_,F_,F_,F_,F_] rfl rfl (any_of HT_.out (by kernel_rfl)) (fun _ _ _ h => h) (Or.inl ⟨by rfl, ?_⟩) ?_ ?_; rotate_left; (intro w'; go_simp; with_reducible rfl); rotate_left; (simp only [Act.put, zt, zz, zs, i64_w, i32_w]; rfl)
              refine pure_ (i := 4) (N := some 50) (v := ?_) (a' := ?_) #[F_,T_,T_,T_,T_,F_,F_,F_,F_,F_,F_,F_] rfl rfl (any_of HT_.out (by kernel_rfl)) (fun _ _ _ h => h) (Or.inl ⟨by rfl, ?_⟩) ?_ ?_; rotate_left; (intro w'; go_simp; with_reducible rfl); rotate_left; (simp only [Act.put, zt, zz, zs, i64_w, i32_w]; rfl)
              refine pure_ (i := 6) (N := some 52) (v := ?_) (a' := ?_) #[F_,T_,T_,T_,T_,F_,T_,F_,F_,F_,F_,F_] rfl rfl (any_of HT_.out (by kernel_rfl)) (fun _ _ _ h => h) (Or.inl ⟨by rfl, ?_⟩) ?_ ?_; rotate_left; (intro w'; go_simp; with_reducible rfl); rotate_left; (simp only [Act.put, zt, zz, zs, i64_w, i32_w]; rfl)
              refine pure_ (i := 7) (N := some 53) (v := ?_) (a' := ?_) #[F_,T_,T_,T_,T_,F_,T_,T_,F_,F_,F_,F_] rfl rfl (any_of HT_.out (by kernel_rfl)) (fun _ _ _ h => h) (Or.inl ⟨by rfl, ?_⟩) ?_ ?_; rotate_left; (intro w'; go_simp; with_reducible rfl); rotate_left; (simp only [Act.put, zt, zz, zs, i64_w, i32_w]; rfl)
              refine pure_ (i := 8) (N := some 54) (v := ?_) (a' := ?_) #[F_,T_,T_,T_,T_,F_,T_,T_,T_,F_,F_,F_] rfl rfl (any_of HT_.out (by kernel_rfl)) (fun _ _ _ h => h) (Or.inl ⟨by rfl, ?_⟩) ?_ ?_; rotate_left; (intro w'; go_simp; with_reducible rfl); rotate_left; (simp only [Act.put, zt, zz, zs, i64_w, i32_w]; rfl)
              refine take_ (i := 0) (N := some 46) (v := ?_) (a' := ?_) #[T_,T_,T_,T_,T_,F_,T_,T_,T_,F_,F_,F_] rfl rfl (take_ofW HT_.out HW_.out (by kernel_rfl)) (fun _ _ _ h => h) (Or.inl ⟨by rfl, ?_⟩) hHeld ?_ ?_; rotate_left; (rintro w' ⟨s0, s1, s2, s3, s4, s5, s6⟩; go_simp; with_reducible rfl); rotate_left; (simp only [Act.put, zt, zz, zs, i64_w, i32_w]; rfl)
              refine take_ (i := 5) (N := some 51) (v := ?_) (a' := ?_) #[T_,T_,T_,T_,T_,T_,T_,T_,T_,F_,F_,F_] rfl rfl (take_ofW HT_.out HW_.out (by kernel_rfl)) (fun _ _ _ h => h) (Or.inl ⟨by rfl, ?_⟩) hHeld ?_ ?_; rotate_left; (rintro w' ⟨s0, s1, s2, s3, s4, s5, s6⟩; go_simp; with_reducible rfl); rotate_left; (simp only [Act.put, zt, zz, zs, i64_w, i32_w]; rfl)
              refine take_ (i := 9) (N := some 55) (v := ?_) (a' := ?_) #[T_,T_,T_,T_,T_,T_,T_,T_,T_,T_,F_,F_] rfl rfl (take_ofW HT_.out HW_.out (by kernel_rfl)) (fun _ _ _ h => h) (Or.inl ⟨by rfl, ?_⟩) hHeld ?_ ?_; rotate_left; (rintro w' ⟨s0, s1, s2, s3, s4, s5, s6⟩; go_simp; with_reducible rfl); rotate_left; (simp only [Act.put, zt, zz, zs, i64_w, i32_w]; rfl)
              refine one_ (i := 10) (N := some 56) #[T_,T_,T_,T_,T_,T_,T_,T_,T_,T_,T_,F_] rfl rfl (one_of HT_.out (by kernel_rfl)) (by decide) (fun K hK => ?_)
              refine goes_ Try.func71 (by kernel_rfl) rfl #[.agg #[.int .i64 x351000_3, .int .u64 x351001_3, .int .i64 x351002_3, .int .u64 x351003_3], .int .i64 ((rd_T62 l0 x11_3).f0), .int .i64 (rd l1 x11_3)] (by rfl) rfl rfl (by (try simp only [List.map_toArray, List.map_cons, List.map_nil]); first | done | rfl | (simp only [List.length_drop, List.length_take]; rfl)) ?_
              with_reducible refine (sequiturref27_More.calls k3 x351000_3 x351001_3 x351002_3 x351003_3 ((rd_T62 l0 x11_3).f0) (rd l1 x11_3) t353 t354 t355 t356 _ A22.out).mono ?_
              rintro e w24 ⟨rfl, hb⟩
              refine ⟨_, rfl, ?_⟩
              replace HO_350001 := zK (Kd.R_below (zr HO_350001) hb)
              replace BK346 := zK (blk_below (g := gb346) (o := .cells #[.int .i64 x347000_1, .slice none 0 0] 62 (0, 0)) (zb BK346) hb)
              replace BK349 := zK (blk_below (g := gb349) (o := .cells #[.int .i64 x350000_2, u350001] 62 (0, 0)) (zb BK349) hb)
              replace BK350 := zK (blk_below (g := gb350) (o := .cells #[.int .i64 x351000_3, .int .u64 x351001_3, .int .i64 x351002_3, .int .u64 x351003_3] 109 (0, 0)) (zb BK350) hb)
              replace HB := zK (below_step (zo HB) hb)
              (try clear hb); (try clear hb2); (try clear hk); (try clear hi)
              refine hK.out _ _ ⟨(blk_cell BK350.out 0).trans rfl, (blk_cell BK350.out 1).trans rfl, (blk_cell BK350.out 2).trans rfl, (blk_cell BK350.out 3).trans rfl, ((HB.out.cell (World.block_lt_of_cell? w _ hw351_0)).trans hw351_0), ((HB.out.cell (World.block_lt_of_cell? w _ hw351_1)).trans hw351_1), ((HB.out.cell (World.block_lt_of_cell? w _ hw352_0)).trans hw352_0)⟩ (fun hHeld => ?_)
              clear hK K
              refine norm_ (a' := ?_) ?_ ?_; rotate_left; (show Act.put _ (some 56) _ = _; simp only [Act.put, zt, zz, zs, i64_w, i32_w]; rfl)
              refine last_ (i := 11) (N := none) #[T_,T_,T_,T_,T_,T_,T_,T_,T_,T_,T_,T_] rfl rfl (one_of HT_.out (by kernel_rfl)) (by decide) (fun K hK => ?_)
              have hs25 : w24.cell? ⟨gb350, 0, none⟩ = some (.int .i64 x351000_3) := (blk_cell BK350.out 0).trans rfl
              have hfs25 := blk_frozen BK350.out 0
              have hns25_0 := NB346_350.out
              have hns25_1 := NB349_350.out
              have hms25_0 := NB350_346.out
              have hms25_1 := NB350_349.out
              have hs26 : w24.cell? ⟨gb350, 1, none⟩ = some (.int .u64 x351001_3) := (blk_cell BK350.out 1).trans rfl
              have hfs26 := blk_frozen BK350.out 1
              have hns26_0 := NB346_350.out
              have hns26_1 := NB349_350.out
              have hms26_0 := NB350_346.out
              have hms26_1 := NB350_349.out
              have hs27 : w24.cell? ⟨gb350, 2, none⟩ = some (.int .i64 x351002_3) := (blk_cell BK350.out 2).trans rfl
              have hfs27 := blk_frozen BK350.out 2
              have hns27_0 := NB346_350.out
              have hns27_1 := NB349_350.out
              have hms27_0 := NB350_346.out
              have hms27_1 := NB350_349.out
              have hs28 : w24.cell? ⟨gb350, 3, none⟩ = some (.int .u64 x351003_3) := (blk_cell BK350.out 3).trans rfl
              have hfs28 := blk_frozen BK350.out 3
              have hns28_0 := NB346_350.out
              have hns28_1 := NB349_350.out
              have hms28_0 := NB350_346.out
              have hms28_1 := NB350_349.out
              refine skip_ (w1 := ?_) (by rfl) rfl ?_ ?_
              rotate_left
              ·go_simp
               rfl
              refine hK.out _ _ ?_
              clear hK K
              refine done_ (done_of HT_.out (by kernel_rfl)) ?_
              try go_wp2
              go_roundg k3
              case measure => have := HK1.out; have := HK2.out; have := HK3.out; omega
              case rel => exact ⟨(wrap64 (x11_3 + 1)), (t353), (t354), (t355), (t356), (by first | rfl | (simp; done) | (simp [*]; done)), H', ⟨by have := HK1.out; have := HK2.out; have := HK3.out; omega⟩, ⟨by (with_reducible repeat (first | apply Kd.R_alloc | apply Kd.R_drewN | apply Kd.R_drew)); exact Kd.R_mono (Kd.R_far (p := ⟨gb350, 3, none⟩) (Kd.R_far (p := ⟨gb350, 2, none⟩) (Kd.R_far (p := ⟨gb350, 1, none⟩) (Kd.R_far (p := ⟨gb350, 0, none⟩) (Kd.R_types HO_350001.out BK350.out (by decide)) (fun _ hk => hk.2) (.int .i64 t353)) (fun _ hk => hk.2) (.int .u64 t354)) (fun _ hk => hk.2) (.int .i64 t355)) (fun _ hk => hk.2) (.int .u64 t356)) (fun _ hk => trivial)⟩, ⟨zb BK346⟩, ⟨zb BK349⟩, ⟨by refine zM ?_; refine blk_put (cs := #[.int .i64 t353, .int .u64 t354, .int .i64 t355, .int .u64 x351003_3]) ?_ 3 _ rfl; refine zM ?_; refine blk_put (cs := #[.int .i64 t353, .int .u64 t354, .int .i64 x351002_3, .int .u64 x351003_3]) ?_ 2 _ rfl; refine zM ?_; refine blk_put (cs := #[.int .i64 t353, .int .u64 x351001_3, .int .i64 x351002_3, .int .u64 x351003_3]) ?_ 1 _ rfl; refine zM ?_; refine blk_put (cs := #[.int .i64 x351000_3, .int .u64 x351001_3, .int .i64 x351002_3, .int .u64 x351003_3]) ?_ 0 _ rfl; refine zM ?_; exact BK350.out⟩, ⟨zo HB⟩⟩
             ·rw [if_neg c21] at H
              exact absurd H (by simp)
            ·rw [if_neg c20] at H
             exact absurd H (by simp)
           ·rw [if_neg c19] at H
            have c19b0 : decide (x9_2 < 0) = false := decide_eq_false c19; clear c19
            by_cases c29 : 0 ≤ x11_3
            ·rw [if_pos c29] at H
             have c29b0 : decide (0 ≤ x11_3) = true := decide_eq_true c29; clear c29
             replace H := Option.bind_eq_some_iff.mp H
             obtain ⟨t358, A300, H⟩ := H
             replace H : (if x11_3 < (l1.length : Int) then ((sequiturref27_More.f k3 x351000_3 x351001_3 x351002_3 x351003_3 t358 (rd l1 x11_3)).bind fun bt360 => (sequiturref27_Sum.l2 k3 l0 l1 x8_2 x9_2 (wrap64 (x11_3 + 1)) x350000_2 x350001_2 bt360.1 bt360.2.1 bt360.2.2.1 bt360.2.2.2)) else (none)) = some (r1, r2, r3) := H
             have A30 := zK A300; clear A300
             by_cases c31 : x11_3 < (l1.length : Int)
             ·rw [if_pos c31] at H
              have c31b0 : decide (x11_3 < (l1.length : Int)) = true := decide_eq_true c31
              clear c31; replace H := Option.bind_eq_some_iff.mp H
              obtain ⟨⟨t360, t361, t362, t363⟩, A320, H⟩ := H
              replace H : (sequiturref27_Sum.l2 k3 l0 l1 x8_2 x9_2 (wrap64 (x11_3 + 1)) x350000_2 x350001_2 t360 t361 t362 t363) = some (r1, r2, r3) := H
              have A32 := zK A320; clear A320
              have H' := zK H; clear H
              try go_wp2
              replace HO_350001 := zK (Kd.R_drew HO_350001.out)
              replace BK346 := zK (zD BK346.out)
              replace BK349 := zK (zD BK349.out)
              replace BK350 := zK (zD BK350.out)
              replace HB := zK (yD HB.out)
              have p357 : 0 ≤ (x11_3 : Int) := of_decide_eq_true (by first | (with_reducible assumption) | assumption)
              have q357 : x11_3 < (l0.length : Int) := of_decide_eq_true (by first | (with_reducible assumption) | assumption)
              obtain ⟨ad357, A357_1, c357_1, e357, hx357_0, hx357_1, hl357_1, hi357_1⟩ := at_T62 HR0.out x11_3 p357 q357
              have hw357_1 := hx357_1
              have hw357_0 := hx357_0
              cases e357
              replace hx357_0 := (HB.out.cell (World.block_lt_of_cell? w _ hx357_0)).trans hx357_0
              replace hx357_1 := (HB.out.cell (World.block_lt_of_cell? w _ hx357_1)).trans hx357_1
              have HR357_1 := zK hi357_1
              have HC357_1 := zK hl357_1; clear hi357_1 hl357_1
              replace p357 := eq_true p357
              replace q357 := eq_true q357
              have p359 : 0 ≤ (x11_3 : Int) := of_decide_eq_true (by first | (with_reducible assumption) | assumption)
              have q359 : x11_3 < (l1.length : Int) := of_decide_eq_true (by first | (with_reducible assumption) | assumption)
              obtain ⟨ad359, e359, hx359_0⟩ := Kd.at_int HR1.out x11_3 p359 q359
              have hw359_0 := hx359_0
              cases e359
              replace hx359_0 := (HB.out.cell (World.block_lt_of_cell? w _ hx359_0)).trans hx359_0
              replace p359 := eq_true p359
              replace q359 := eq_true q359
              refine start_ (n := 13) (S := fun w' => w'.cell? ⟨gb350, 0, none⟩ = some (.int .i64 x351000_3) ∧ w'.cell? ⟨gb350, 1, none⟩ = some (.int .u64 x351001_3) ∧ w'.cell? ⟨gb350, 2, none⟩ = some (.int .i64 x351002_3) ∧ w'.cell? ⟨gb350, 3, none⟩ = some (.int .u64 x351003_3) ∧ w'.cell? (ad357.add ((x11_3).toNat * 2)) = some (.int .i64 ((rd_T62 l0 x11_3).f0)) ∧ w'.cell? ⟨(ad357.add ((x11_3).toNat * 2)).block, (ad357.add ((x11_3).toNat * 2)).off + 1, none⟩ = some (.slice A357_1 ((rd_T62 l0 x11_3).f1).length c357_1) ∧ w'.cell? (ad359.add (x11_3).toNat) = some (.int .i64 (rd l1 x11_3))) (ds := [12]) #[F_,F_,F_,F_,F_,F_,F_,F_,F_,F_,F_,F_,F_] (by kernel_rfl) rfl rfl ⟨(blk_cell BK350.out 0).trans rfl, (blk_cell BK350.out 1).trans rfl, (blk_cell BK350.out 2).trans rfl, (blk_cell BK350.out 3).trans rfl, ((HB.out.cell (World.block_lt_of_cell? w _ hw357_0)).trans hw357_0), ((HB.out.cell (World.block_lt_of_cell? w _ hw357_1)).trans hw357_1), ((HB.out.cell (World.block_lt_of_cell? w _ hw359_0)).trans hw359_0)⟩ (fun hHeld => ?_); refine with_tabW sequiturref27_Sum.tab19 sequiturref27_Sum.bits19 (fun HT_ HW_ => ?_)
              generalize wr.drew = w33 at HO_350001 BK346 BK349 BK350 HB HR357_1 hx357_0 hx357_1 hx359_0 hHeld ⊢
              refine pure_ (i := 1) (N := some 58) (v := ?_) (a' := ?_) #[F_,T_,F_,F_,F_,F_,F_,F_,F_,F_,F_,F_,F_] rfl rfl (any_of HT_.out (by kernel_rfl)) (fun _ _ _ h => h) (Or.inl ⟨by rfl, ?_⟩) ?_ ?_; rotate_left; (intro w'; go_simp; with_reducible rfl); rotate_left; (simp only [Act.put, zt, zz, zs, i64_w, i32_w]; rfl)
              refine pure_ (i := 2) (N := some 59) (v := ?_) (a' := ?_) #[F_,T_,T_,F_,F_,F_,F_,F_,F_,F_,F_,F_,F_] rfl rfl (any_of HT_.out (by kernel_rfl)) (fun _ _ _ h => h) (Or.inl ⟨by rfl, ?_⟩) ?_ ?_; rotate_left; (intro w'; go_simp; with_reducible rfl); rotate_left; (simp only [Act.put, zt, zz, zs, i64_w, i32_w]; rfl)
              refine pure_ (i := 3) (N := some 60) (v := ?_) (a' := ?_) #[F_,T_,T_,T_,F_,F_,F_,F_,F_,F_,F_,F_,F_] rfl rfl (any_of HT_.out (by kernel_rfl)) (fun _ _ _ h => h) (Or.inl ⟨by rfl, ?_⟩) ?_ ?_; rotate_left; (intro w'; go_simp; with_reducible rfl); rotate_left; (simp only [Act.put, zt, zz, zs, i64_w, i32_w]; rfl)
              refine pure_ (i := 5) (N := some 62) (v := ?_) (a' := ?_) #[F_,T_,T_,T_,F_,T_,F_,F_,F_,F_,F_,F_,F_] rfl rfl (any_of HT_.out (by kernel_rfl)) (fun _ _ _ h => h) (Or.inl ⟨by rfl, ?_⟩) ?_ ?_; rotate_left; (intro w'; go_simp; with_reducible rfl); rotate_left; (simp only [Act.put, zt, zz, zs, i64_w, i32_w]; rfl)
              refine pure_ (i := 7) (N := some 64) (v := ?_) (a' := ?_) #[F_,T_,T_,T_,F_,T_,F_,T_,F_,F_,F_,F_,F_] rfl rfl (any_of HT_.out (by kernel_rfl)) (fun _ _ _ h => h) (Or.inl ⟨by rfl, ?_⟩) ?_ ?_; rotate_left; (intro w'; go_simp; with_reducible rfl); rotate_left; (simp only [Act.put, zt, zz, zs, i64_w, i32_w]; rfl)
              refine pure_ (i := 8) (N := some 65) (v := ?_) (a' := ?_) #[F_,T_,T_,T_,F_,T_,F_,T_,T_,F_,F_,F_,F_] rfl rfl (any_of HT_.out (by kernel_rfl)) (fun _ _ _ h => h) (Or.inl ⟨by rfl, ?_⟩) ?_ ?_; rotate_left; (intro w'; go_simp; with_reducible rfl); rotate_left; (simp only [Act.put, zt, zz, zs, i64_w, i32_w]; rfl)
              refine pure_ (i := 9) (N := some 66) (v := ?_) (a' := ?_) #[F_,T_,T_,T_,F_,T_,F_,T_,T_,T_,F_,F_,F_] rfl rfl (any_of HT_.out (by kernel_rfl)) (fun _ _ _ h => h) (Or.inl ⟨by rfl, ?_⟩) ?_ ?_; rotate_left; (intro w'; go_simp; with_reducible rfl); rotate_left; (simp only [Act.put, zt, zz, zs, i64_w, i32_w]; rfl)
              refine take_ (i := 0) (N := some 57) (v := ?_) (a' := ?_) #[T_,T_,T_,T_,F_,T_,F_,T_,T_,T_,F_,F_,F_] rfl rfl (take_ofW HT_.out HW_.out (by kernel_rfl)) (fun _ _ _ h => h) (Or.inl ⟨by rfl, ?_⟩) hHeld ?_ ?_; rotate_left; (rintro w' ⟨s0, s1, s2, s3, s4, s5, s6⟩; go_simp; with_reducible rfl); rotate_left; (simp only [Act.put, zt, zz, zs, i64_w, i32_w]; rfl)
              refine take_ (i := 4) (N := some 61) (v := ?_) (a' := ?_) #[T_,T_,T_,T_,T_,T_,F_,T_,T_,T_,F_,F_,F_] rfl rfl (take_ofW HT_.out HW_.out (by kernel_rfl)) (fun _ _ _ h => h) (Or.inl ⟨by rfl, ?_⟩) hHeld ?_ ?_; rotate_left; (rintro w' ⟨s0, s1, s2, s3, s4, s5, s6⟩; go_simp; with_reducible rfl); rotate_left; (simp only [Act.put, zt, zz, zs, i64_w, i32_w]; rfl)
              refine take_ (i := 10) (N := some 67) (v := ?_) (a' := ?_) #[T_,T_,T_,T_,T_,T_,F_,T_,T_,T_,T_,F_,F_] rfl rfl (take_ofW HT_.out HW_.out (by kernel_rfl)) (fun _ _ _ h => h) (Or.inl ⟨by rfl, ?_⟩) hHeld ?_ ?_; rotate_left; (rintro w' ⟨s0, s1, s2, s3, s4, s5, s6⟩; go_simp; with_reducible rfl); rotate_left; (simp only [Act.put, zt, zz, zs, i64_w, i32_w]; rfl)
              refine one_ (i := 6) (N := some 63) #[T_,T_,T_,T_,T_,T_,T_,T_,T_,T_,T_,F_,F_] rfl rfl (one_of HT_.out (by kernel_rfl)) (by decide) (fun K hK => ?_)
              refine goes_ Try.func42 (by kernel_rfl) rfl #[.agg #[.int .i64 ((rd_T62 l0 x11_3).f0), .slice A357_1 ((rd_T62 l0 x11_3).f1).length c357_1], .int .i64 x9_2] (by rfl) rfl rfl (by (try simp only [List.map_toArray, List.map_cons, List.map_nil]); first | done | rfl | (simp only [List.length_drop, List.length_take]; rfl)) ?_
              with_reducible refine (sequiturref27_By.calls k3 ((rd_T62 l0 x11_3).f0) _ _ ((rd_T62 l0 x11_3).f1) x9_2 t358 _ ?side1 ?side2 A30.out).mono ?_
              (case side1 => repeat (first | exact (Kd.C_below HR357_1.out HB.out) | (with_reducible refine cA ?_ _) | (with_reducible refine cN ?_ _) | (with_reducible refine cD ?_)))
              (case side2 => exact HC357_1.out)
              rintro e w34 ⟨rfl, hb⟩
              refine ⟨_, rfl, ?_⟩
              replace HO_350001 := zK (Kd.R_below (zr HO_350001) hb)
              replace BK346 := zK (blk_below (g := gb346) (o := .cells #[.int .i64 x347000_1, .slice none 0 0] 62 (0, 0)) (zb BK346) hb)
              replace BK349 := zK (blk_below (g := gb349) (o := .cells #[.int .i64 x350000_2, u350001] 62 (0, 0)) (zb BK349) hb)
              replace BK350 := zK (blk_below (g := gb350) (o := .cells #[.int .i64 x351000_3, .int .u64 x351001_3, .int .i64 x351002_3, .int .u64 x351003_3] 109 (0, 0)) (zb BK350) hb)
              replace HB := zK (below_step (zo HB) hb)
              (try clear hb); (try clear hb2); (try clear hk); (try clear hi)
              refine hK.out _ _ ⟨(blk_cell BK350.out 0).trans rfl, (blk_cell BK350.out 1).trans rfl, (blk_cell BK350.out 2).trans rfl, (blk_cell BK350.out 3).trans rfl, ((HB.out.cell (World.block_lt_of_cell? w _ hw357_0)).trans hw357_0), ((HB.out.cell (World.block_lt_of_cell? w _ hw357_1)).trans hw357_1), ((HB.out.cell (World.block_lt_of_cell? w _ hw359_0)).trans hw359_0)⟩ (fun hHeld => ?_)
              clear hK K
              refine norm_ (a' := ?_) ?_ ?_; rotate_left; (show Act.put _ (some 63) _ = _; simp only [Act.put, zt, zz, zs, i64_w, i32_w]; rfl)
              refine one_ (i := 11) (N := some 68) #[T_,T_,T_,T_,T_,T_,T_,T_,T_,T_,T_,T_,F_] rfl rfl (one_of HT_.out (by kernel_rfl)) (by decide) (fun K hK => ?_)
              refine goes_ Try.func71 (by kernel_rfl) rfl #[.agg #[.int .i64 x351000_3, .int .u64 x351001_3, .int .i64 x351002_3, .int .u64 x351003_3], .int .i64 t358, .int .i64 (rd l1 x11_3)] (by rfl) rfl rfl (by (try simp only [List.map_toArray, List.map_cons, List.map_nil]); first | done | rfl | (simp only [List.length_drop, List.length_take]; rfl)) ?_
              with_reducible refine (sequiturref27_More.calls k3 x351000_3 x351001_3 x351002_3 x351003_3 t358 (rd l1 x11_3) t360 t361 t362 t363 _ A32.out).mono ?_
              rintro e w35 ⟨rfl, hb⟩
              refine ⟨_, rfl, ?_⟩
              replace HO_350001 := zK (Kd.R_below (zr HO_350001) hb)
              replace BK346 := zK (blk_below (g := gb346) (o := .cells #[.int .i64 x347000_1, .slice none 0 0] 62 (0, 0)) (zb BK346) hb)
              replace BK349 := zK (blk_below (g := gb349) (o := .cells #[.int .i64 x350000_2, u350001] 62 (0, 0)) (zb BK349) hb)
              replace BK350 := zK (blk_below (g := gb350) (o := .cells #[.int .i64 x351000_3, .int .u64 x351001_3, .int .i64 x351002_3, .int .u64 x351003_3] 109 (0, 0)) (zb BK350) hb)
              replace HB := zK (below_step (zo HB) hb)
              (try clear hb); (try clear hb2); (try clear hk); (try clear hi)
              refine hK.out _ _ ⟨(blk_cell BK350.out 0).trans rfl, (blk_cell BK350.out 1).trans rfl, (blk_cell BK350.out 2).trans rfl, (blk_cell BK350.out 3).trans rfl, ((HB.out.cell (World.block_lt_of_cell? w _ hw357_0)).trans hw357_0), ((HB.out.cell (World.block_lt_of_cell? w _ hw357_1)).trans hw357_1), ((HB.out.cell (World.block_lt_of_cell? w _ hw359_0)).trans hw359_0)⟩ (fun hHeld => ?_)
              clear hK K
              refine norm_ (a' := ?_) ?_ ?_; rotate_left; (show Act.put _ (some 68) _ = _; simp only [Act.put, zt, zz, zs, i64_w, i32_w]; rfl)
              refine last_ (i := 12) (N := none) #[T_,T_,T_,T_,T_,T_,T_,T_,T_,T_,T_,T_,T_] rfl rfl (one_of HT_.out (by kernel_rfl)) (by decide) (fun K hK => ?_)
              have hs36 : w35.cell? ⟨gb350, 0, none⟩ = some (.int .i64 x351000_3) := (blk_cell BK350.out 0).trans rfl
              have hfs36 := blk_frozen BK350.out 0
              have hns36_0 := NB346_350.out
              have hns36_1 := NB349_350.out
              have hms36_0 := NB350_346.out
              have hms36_1 := NB350_349.out
              have hs37 : w35.cell? ⟨gb350, 1, none⟩ = some (.int .u64 x351001_3) := (blk_cell BK350.out 1).trans rfl
              have hfs37 := blk_frozen BK350.out 1
              have hns37_0 := NB346_350.out
              have hns37_1 := NB349_350.out
              have hms37_0 := NB350_346.out
              have hms37_1 := NB350_349.out
              have hs38 : w35.cell? ⟨gb350, 2, none⟩ = some (.int .i64 x351002_3) := (blk_cell BK350.out 2).trans rfl
              have hfs38 := blk_frozen BK350.out 2
              have hns38_0 := NB346_350.out
              have hns38_1 := NB349_350.out
              have hms38_0 := NB350_346.out
              have hms38_1 := NB350_349.out
              have hs39 : w35.cell? ⟨gb350, 3, none⟩ = some (.int .u64 x351003_3) := (blk_cell BK350.out 3).trans rfl
              have hfs39 := blk_frozen BK350.out 3
              have hns39_0 := NB346_350.out
              have hns39_1 := NB349_350.out
              have hms39_0 := NB350_346.out
              have hms39_1 := NB350_349.out
              refine skip_ (w1 := ?_) (by rfl) rfl ?_ ?_
              rotate_left
              ·go_simp
               rfl
              refine hK.out _ _ ?_
              clear hK K
              refine done_ (done_of HT_.out (by kernel_rfl)) ?_
              try go_wp2
              go_roundg k3
              case measure => have := HK1.out; have := HK2.out; have := HK3.out; omega
              case rel => exact ⟨(wrap64 (x11_3 + 1)), (t360), (t361), (t362), (t363), (by first | rfl | (simp; done) | (simp [*]; done)), H', ⟨by have := HK1.out; have := HK2.out; have := HK3.out; omega⟩, ⟨by (with_reducible repeat (first | apply Kd.R_alloc | apply Kd.R_drewN | apply Kd.R_drew)); exact Kd.R_mono (Kd.R_far (p := ⟨gb350, 3, none⟩) (Kd.R_far (p := ⟨gb350, 2, none⟩) (Kd.R_far (p := ⟨gb350, 1, none⟩) (Kd.R_far (p := ⟨gb350, 0, none⟩) (Kd.R_types HO_350001.out BK350.out (by decide)) (fun _ hk => hk.2) (.int .i64 t360)) (fun _ hk => hk.2) (.int .u64 t361)) (fun _ hk => hk.2) (.int .i64 t362)) (fun _ hk => hk.2) (.int .u64 t363)) (fun _ hk => trivial)⟩, ⟨zb BK346⟩, ⟨zb BK349⟩, ⟨by refine zM ?_; refine blk_put (cs := #[.int .i64 t360, .int .u64 t361, .int .i64 t362, .int .u64 x351003_3]) ?_ 3 _ rfl; refine zM ?_; refine blk_put (cs := #[.int .i64 t360, .int .u64 t361, .int .i64 x351002_3, .int .u64 x351003_3]) ?_ 2 _ rfl; refine zM ?_; refine blk_put (cs := #[.int .i64 t360, .int .u64 x351001_3, .int .i64 x351002_3, .int .u64 x351003_3]) ?_ 1 _ rfl; refine zM ?_; refine blk_put (cs := #[.int .i64 x351000_3, .int .u64 x351001_3, .int .i64 x351002_3, .int .u64 x351003_3]) ?_ 0 _ rfl; refine zM ?_; exact BK350.out⟩, ⟨zo HB⟩⟩
             ·rw [if_neg c31] at H
              exact absurd H (by simp)
            ·rw [if_neg c29] at H
             exact absurd H (by simp)
          ·rw [if_neg c18] at H
           have c18b0 : decide (x11_3 < (l0.length : Int)) = false := decide_eq_false c18
           clear c18; replace H := Option.bind_eq_some_iff.mp H
           obtain ⟨⟨t364, t365⟩, A400, H⟩ := H
           replace H : (if x8_2 = true then (sequiturref27_Sum.j3 k3 l0 l1 t365 x9_2 t364 x350000_2 x350001_2) else (sequiturref27_Sum.j3 k3 l0 l1 false x9_2 t364 x350000_2 x350001_2)) = some (r1, r2, r3) := H
           have A40 := zK A400; clear A400
           have HC41 := zK H; clear H
           have hnb42 := NB350_346.out
           have hnc42 := NB346_350.out
           have hnb43 := NB350_349.out
           have hnc43 := NB349_350.out
           have hcz44_0 : wr.cell? ⟨gb350, 0, none⟩ = some (.int .i64 x351000_3) := (blk_cell BK350.out 0).trans rfl
           have hcz44_1 : wr.cell? ⟨gb350, 1, none⟩ = some (.int .u64 x351001_3) := (blk_cell BK350.out 1).trans rfl
           have hcz44_2 : wr.cell? ⟨gb350, 2, none⟩ = some (.int .i64 x351002_3) := (blk_cell BK350.out 2).trans rfl
           have hcz44_3 : wr.cell? ⟨gb350, 3, none⟩ = some (.int .u64 x351003_3) := (blk_cell BK350.out 3).trans rfl
           have hfz44_0 := blk_frozen BK350.out 0
           have hfz44_1 := blk_frozen BK350.out 1
           have hfz44_2 := blk_frozen BK350.out 2
           have hfz44_3 := blk_frozen BK350.out 3
           go_upto_region 21 with (first | ((with_reducible refine zC (f := 72) rfl ?_); refine goesL_ (some 71) rfl rfl Try.func72 (by kernel_rfl) rfl #[.agg #[.int .i64 x351000_3, .int .u64 x351001_3, .int .i64 x351002_3, .int .u64 x351003_3]] rfl (by (try simp only [List.map_toArray, List.map_cons, List.map_nil]); first | done | rfl | (simp only [List.length_drop, List.length_take]; rfl)) ?_; (with_reducible refine (sequiturref27_Fits.calls x351000_3 x351001_3 x351002_3 x351003_3 t364 t365 _ A40.out).mono ?_); rintro e w45 ⟨rfl, hb⟩; refine ⟨_, rfl, ?_⟩; replace HO_350001 := zK (Kd.R_below (zr HO_350001) hb); replace BK346 := zK (blk_below (g := gb346) (o := .cells #[.int .i64 x347000_1, .slice none 0 0] 62 (0, 0)) (zb BK346) hb); replace BK349 := zK (blk_below (g := gb349) (o := .cells #[.int .i64 x350000_2, u350001] 62 (0, 0)) (zb BK349) hb); replace BK350 := zK (blk_below (g := gb350) (o := .cells #[.int .i64 x351000_3, .int .u64 x351001_3, .int .i64 x351002_3, .int .u64 x351003_3] 109 (0, 0)) (zb BK350) hb); replace HB := zK (below_step (zo HB) hb); (try clear hb); (try clear hb2); (try clear hk); (try clear hi)))
           (try simp only [Act.put, zt, zz, zs])
           go_cut [8] (fun v8 wc => ∃ (kq : Nat) (x8_40 : Bool), v8 = .bool x8_40 ∧ Aside0 (sequiturref27_Sum.j3 kq l0 l1 x8_40 x9_2 t364 x350000_2 x350001_2 = some (r1, r2, r3)) ∧ Aside0 (kq ≤ k3) ∧ Aside0 (Kd.R k68 68 wc w.heap.size (fun _ => True) u350001 x350001_2) ∧ Aside0 (wc.heap[gb346]? = some (.cells #[.int .i64 x347000_1, (.slice none 0 0)] 62 (0, 0))) ∧ Aside0 (wc.heap[gb349]? = some (.cells #[.int .i64 x350000_2, u350001] 62 (0, 0))) ∧ Aside0 (wc.heap[gb350]? = some (.cells #[.int .i64 x351000_3, .int .u64 x351001_3, .int .i64 x351002_3, .int .u64 x351003_3] 109 (0, 0))) ∧ Aside0 (Below w.heap.size w wc))
           case first =>
            have H := HC41.out; clear HC41
            by_cases c46 : x8_2 = true
            ·subst c46
             have H1 : (sequiturref27_Sum.j3 k3 l0 l1 t365 x9_2 t364 x350000_2 x350001_2) = some (r1, r2, r3) := by rw [if_pos rfl] at H; exact H
             clear H; have H := H1; clear H1
             have H' := zK H; clear H
             go_wp2
             go_meet
             case rel => exact ⟨_, (t365), (by first | rfl | (simp; done) | (simp [*]; done)), H', ⟨by have := HK1.out; have := HK2.out; have := HK3.out; first | omega | exact Nat.le_refl _⟩, ⟨zr HO_350001⟩, ⟨zb BK346⟩, ⟨zb BK349⟩, ⟨zb BK350⟩, ⟨zo HB⟩⟩
            ·replace c46 := Bool.eq_false_iff.mpr c46
             subst c46
             have H1 : (sequiturref27_Sum.j3 k3 l0 l1 false x9_2 t364 x350000_2 x350001_2) = some (r1, r2, r3) := by rw [if_neg (show ¬ (false = true) by decide)] at H; exact H
             clear H; have H := H1; clear H1
             have H' := zK H; clear H
             go_wp2
             go_meet
             case rel => exact ⟨_, (false), (by first | rfl | (simp; done) | (simp [*]; done)), H', ⟨by have := HK1.out; have := HK2.out; have := HK3.out; first | omega | exact Nat.le_refl _⟩, ⟨zr HO_350001⟩, ⟨zb BK346⟩, ⟨zb BK349⟩, ⟨zb BK350⟩, ⟨zo HB⟩⟩
           case rest =>
            clear HC41; try clear c1; try clear c2; try clear p2
            try clear c3; try clear c3b0; try clear c3b1; try clear c3b2
            try clear p3; try clear q3; try clear hx3; try clear c4
            try clear c5; try clear c5b0; try clear c6; try clear c6b0
            try clear p6; try clear c7; try clear c8; try clear c8b0
            try clear c8b1; try clear c13; try clear c13b0; try clear c15
            try clear c16; try clear c18; try clear c18b0; try clear c19
            try clear c19b0; try clear c20; try clear c20b0; try clear c21
            try clear c21b0; try clear c29; try clear c29b0; try clear c31
            try clear c31b0; try clear p34; try clear q34; try clear hx34
            try clear c35; try clear p35; try clear q35; try clear hx35
            try clear c42; try clear c43; try clear c46; try clear hcz11_0
            try clear hcz11_1; try clear hcz17_0; try clear hcz17_1; try clear hcz17_2
            try clear hcz17_3; try clear hcz44_0; try clear hcz44_1; try clear hcz44_2
            try clear hcz44_3; try clear hfz11_0; try clear hfz11_1; try clear hfz17_0
            try clear hfz17_1; try clear hfz17_2; try clear hfz17_3; try clear hfz44_0
            try clear hfz44_1; try clear hfz44_2; try clear hfz44_3; try clear hx347_0
            try clear hx347_1; try clear hx351_0; try clear hx351_1; try clear hx352_0
            try clear hx357_0; try clear hx357_1; try clear hx359_0; try clear p2
            try clear p3; try clear p347; try clear p351; try clear p352
            try clear p357; try clear p359; try clear p6; try clear q3
            try clear q347; try clear q351; try clear q352; try clear q357; try clear q359
            obtain ⟨kq, x8_40, rfl, HA, HJ40, HO_350001, BK346, BK349, BK350, HB⟩ := hcut
            cases kq with
            | zero => exact absurd HA.out (by simp [sequiturref27_Sum.j3])
            | succ kj40 =>
             have H := HA.out; clear HA
             simp only [sequiturref27_Sum.j3] at H
             by_cases c47 : x9_2 < 0
             ·rw [if_pos c47] at H
              have c47b0 : decide (x9_2 < 0) = true := decide_eq_true c47; clear c47
              have H' := zK H; clear H
              have hnb48 := NB349_346.out
              have hnc48 := NB346_349.out
              have hnb49 := NB349_350.out
              have hnc49 := NB350_349.out
              have hcz50_0 : wc.cell? ⟨gb349, 0, none⟩ = some (.int .i64 x350000_2) := (blk_cell BK349.out 0).trans rfl
              have hcz50_1 : wc.cell? ⟨gb349, 1, none⟩ = some (u350001) := (blk_cell BK349.out 1).trans rfl
              have hfz50_0 := blk_frozen BK349.out 0
              have hfz50_1 := blk_frozen BK349.out 1
              go_wp2
              go_roundg kj40
              case measure => have := HK1.out; have := HK2.out; have := HK3.out; have := HJ40.out; omega
              case rel => exact ⟨(x8_40), (wrap64 (x9_2 + 1)), (t364), (x350001_2), (u350001), (by first | rfl | (simp; done) | (simp [*]; done)), (by first | rfl | (simp; done) | (simp [*]; done)), H', ⟨by have := HK1.out; have := HK2.out; have := HK3.out; have := HJ40.out; omega⟩, ⟨by (with_reducible repeat (first | apply Kd.R_alloc | apply Kd.R_drewN | apply Kd.R_drew)); exact Kd.R_mono (Kd.R_far (p := ⟨gb349, 0, none⟩) (Kd.R_types HO_350001.out BK349.out (by decide)) (fun _ hk => hk.2) (.int .i64 t364)) (fun _ hk => trivial)⟩, ⟨zb BK346⟩, ⟨by refine zM ?_; refine blk_put (cs := #[.int .i64 x350000_2, u350001]) ?_ 0 _ rfl; refine zM ?_; exact BK349.out⟩, ⟨zo HB⟩⟩
             ·rw [if_neg c47] at H
              have c47b0 : decide (x9_2 < 0) = false := decide_eq_false c47; clear c47
              by_cases c51 : t364 = 0
              ·rw [if_pos c51] at H
               have c51b0 : (t364 == 0) = true := beq_iff_eq.mpr c51
               have c51b1 : (t364 != 0) = false := bne_eq_false_iff_eq.mpr c51; clear c51
               have H' := zK H; clear H
               go_wp2
               go_roundg kj40
               case measure => have := HK1.out; have := HK2.out; have := HK3.out; have := HJ40.out; omega
               case rel => exact ⟨(x8_40), (wrap64 (x9_2 + 1)), (x350000_2), (x350001_2), (u350001), (by first | rfl | (simp; done) | (simp [*]; done)), (by first | rfl | (simp; done) | (simp [*]; done)), H', ⟨by have := HK1.out; have := HK2.out; have := HK3.out; have := HJ40.out; omega⟩, ⟨zr HO_350001⟩, ⟨zb BK346⟩, ⟨zb BK349⟩, ⟨zo HB⟩⟩
              ·rw [if_neg c51] at H
               have c51b0 : (t364 == 0) = false := beq_eq_false_iff_ne.mpr c51
               have c51b1 : (t364 != 0) = true := bne_iff_ne.mpr c51
               by_cases c52 : x350001_2.length < 8796093022208
               ·rw [if_pos c52] at H
                have LMc52 := zK c52; clear c52
                obtain ⟨y366, hy366⟩ : ∃ y_ : List (S68), y_ = (x350001_2 ++ [(⟨x9_2, t364⟩ : S68)]) := ⟨_, rfl⟩
                replace H : (sequiturref27_Sum.l1 kj40 l0 l1 x8_40 (wrap64 (x9_2 + 1)) x350000_2 y366) = some (r1, r2, r3) := by first | (rw [hy366]; with_reducible exact H) | (have H2_ := (Option.bind_some _ _).symm.trans H; rw [hy366]; with_reducible exact H2_) | (have H2_ := (Option.bind_some _ _).symm.trans H; with_reducible exact H2_) | with_reducible exact H | (rw [hy366]; exact H) | exact H
                have Ny366 := zK hy366; clear hy366
                have H' := zK H; clear H
                have hnb53 := NB349_346.out
                have hnc53 := NB346_349.out
                have hnb54 := NB349_350.out
                have hnc54 := NB350_349.out
                have hcz55_0 : wc.cell? ⟨gb349, 0, none⟩ = some (.int .i64 x350000_2) := (blk_cell BK349.out 0).trans rfl
                have hcz55_1 : wc.cell? ⟨gb349, 1, none⟩ = some (u350001) := (blk_cell BK349.out 1).trans rfl
                have hfz55_0 := blk_frozen BK349.out 0
                have hfz55_1 := blk_frozen BK349.out 1
                go_wp2_with (first | ((with_reducible refine gate_builtin (b := .append) (xs := #[.tmp 85, .tmp 89]) rfl ?_); at_builtin; refine Kd.R_append k68 (w0 := w) w.heap.size rfl (.tmp 85) (.tmp 89) 60 68 (.agg #[(.int .i64 0), (.int .i64 0)]) 16 rfl Try.underlying60 info68 rfl (by decide) (by omega) u350001 x350001_2 (⟨x9_2, t364⟩ : S68) [.int .i64 x9_2, .int .i64 t364] (fun _ => True) (fun _ => False) rfl rfl ?aP (fun _ hk => hk.elim) ?aF ?aO ?aB ?aS ?aL ?_; (case aP => exact k68_mkM _ _ _ (⟨x9_2, t364⟩ : S68)); (case aB => exact (zo HB)); (case aF => exact (fun _ _ => trivial)); (case aO => exact (zr HO_350001)); (case aS => exact (below_size (zo HB))); (case aL => have := LMc52.out; omega); intro v367 w56 ho hb hg hat; rw [← Ny366.out] at ho; replace BK346 := zK (blk_grown (g := gb346) (o := .cells #[.int .i64 x347000_1, .slice none 0 0] 62 (0, 0)) (zb BK346) hg (Kd.R_ne HO_350001.out BK346.out (by decide))); replace BK349 := zK (blk_grown (g := gb349) (o := .cells #[.int .i64 x350000_2, u350001] 62 (0, 0)) (zb BK349) hg (Kd.R_ne HO_350001.out BK349.out (by decide))); replace BK350 := zK (blk_grown (g := gb350) (o := .cells #[.int .i64 x351000_3, .int .u64 x351001_3, .int .i64 x351002_3, .int .u64 x351003_3] 109 (0, 0)) (zb BK350) hg (Kd.R_ne HO_350001.out BK350.out (by decide))); replace HB := zK (hb); have HO368 := zK (ho); clear HO_350001 ho hb hg hat; obtain ⟨Ao57, co57, eo57⟩ := Kd.R_slice HO368.out; subst eo57; have hcz58_0 : w56.cell? ⟨gb349, 0, none⟩ = some (.int .i64 x350000_2) := (blk_cell BK349.out 0).trans rfl; have hcz58_1 : w56.cell? ⟨gb349, 1, none⟩ = some (u350001) := (blk_cell BK349.out 1).trans rfl; have hfz58_0 := blk_frozen BK349.out 0; have hfz58_1 := blk_frozen BK349.out 1))
                go_roundg kj40
                case measure => have := HK1.out; have := HK2.out; have := HK3.out; have := HJ40.out; omega
                case rel => exact ⟨(x8_40), (wrap64 (x9_2 + 1)), (x350000_2), (y366), (.slice Ao57 y366.length co57), (by first | rfl | (simp; done) | (simp [*]; done)), (by first | rfl | (simp; done) | (simp [*]; done)), H', ⟨by have := HK1.out; have := HK2.out; have := HK3.out; have := HJ40.out; omega⟩, ⟨by (with_reducible repeat (first | apply Kd.R_alloc | apply Kd.R_drewN | apply Kd.R_drew)); exact Kd.R_mono (Kd.R_far (p := ⟨gb349, 1, none⟩) (Kd.R_types HO368.out BK349.out (by decide)) (fun _ hk => hk.2) (.slice Ao57 y366.length co57)) (fun _ hk => trivial)⟩, ⟨zb BK346⟩, ⟨by refine zM ?_; refine blk_put (cs := #[.int .i64 x350000_2, u350001]) ?_ 1 _ rfl; refine zM ?_; exact BK349.out⟩, ⟨zo HB⟩⟩
               ·rw [if_neg c52] at H
                exact absurd H (by simp)
       ·rw [if_neg c13] at H
        have c13b0 : decide (x9_2 < 64) = false := decide_eq_false c13; clear c13
        by_cases c59 : x8_2 = true
        ·subst c59
         have H1 : (some (x350000_2, x350001_2, 0)) = some (r1, r2, r3) := by rw [if_pos rfl] at H; exact H
         clear H; have H := H1; clear H1
         simp only [Option.some.injEq, Prod.mk.injEq] at H
         obtain ⟨rfl, rfl, rfl⟩ := H
         have hnb60 := NB349_346.out
         have hnc60 := NB346_349.out
         have hcz61_0 : wr.cell? ⟨gb349, 0, none⟩ = some (.int .i64 x350000_2) := (blk_cell BK349.out 0).trans rfl
         have hcz61_1 : wr.cell? ⟨gb349, 1, none⟩ = some (u350001) := (blk_cell BK349.out 1).trans rfl
         have hfz61_0 := blk_frozen BK349.out 0
         have hfz61_1 := blk_frozen BK349.out 1
         have hcz62_0 : wr.cell? ⟨gb346, 0, none⟩ = some (.int .i64 x347000_1) := (blk_cell BK346.out 0).trans rfl
         have hcz62_1 : wr.cell? ⟨gb346, 1, none⟩ = some (.slice none 0 0) := (blk_cell BK346.out 1).trans rfl
         have hfz62_0 := blk_frozen BK346.out 0
         have hfz62_1 := blk_frozen BK346.out 1
         obtain ⟨Ao63, co63, eo63⟩ := Kd.R_slice HO_350001.out
         subst eo63
         go_wp2
         refine bodyPost_ret (results_ct rfl _ _ gb346 62 #[.int .i64 x350000_2, .slice Ao63 x350001_2.length co63] (0, 0) _ rfl (by refine zM ?_; refine blk_put (cs := #[.int .i64 x350000_2, .slice none 0 0]) ?_ 1 _ rfl; refine zM ?_; refine blk_put (cs := #[.int .i64 x347000_1, .slice none 0 0]) ?_ 0 _ rfl; refine zM ?_; exact BK346.out) Try.underlying62 rfl (by kernel_rfl)) rfl ?_
         exact ⟨_, by first | rfl | (simp [errW_none, errW_some] <;> rfl) | (simp [*, errW_none, errW_some] <;> rfl), by (with_reducible repeat (first | apply Kd.R_alloc | apply Kd.R_drewN | apply Kd.R_drew)); exact Kd.R_mono (Kd.R_far (p := ⟨gb346, 1, none⟩) (Kd.R_far (p := ⟨gb346, 0, none⟩) (Kd.R_types HO_350001.out BK346.out (by decide)) (fun _ hk => hk.2) (.int .i64 x350000_2)) (fun _ hk => hk.2) (.slice Ao63 x350001_2.length co63)) (fun _ hk => trivial), zo HB⟩
        ·replace c59 := Bool.eq_false_iff.mpr c59
         subst c59
         have H1 : (some (0, ([] : List (S68)), 5)) = some (r1, r2, r3) := by rw [if_neg (show ¬ (false = true) by decide)] at H; exact H
         clear H; have H := H1; clear H1
         simp only [Option.some.injEq, Prod.mk.injEq] at H
         obtain ⟨rfl, rfl, rfl⟩ := H
         have hnb64 := NB346_349.out
         have hnc64 := NB349_346.out
         have hcz65_0 : wr.cell? ⟨gb346, 0, none⟩ = some (.int .i64 x347000_1) := (blk_cell BK346.out 0).trans rfl
         have hcz65_1 : wr.cell? ⟨gb346, 1, none⟩ = some (.slice none 0 0) := (blk_cell BK346.out 1).trans rfl
         have hfz65_0 := blk_frozen BK346.out 0
         have hfz65_1 := blk_frozen BK346.out 1
         go_wp2
         refine bodyPost_ret (results_ct rfl _ _ gb346 62 #[.int .i64 0, .slice none 0 0] (0, 0) _ rfl (by refine zM ?_; refine blk_put (cs := #[.int .i64 0, .slice none 0 0]) ?_ 1 _ rfl; refine zM ?_; refine blk_put (cs := #[.int .i64 x347000_1, .slice none 0 0]) ?_ 0 _ rfl; refine zM ?_; exact BK346.out) Try.underlying62 rfl (by kernel_rfl)) rfl ?_
         exact ⟨_, by first | rfl | (simp [errW_none, errW_some] <;> rfl) | (simp [*, errW_none, errW_some] <;> rfl), by first | exact Kd.R_nil _ _ _ _ _ | exact Kd.N_nil _ _ _ _ _ | exact Kd.V_nil _ _ _ _ _ | exact Kd.Q_nil _ _ _ _ _ | exact Kd.S_nil _ _ _ _ _, zo HB⟩
 ·rw [if_neg c3] at H
  have c3b0 : ((l0.length : Int) == (l1.length : Int)) = false := beq_eq_false_iff_ne.mpr c3
  have c3b1 : ((l0.length : Int) != (l1.length : Int)) = true := bne_iff_ne.mpr c3
  have c3b2 : (l0.length == l1.length) = false := by first | simpa using c3 | (simp at c3 ⊢; omega)
  simp only [Option.some.injEq, Prod.mk.injEq] at H
  obtain ⟨rfl, rfl, rfl⟩ := H
  go_enter Try.func68, Try.ntmps68
  go_wp2_with (first | ((with_reducible refine gate_dst (N := 4) rfl ?_); refine box_event ?hg (N := 4) ?hd (cs := #[.int .i64 0, .slice none 0 0]) (t := 62) ?hr ?_; (case hd => rfl); (case hg => rfl); (case hr => first | (go_simp; done) | (go_simp; rfl)); intro gb346 hg w66 hbox hb; have BK346 := zK (hbox); have GW346 := zK ((by rw [hg]; exact (below_size (zo HB)) : w.heap.size ≤ gb346)); have GE346 := zK ((by rw [hg]; exact (below_size (zo HB)) : w.heap.size ≤ gb346)); replace HB := zK (below_step (zo HB) hb); clear hb hbox hg; have hcz67_0 : w66.cell? ⟨gb346, 0, none⟩ = some (.int .i64 0) := (blk_cell BK346.out 0).trans rfl; have hcz67_1 : w66.cell? ⟨gb346, 1, none⟩ = some (.slice none 0 0) := (blk_cell BK346.out 1).trans rfl; have hfz67_0 := blk_frozen BK346.out 0; have hfz67_1 := blk_frozen BK346.out 1))
  refine bodyPost_ret (results_ct rfl _ _ gb346 62 #[.int .i64 0, .slice none 0 0] (0, 0) _ rfl (by refine zM ?_; refine blk_put (cs := #[.int .i64 0, .slice none 0 0]) ?_ 1 _ rfl; refine zM ?_; refine blk_put (cs := #[.int .i64 0, .slice none 0 0]) ?_ 0 _ rfl; refine zM ?_; exact BK346.out) Try.underlying62 rfl (by kernel_rfl)) rfl ?_
  exact ⟨_, by first | rfl | (simp [errW_none, errW_some] <;> rfl) | (simp [*, errW_none, errW_some] <;> rfl), by first | exact Kd.R_nil _ _ _ _ _ | exact Kd.N_nil _ _ _ _ _ | exact Kd.V_nil _ _ _ _ _ | exact Kd.Q_nil _ _ _ _ _ | exact Kd.S_nil _ _ _ _ _, zo HB⟩

end Go.Proofs.Ytkfbfgkdabljiaa.PShadowSplits
