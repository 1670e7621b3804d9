/- What the call of each function that the law reaches comes to: it answers as the plain function of the same name does, wherever that one answers; and the law itself out of its plain form. Written by a program of this session (an extended copy of the printer); no condition but what stands in each theorem. -/
import Derived.Test.YtkfbfgkdabljiaaPShadowCastsx0
import Derived.Test.YtkfbfgkdabljiaaPShadowCastsx6
import Derived.Test.YtkfbfgkdabljiaaPShadowCastsx7
import Derived.Test.YtkfbfgkdabljiaaPShadowCastsx8
namespace Go.Proofs.Ytkfbfgkdabljiaa.PShadowCasts
open Go.RowKit Go.Proofs.YtkfbfgkdabljiaaW.PrintWords Go.Proofs.YtkfbfgkdabljiaaW.PrintLast Go.Proofs.YtkfbfgkdabljiaaW.PrintMore
open Go.Proofs.YtkfbfgkdabljiaaW.PrintWords renaming blk_drewN → zN, blk_drew → zD, blk_alloc → zA, below_alloc → yA, pw_below_drewN → yN, below_drew1 → yD, below_set → yS, gate_callee → zC
open Go.Proofs.YtkfbfgkdabljiaaW.PrintWords.Kd renaming C_alloc → cA, C_drewN → cN, C_drew → cD
open Go.Proofs.YtkfbfgkdabljiaaW.PrintWords.Aside0 renaming mk → zK
open Bool renaming true → T_, false → F_
open List renaming setIfInBounds_toArray → zt, set_cons_zero → zz, set_cons_succ → zs
attribute [local go_sem] max2_int min2_int max_two min_two max_three min_three max_four min_four   -- for this text's walks alone
set_option linter.unusedVariables false
set_option linter.unusedSimpArgs false

/-! ### sequiturref30_pair: function 43 -/
mutual
def sequiturref30_pair.l0 : Nat → Bool → Int → Int → Bool → Int → Int → List (S68) → Int → List (S68) → Int → List (S68) → Option (Int × (List (S68)) × Bool)
 | 0, _, _, _, _, _, _, _, _, _, _, _ => none
 | k + 1, x3, x10, x11, x13, x14, x262000, x262001, x263000, x263001, x267000, x267001 => if x14 < 64 then (if x14 ≥ 0 then ((sequiturref27_By.f k x262000 x262001 x14).bind fun t267 => ((sequiturref27_By.f k x263000 x263001 x14).bind fun t268 => (sequiturref30_pair.j1 k x3 x10 x11 x13 x14 t267 t268 x262000 x262001 x263000 x263001 x267000 x267001))) else (sequiturref30_pair.j1 k x3 x10 x11 x13 x14 x262000 x263000 x262000 x262001 x263000 x263001 x267000 x267001)) else (some (x267000, x267001, x13))
def sequiturref30_pair.j1 : Nat → Bool → Int → Int → Bool → Int → Int → Int → Int → List (S68) → Int → List (S68) → Int → List (S68) → Option (Int × (List (S68)) × Bool)
 | 0, _, _, _, _, _, _, _, _, _, _, _, _, _ => none
 | k + 1, x3, x10, x11, x13, x14, x15, x16, x262000, x262001, x263000, x263001, x267000, x267001 => (sequiturref01_Times.f k x16 x11).bind fun bt269 => ((sequiturref27_More.f k 0 0 0 0 x10 x15).bind fun bt272 => ((sequiturref01_Of.f bt269.1).bind fun bt277 => ((sequiturref01_Minus.f bt277.1 bt277.2).bind fun bt279 => ((sequiturref01_Plus.f bt272.1 bt272.2.1 bt279.1 bt279.2).bind fun bt281 => ((sequiturref01_Minus.f 0 bt269.2).bind fun bt283 => ((sequiturref01_Plus.f bt272.2.2.1 bt272.2.2.2 bt283.1 bt283.2).bind fun bt285 => (if x14 < 0 then (sequiturref30_pair.j2 k x3 x10 x11 x13 x14 x3 x262000 x262001 x263000 x263001 x267000 x267001 bt281.1 bt281.2 bt285.1 bt285.2) else (sequiturref30_pair.j2 k x3 x10 x11 x13 x14 false x262000 x262001 x263000 x263001 x267000 x267001 bt281.1 bt281.2 bt285.1 bt285.2))))))))
def sequiturref30_pair.j2 : Nat → Bool → Int → Int → Bool → Int → Bool → Int → List (S68) → Int → List (S68) → Int → List (S68) → Int → Int → Int → Int → Option (Int × (List (S68)) × Bool)
 | 0, _, _, _, _, _, _, _, _, _, _, _, _, _, _, _, _ => none
 | k + 1, x3, x10, x11, x13, x14, x70, x262000, x262001, x263000, x263001, x267000, x267001, x277000, x277001, x277002, x277003 => if x70 = true then ((sequiturref27_More.f k x277000 x277001 x277002 x277003 (wrap64 ((-1) - x11)) (wrap64 (x10 - 1))).bind fun bt287 => (sequiturref30_pair.j3 k x3 x10 x11 x13 x14 x262000 x262001 x263000 x263001 x267000 x267001 bt287.1 bt287.2.1 bt287.2.2.1 bt287.2.2.2)) else (sequiturref30_pair.j3 k x3 x10 x11 x13 x14 x262000 x262001 x263000 x263001 x267000 x267001 x277000 x277001 x277002 x277003)
def sequiturref30_pair.j3 : Nat → Bool → Int → Int → Bool → Int → Int → List (S68) → Int → List (S68) → Int → List (S68) → Int → Int → Int → Int → Option (Int × (List (S68)) × Bool)
 | 0, _, _, _, _, _, _, _, _, _, _, _, _, _, _, _ => none
 | k + 1, x3, x10, x11, x13, x14, x262000, x262001, x263000, x263001, x267000, x267001, x277000, x277001, x277002, x277003 => (sequiturref27_Fits.f x277000 x277001 x277002 x277003).bind fun bt291 => (if x13 = true then (sequiturref30_pair.j4 k x3 x10 x11 bt291.2 x14 bt291.1 x262000 x262001 x263000 x263001 x267000 x267001) else (sequiturref30_pair.j4 k x3 x10 x11 false x14 bt291.1 x262000 x262001 x263000 x263001 x267000 x267001))
def sequiturref30_pair.j4 : Nat → Bool → Int → Int → Bool → Int → Int → Int → List (S68) → Int → List (S68) → Int → List (S68) → Option (Int × (List (S68)) × Bool)
 | 0, _, _, _, _, _, _, _, _, _, _, _, _ => none
 | k + 1, x3, x10, x11, x13, x14, x19, x262000, x262001, x263000, x263001, x267000, x267001 => if x14 < 0 then (sequiturref30_pair.l0 k x3 x10 x11 x13 (wrap64 (x14 + 1)) x262000 x262001 x263000 x263001 x19 x267001) else (if x19 = 0 then (sequiturref30_pair.l0 k x3 x10 x11 x13 (wrap64 (x14 + 1)) x262000 x262001 x263000 x263001 x267000 x267001) else (if x267001.length < 8796093022208 then (sequiturref30_pair.l0 k x3 x10 x11 x13 (wrap64 (x14 + 1)) x262000 x262001 x263000 x263001 x267000 (x267001 ++ [(⟨x14, x19⟩ : S68)])) else (none)))
end
def sequiturref30_pair.f (k : Nat) (a0_0 : Int) (l0_1 : List (S68)) (a1_0 : Int) (l1_1 : List (S68)) (a2 : Int) (a3 : Bool) : Option (Int × (List (S68)) × Bool) := (sequiturref27_By.f k a1_0 l1_1 a2).bind fun t264 => ((sequiturref27_By.f k a0_0 l0_1 a2).bind fun t265 => (sequiturref30_pair.l0 k a3 t264 t265 true (-1) a0_0 l0_1 a1_0 l1_1 0 ([] : List (S68))))
theorem sequiturref30_pair.mono_l : ∀ k, (∀ y0 y1 y2 y3 y4 y5 y6 y7 y8 y9 y10, LeO (sequiturref30_pair.l0 k y0 y1 y2 y3 y4 y5 y6 y7 y8 y9 y10) (sequiturref30_pair.l0 (k + 1) y0 y1 y2 y3 y4 y5 y6 y7 y8 y9 y10)) ∧ (∀ y0 y1 y2 y3 y4 y5 y6 y7 y8 y9 y10 y11 y12, LeO (sequiturref30_pair.j1 k y0 y1 y2 y3 y4 y5 y6 y7 y8 y9 y10 y11 y12) (sequiturref30_pair.j1 (k + 1) y0 y1 y2 y3 y4 y5 y6 y7 y8 y9 y10 y11 y12)) ∧ (∀ y0 y1 y2 y3 y4 y5 y6 y7 y8 y9 y10 y11 y12 y13 y14 y15, LeO (sequiturref30_pair.j2 k y0 y1 y2 y3 y4 y5 y6 y7 y8 y9 y10 y11 y12 y13 y14 y15) (sequiturref30_pair.j2 (k + 1) y0 y1 y2 y3 y4 y5 y6 y7 y8 y9 y10 y11 y12 y13 y14 y15)) ∧ (∀ y0 y1 y2 y3 y4 y5 y6 y7 y8 y9 y10 y11 y12 y13 y14, LeO (sequiturref30_pair.j3 k y0 y1 y2 y3 y4 y5 y6 y7 y8 y9 y10 y11 y12 y13 y14) (sequiturref30_pair.j3 (k + 1) y0 y1 y2 y3 y4 y5 y6 y7 y8 y9 y10 y11 y12 y13 y14)) ∧ (∀ y0 y1 y2 y3 y4 y5 y6 y7 y8 y9 y10 y11, LeO (sequiturref30_pair.j4 k y0 y1 y2 y3 y4 y5 y6 y7 y8 y9 y10 y11) (sequiturref30_pair.j4 (k + 1) y0 y1 y2 y3 y4 y5 y6 y7 y8 y9 y10 y11))
 | 0 => ⟨fun _ _ _ _ _ _ _ _ _ _ _ r h => by simp [sequiturref30_pair.l0] at h, fun _ _ _ _ _ _ _ _ _ _ _ _ _ r h => by simp [sequiturref30_pair.j1] at h, fun _ _ _ _ _ _ _ _ _ _ _ _ _ _ _ _ r h => by simp [sequiturref30_pair.j2] at h, fun _ _ _ _ _ _ _ _ _ _ _ _ _ _ _ r h => by simp [sequiturref30_pair.j3] at h, fun _ _ _ _ _ _ _ _ _ _ _ _ r h => by simp [sequiturref30_pair.j4] at h⟩
 | k + 1 => by
  obtain ⟨ih0, ih1, ih2, ih3, ih4⟩ := sequiturref30_pair.mono_l k
  refine ⟨?_, ?_, ?_, ?_, ?_⟩
  ·intro y0 y1 y2 y3 y4 y5 y6 y7 y8 y9 y10
   unfold sequiturref30_pair.l0
   repeat' first
   | (with_reducible exact ih0 _ _ _ _ _ _ _ _ _ _ _)
   | (with_reducible exact ih1 _ _ _ _ _ _ _ _ _ _ _ _ _)
   | (with_reducible exact ih2 _ _ _ _ _ _ _ _ _ _ _ _ _ _ _ _)
   | (with_reducible exact ih3 _ _ _ _ _ _ _ _ _ _ _ _ _ _ _)
   | (with_reducible exact ih4 _ _ _ _ _ _ _ _ _ _ _ _)
   | (with_reducible exact sequiturref01_Times.mono _ _ _)
   | (with_reducible exact sequiturref27_By.mono _ _ _ _)
   | (with_reducible exact sequiturref27_More.mono _ _ _ _ _ _ _)
   | (with_reducible exact LeO.refl _)
   | (with_reducible exact LeO.none _)
   | (with_reducible refine LeO.ite ?_ ?_)
   | (with_reducible refine LeO.bind ?_ (fun _ => ?_))
   | exact ih0 _ _ _ _ _ _ _ _ _ _ _
   | exact ih1 _ _ _ _ _ _ _ _ _ _ _ _ _
   | exact ih2 _ _ _ _ _ _ _ _ _ _ _ _ _ _ _ _
   | exact ih3 _ _ _ _ _ _ _ _ _ _ _ _ _ _ _
   | exact ih4 _ _ _ _ _ _ _ _ _ _ _ _
   | exact sequiturref01_Times.mono _ _ _
   | exact sequiturref27_By.mono _ _ _ _
   | exact sequiturref27_More.mono _ _ _ _ _ _ _
   | exact LeO.none _
   | refine LeO.ite ?_ ?_
   | refine LeO.bind ?_ (fun _ => ?_)
  ·intro y0 y1 y2 y3 y4 y5 y6 y7 y8 y9 y10 y11 y12
   unfold sequiturref30_pair.j1
   repeat' first
   | (with_reducible exact ih0 _ _ _ _ _ _ _ _ _ _ _)
   | (with_reducible exact ih1 _ _ _ _ _ _ _ _ _ _ _ _ _)
   | (with_reducible exact ih2 _ _ _ _ _ _ _ _ _ _ _ _ _ _ _ _)
   | (with_reducible exact ih3 _ _ _ _ _ _ _ _ _ _ _ _ _ _ _)
   | (with_reducible exact ih4 _ _ _ _ _ _ _ _ _ _ _ _)
   | (with_reducible exact sequiturref01_Times.mono _ _ _)
   | (with_reducible exact sequiturref27_By.mono _ _ _ _)
   | (with_reducible exact sequiturref27_More.mono _ _ _ _ _ _ _)
   | (with_reducible exact LeO.refl _)
   | (with_reducible exact LeO.none _)
   | (with_reducible refine LeO.ite ?_ ?_)
   | (with_reducible refine LeO.bind ?_ (fun _ => ?_))
   | exact ih0 _ _ _ _ _ _ _ _ _ _ _
   | exact ih1 _ _ _ _ _ _ _ _ _ _ _ _ _
   | exact ih2 _ _ _ _ _ _ _ _ _ _ _ _ _ _ _ _
   | exact ih3 _ _ _ _ _ _ _ _ _ _ _ _ _ _ _
   | exact ih4 _ _ _ _ _ _ _ _ _ _ _ _
   | exact sequiturref01_Times.mono _ _ _
   | exact sequiturref27_By.mono _ _ _ _
   | exact sequiturref27_More.mono _ _ _ _ _ _ _
   | exact LeO.none _
   | refine LeO.ite ?_ ?_
   | refine LeO.bind ?_ (fun _ => ?_)
  ·intro y0 y1 y2 y3 y4 y5 y6 y7 y8 y9 y10 y11 y12 y13 y14 y15
   unfold sequiturref30_pair.j2
   repeat' first
   | (with_reducible exact ih0 _ _ _ _ _ _ _ _ _ _ _)
   | (with_reducible exact ih1 _ _ _ _ _ _ _ _ _ _ _ _ _)
   | (with_reducible exact ih2 _ _ _ _ _ _ _ _ _ _ _ _ _ _ _ _)
   | (with_reducible exact ih3 _ _ _ _ _ _ _ _ _ _ _ _ _ _ _)
   | (with_reducible exact ih4 _ _ _ _ _ _ _ _ _ _ _ _)
   | (with_reducible exact sequiturref01_Times.mono _ _ _)
   | (with_reducible exact sequiturref27_By.mono _ _ _ _)
   | (with_reducible exact sequiturref27_More.mono _ _ _ _ _ _ _)
   | (with_reducible exact LeO.refl _)
   | (with_reducible exact LeO.none _)
   | (with_reducible refine LeO.ite ?_ ?_)
   | (with_reducible refine LeO.bind ?_ (fun _ => ?_))
   | exact ih0 _ _ _ _ _ _ _ _ _ _ _
   | exact ih1 _ _ _ _ _ _ _ _ _ _ _ _ _
   | exact ih2 _ _ _ _ _ _ _ _ _ _ _ _ _ _ _ _
   | exact ih3 _ _ _ _ _ _ _ _ _ _ _ _ _ _ _
   | exact ih4 _ _ _ _ _ _ _ _ _ _ _ _
   | exact sequiturref01_Times.mono _ _ _
   | exact sequiturref27_By.mono _ _ _ _
   | exact sequiturref27_More.mono _ _ _ _ _ _ _
   | exact LeO.none _
   | refine LeO.ite ?_ ?_
   | refine LeO.bind ?_ (fun _ => ?_)
  ·intro y0 y1 y2 y3 y4 y5 y6 y7 y8 y9 y10 y11 y12 y13 y14
   unfold sequiturref30_pair.j3
   repeat' first
   | (with_reducible exact ih0 _ _ _ _ _ _ _ _ _ _ _)
   | (with_reducible exact ih1 _ _ _ _ _ _ _ _ _ _ _ _ _)
   | (with_reducible exact ih2 _ _ _ _ _ _ _ _ _ _ _ _ _ _ _ _)
   | (with_reducible exact ih3 _ _ _ _ _ _ _ _ _ _ _ _ _ _ _)
   | (with_reducible exact ih4 _ _ _ _ _ _ _ _ _ _ _ _)
   | (with_reducible exact sequiturref01_Times.mono _ _ _)
   | (with_reducible exact sequiturref27_By.mono _ _ _ _)
   | (with_reducible exact sequiturref27_More.mono _ _ _ _ _ _ _)
   | (with_reducible exact LeO.refl _)
   | (with_reducible exact LeO.none _)
   | (with_reducible refine LeO.ite ?_ ?_)
   | (with_reducible refine LeO.bind ?_ (fun _ => ?_))
   | exact ih0 _ _ _ _ _ _ _ _ _ _ _
   | exact ih1 _ _ _ _ _ _ _ _ _ _ _ _ _
   | exact ih2 _ _ _ _ _ _ _ _ _ _ _ _ _ _ _ _
   | exact ih3 _ _ _ _ _ _ _ _ _ _ _ _ _ _ _
   | exact ih4 _ _ _ _ _ _ _ _ _ _ _ _
   | exact sequiturref01_Times.mono _ _ _
   | exact sequiturref27_By.mono _ _ _ _
   | exact sequiturref27_More.mono _ _ _ _ _ _ _
   | exact LeO.none _
   | refine LeO.ite ?_ ?_
   | refine LeO.bind ?_ (fun _ => ?_)
  ·intro y0 y1 y2 y3 y4 y5 y6 y7 y8 y9 y10 y11
   unfold sequiturref30_pair.j4
   repeat' first
   | (with_reducible exact ih0 _ _ _ _ _ _ _ _ _ _ _)
   | (with_reducible exact ih1 _ _ _ _ _ _ _ _ _ _ _ _ _)
   | (with_reducible exact ih2 _ _ _ _ _ _ _ _ _ _ _ _ _ _ _ _)
   | (with_reducible exact ih3 _ _ _ _ _ _ _ _ _ _ _ _ _ _ _)
   | (with_reducible exact ih4 _ _ _ _ _ _ _ _ _ _ _ _)
   | (with_reducible exact sequiturref01_Times.mono _ _ _)
   | (with_reducible exact sequiturref27_By.mono _ _ _ _)
   | (with_reducible exact sequiturref27_More.mono _ _ _ _ _ _ _)
   | (with_reducible exact LeO.refl _)
   | (with_reducible exact LeO.none _)
   | (with_reducible refine LeO.ite ?_ ?_)
   | (with_reducible refine LeO.bind ?_ (fun _ => ?_))
   | exact ih0 _ _ _ _ _ _ _ _ _ _ _
   | exact ih1 _ _ _ _ _ _ _ _ _ _ _ _ _
   | exact ih2 _ _ _ _ _ _ _ _ _ _ _ _ _ _ _ _
   | exact ih3 _ _ _ _ _ _ _ _ _ _ _ _ _ _ _
   | exact ih4 _ _ _ _ _ _ _ _ _ _ _ _
   | exact sequiturref01_Times.mono _ _ _
   | exact sequiturref27_By.mono _ _ _ _
   | exact sequiturref27_More.mono _ _ _ _ _ _ _
   | exact LeO.none _
   | refine LeO.ite ?_ ?_
   | refine LeO.bind ?_ (fun _ => ?_)
theorem sequiturref30_pair.mono : ∀ a0 a1 a2 a3 a4 a5 k, LeO (sequiturref30_pair.f k a0 a1 a2 a3 a4 a5) (sequiturref30_pair.f (k + 1) a0 a1 a2 a3 a4 a5) := by
 intro a0 a1 a2 a3 a4 a5 k
 obtain ⟨ih0, ih1, ih2, ih3, ih4⟩ := sequiturref30_pair.mono_l k
 unfold sequiturref30_pair.f
 repeat' first
   | (with_reducible exact ih0 _ _ _ _ _ _ _ _ _ _ _)
   | (with_reducible exact ih1 _ _ _ _ _ _ _ _ _ _ _ _ _)
   | (with_reducible exact ih2 _ _ _ _ _ _ _ _ _ _ _ _ _ _ _ _)
   | (with_reducible exact ih3 _ _ _ _ _ _ _ _ _ _ _ _ _ _ _)
   | (with_reducible exact ih4 _ _ _ _ _ _ _ _ _ _ _ _)
   | (with_reducible exact sequiturref01_Times.mono _ _ _)
   | (with_reducible exact sequiturref27_By.mono _ _ _ _)
   | (with_reducible exact sequiturref27_More.mono _ _ _ _ _ _ _)
   | (with_reducible exact LeO.refl _)
   | (with_reducible exact LeO.none _)
   | (with_reducible refine LeO.ite ?_ ?_)
   | (with_reducible refine LeO.bind ?_ (fun _ => ?_))
   | exact ih0 _ _ _ _ _ _ _ _ _ _ _
   | exact ih1 _ _ _ _ _ _ _ _ _ _ _ _ _
   | exact ih2 _ _ _ _ _ _ _ _ _ _ _ _ _ _ _ _
   | exact ih3 _ _ _ _ _ _ _ _ _ _ _ _ _ _ _
   | exact ih4 _ _ _ _ _ _ _ _ _ _ _ _
   | exact sequiturref01_Times.mono _ _ _
   | exact sequiturref27_By.mono _ _ _ _
   | exact sequiturref27_More.mono _ _ _ _ _ _ _
   | exact LeO.none _
   | refine LeO.ite ?_ ?_
   | refine LeO.bind ?_ (fun _ => ?_)
def sequiturref30_pair.T1 : Bool × List (List Nat × List Nat) := (true, [([], []), ([], []), ([0, 1], [0, 1]), ([], []), ([], []), ([3, 4, 2], [3, 4]), ([2, 5, 0, 1, 2], [2]), ([5, 6, 0, 1, 2, 3, 4, 5, 6], [5])])
def sequiturref30_pair.B1 : List Nat := [0, 0, 3, 0, 0, 31, 63, 127]
theorem sequiturref30_pair.tab1 : rtab .any (opsOf Try.f43 1) = sequiturref30_pair.T1 := by kernel_rfl
theorem sequiturref30_pair.bits1 : waitsOk sequiturref30_pair.T1.2 sequiturref30_pair.B1 = true := by kernel_rfl
def sequiturref30_pair.T9 : Bool × List (List Nat × List Nat) := (true, [([], []), ([], []), ([0, 1], [0, 1]), ([], []), ([], []), ([3, 4, 2], [3, 4]), ([2, 5, 0, 1, 2], [2]), ([5, 6, 0, 1, 2, 3, 4, 5, 6], [5])])
def sequiturref30_pair.B9 : List Nat := [0, 0, 3, 0, 0, 31, 63, 127]
theorem sequiturref30_pair.tab9 : rtab .any (opsOf Try.f43 9) = sequiturref30_pair.T9 := by kernel_rfl
theorem sequiturref30_pair.bits9 : waitsOk sequiturref30_pair.T9.2 sequiturref30_pair.B9 = true := by kernel_rfl
def sequiturref30_pair.T12 : Bool × List (List Nat × List Nat) := (true, [([], []), ([0], [0]), ([], []), ([2], [2]), ([3], [3]), ([4, 4], [4]), ([1, 5, 5], [1, 5]), ([0, 1, 2, 3, 4, 5, 6], []), ([7, 6, 6, 0, 1, 2, 3, 4, 5, 6], [6, 7])])
def sequiturref30_pair.B12 : List Nat := [0, 1, 0, 4, 12, 28, 63, 127, 255]
theorem sequiturref30_pair.tab12 : rtab .any (opsOf Try.f43 12) = sequiturref30_pair.T12 := by kernel_rfl
theorem sequiturref30_pair.bits12 : waitsOk sequiturref30_pair.T12.2 sequiturref30_pair.B12 = true := by kernel_rfl
def sequiturref30_pair.T13 : Bool × List (List Nat × List Nat) := (true, [([], []), ([0], [0]), ([], []), ([2], [2]), ([3], [3]), ([4], [4]), ([1, 5, 5], [1, 5]), ([0, 1, 2, 3, 4, 5, 6], []), ([7, 6, 6, 0, 1, 2, 3, 4, 5, 6], [6, 7])])
def sequiturref30_pair.B13 : List Nat := [0, 1, 0, 4, 12, 28, 63, 127, 255]
theorem sequiturref30_pair.tab13 : rtab .any (opsOf Try.f43 13) = sequiturref30_pair.T13 := by kernel_rfl
theorem sequiturref30_pair.bits13 : waitsOk sequiturref30_pair.T13.2 sequiturref30_pair.B13 = true := by kernel_rfl
set_option maxHeartbeats 8000000 in
set_option maxRecDepth 100000 in
theorem sequiturref30_pair.calls (k : Nat) (a0_0 : Int) (A0_1 : Option Addr) (c0_1 : Nat) (l0_1 : List (S68)) (a1_0 : Int) (A1_1 : Option Addr) (c1_1 : Nat) (l1_1 : List (S68)) (a2 : Int) (a3 : Bool) (r1 : Int) (r2 : List (S68)) (r3 : Bool) (w : World) (hr0_1 : Kd.C k68 w A0_1 l0_1.length l0_1) (hc0_1 : l0_1.length ≤ c0_1) (hr1_1 : Kd.C k68 w A1_1 l1_1.length l1_1) (hc1_1 : l1_1.length ≤ c1_1) (h : sequiturref30_pair.f k a0_0 l0_1 a1_0 l1_1 a2 a3 = some (r1, r2, r3)) :
  Calls Try.prog 43 #[.agg #[.int .i64 a0_0, .slice A0_1 l0_1.length c0_1], .agg #[.int .i64 a1_0, .slice A1_1 l1_1.length c1_1], .int .i64 a2, .bool a3] w fun e w' => ∃ v1_ : Value, e = .returned (.tuple #[.agg #[.int .i64 r1, v1_], .bool r3]) ∧ Kd.R k68 68 w' w.heap.size (fun _ => True) v1_ r2 ∧ Below w.heap.size w w' := by
 have hu62 := Try.underlying62
 have hu107 := Try.underlying107
 have hu109 := Try.underlying109
 have hu68 := Try.underlying68
 have HR0_1 := zK hr0_1
 have HC0_1 := zK hc0_1; clear hr0_1 hc0_1
 have HR1_1 := zK hr1_1
 have HC1_1 := zK hc1_1; clear hr1_1 hc1_1
 have HB := zK (Below.refl w.heap.size w)
 have H : ((sequiturref27_By.f k a1_0 l1_1 a2).bind fun t264 => ((sequiturref27_By.f k a0_0 l0_1 a2).bind fun t265 => (sequiturref30_pair.l0 k a3 t264 t265 true (-1) a0_0 l0_1 a1_0 l1_1 0 ([] : List (S68))))) = some (r1, r2, r3) := h
 clear h; replace H := Option.bind_eq_some_iff.mp H
 obtain ⟨t264, A50, H⟩ := H
 replace H : ((sequiturref27_By.f k a0_0 l0_1 a2).bind fun t265 => (sequiturref30_pair.l0 k a3 t264 t265 true (-1) a0_0 l0_1 a1_0 l1_1 0 ([] : List (S68)))) = some (r1, r2, r3) := H
 have A5 := zK A50; clear A50; replace H := Option.bind_eq_some_iff.mp H
 obtain ⟨t265, A60, H⟩ := H
 replace H : (sequiturref30_pair.l0 k a3 t264 t265 true (-1) a0_0 l0_1 a1_0 l1_1 0 ([] : List (S68))) = some (r1, r2, r3) := H
 have A6 := zK A60; clear A60
 have H' := zK H; clear H
 go_enter Try.func43, Try.ntmps43
 try go_wp2_with (first | ((with_reducible refine gate_dst (N := 4) rfl ?_); refine box_event ?hg (N := 4) ?hd (cs := #[.int .i64 a0_0, .slice A0_1 l0_1.length c0_1]) (t := 62) ?hr ?_; (case hd => rfl); (case hg => rfl); (case hr => first | (go_simp; done) | (go_simp; rfl)); intro gb261 hg w7 hbox hb; have BK261 := zK (hbox); have GW261 := zK ((by rw [hg]; exact (below_size (zo HB)) : w.heap.size ≤ gb261)); have GE261 := zK ((by rw [hg]; exact (below_size (zo HB)) : w.heap.size ≤ gb261)); replace HB := zK (below_step (zo HB) hb); clear hb hbox hg) | ((with_reducible refine gate_dst (N := 5) rfl ?_); refine box_event ?hg (N := 5) ?hd (cs := #[.int .i64 a1_0, .slice A1_1 l1_1.length c1_1]) (t := 62) ?hr ?_; (case hd => rfl); (case hg => rfl); (case hr => first | (go_simp; done) | (go_simp; rfl)); intro gb262 hg w8 hbox hb; have BK262 := zK (hbox); have GW262 := zK ((by rw [hg]; exact (below_size (zo HB)) : w.heap.size ≤ gb262)); have GE262 := zK ((by rw [hg]; exact (below_size (zo HB)) : w.heap.size ≤ gb262)); replace HB := zK (below_step (zo HB) hb); have NB261_262 := zK ((by rw [hg]; exact Nat.ne_of_lt (blk_lt (g := gb261) (o := .cells #[.int .i64 a0_0, .slice A0_1 l0_1.length c0_1] 62 (0, 0)) (zb BK261)) : gb261 ≠ gb262)); have NB262_261 := zK ((by rw [hg]; exact Nat.ne_of_gt (blk_lt (g := gb261) (o := .cells #[.int .i64 a0_0, .slice A0_1 l0_1.length c0_1] 62 (0, 0)) (zb BK261)) : gb262 ≠ gb261)); replace BK261 := zK (blk_below (g := gb261) (o := .cells #[.int .i64 a0_0, .slice A0_1 l0_1.length c0_1] 62 (0, 0)) (zb BK261) hb); clear hb hbox hg) | ((with_reducible refine gate_dst (N := 8) rfl ?_); refine box_event ?hg (N := 8) ?hd (cs := #[.int .i64 0, .slice none 0 0]) (t := 62) ?hr ?_; (case hd => rfl); (case hg => rfl); (case hr => first | (go_simp; done) | (go_simp; rfl)); intro gb263 hg w9 hbox hb; have BK263 := zK (hbox); have GW263 := zK ((by rw [hg]; exact (below_size (zo HB)) : w.heap.size ≤ gb263)); have GE263 := zK ((by rw [hg]; exact (below_size (zo HB)) : w.heap.size ≤ gb263)); replace HB := zK (below_step (zo HB) hb); have NB261_263 := zK ((by rw [hg]; exact Nat.ne_of_lt (blk_lt (g := gb261) (o := .cells #[.int .i64 a0_0, .slice A0_1 l0_1.length c0_1] 62 (0, 0)) (zb BK261)) : gb261 ≠ gb263)); have NB263_261 := zK ((by rw [hg]; exact Nat.ne_of_gt (blk_lt (g := gb261) (o := .cells #[.int .i64 a0_0, .slice A0_1 l0_1.length c0_1] 62 (0, 0)) (zb BK261)) : gb263 ≠ gb261)); replace BK261 := zK (blk_below (g := gb261) (o := .cells #[.int .i64 a0_0, .slice A0_1 l0_1.length c0_1] 62 (0, 0)) (zb BK261) hb); have NB262_263 := zK ((by rw [hg]; exact Nat.ne_of_lt (blk_lt (g := gb262) (o := .cells #[.int .i64 a1_0, .slice A1_1 l1_1.length c1_1] 62 (0, 0)) (zb BK262)) : gb262 ≠ gb263)); have NB263_262 := zK ((by rw [hg]; exact Nat.ne_of_gt (blk_lt (g := gb262) (o := .cells #[.int .i64 a1_0, .slice A1_1 l1_1.length c1_1] 62 (0, 0)) (zb BK262)) : gb263 ≠ gb262)); replace BK262 := zK (blk_below (g := gb262) (o := .cells #[.int .i64 a1_0, .slice A1_1 l1_1.length c1_1] 62 (0, 0)) (zb BK262) hb); clear hb hbox hg))
 replace BK261 := zK (zD BK261.out)
 replace BK262 := zK (zD BK262.out)
 replace BK263 := zK (zD BK263.out)
 replace HB := zK (yD HB.out)
 refine start_ (n := 8) (S := fun w' => w'.cell? ⟨gb262, 0, none⟩ = some (.int .i64 a1_0) ∧ w'.cell? ⟨gb262, 1, none⟩ = some (.slice A1_1 l1_1.length c1_1) ∧ w'.cell? ⟨gb261, 0, none⟩ = some (.int .i64 a0_0) ∧ w'.cell? ⟨gb261, 1, none⟩ = some (.slice A0_1 l0_1.length c0_1)) (ds := []) #[F_,F_,F_,F_,F_,F_,F_,F_] (by kernel_rfl) rfl rfl ⟨(blk_cell BK262.out 0).trans rfl, (blk_cell BK262.out 1).trans rfl, (blk_cell BK261.out 0).trans rfl, (blk_cell BK261.out 1).trans rfl⟩ (fun hHeld => ?_); refine with_tabW sequiturref30_pair.tab1 sequiturref30_pair.bits1 (fun HT_ HW_ => ?_)
 generalize w9.drew = w10 at BK261 BK262 BK263 HB hHeld ⊢
 refine pure_ (i := 1) (N := some 22) (v := ?_) (a' := ?_) #[F_,T_,F_,F_,F_,F_,F_,F_] rfl rfl (any_of HT_.out (by kernel_rfl)) (fun _ _ _ h => h) (Or.inl ⟨by rfl, ?_⟩) ?_ ?_; rotate_left; (intro w'; go_simp; with_reducible rfl); rotate_left; (simp only [Act.put, zt, zz, zs, i64_w, i32_w]; rfl)
 refine pure_ (i := 4) (N := some 25) (v := ?_) (a' := ?_) #[F_,T_,F_,F_,T_,F_,F_,F_] rfl rfl (any_of HT_.out (by kernel_rfl)) (fun _ _ _ h => h) (Or.inl ⟨by rfl, ?_⟩) ?_ ?_; rotate_left; (intro w'; go_simp; with_reducible rfl); rotate_left; (simp only [Act.put, zt, zz, zs, i64_w, i32_w]; rfl)
 refine take_ (i := 0) (N := some 21) (v := ?_) (a' := ?_) #[T_,T_,F_,F_,T_,F_,F_,F_] rfl rfl (take_ofW HT_.out HW_.out (by kernel_rfl)) (fun _ _ _ h => h) (Or.inl ⟨by rfl, ?_⟩) hHeld ?_ ?_; rotate_left; (rintro w' ⟨s0, s1, s2, s3⟩; go_simp; with_reducible rfl); rotate_left; (simp only [Act.put, zt, zz, zs, i64_w, i32_w]; rfl)
 refine take_ (i := 3) (N := some 24) (v := ?_) (a' := ?_) #[T_,T_,F_,T_,T_,F_,F_,F_] rfl rfl (take_ofW HT_.out HW_.out (by kernel_rfl)) (fun _ _ _ h => h) (Or.inl ⟨by rfl, ?_⟩) hHeld ?_ ?_; rotate_left; (rintro w' ⟨s0, s1, s2, s3⟩; go_simp; with_reducible rfl); rotate_left; (simp only [Act.put, zt, zz, zs, i64_w, i32_w]; rfl)
 refine one_ (i := 2) (N := some 23) #[T_,T_,T_,T_,T_,F_,F_,F_] rfl rfl (one_of HT_.out (by kernel_rfl)) (by decide) (fun K hK => ?_)
 refine goes_ Try.func42 (by kernel_rfl) rfl #[.agg #[.int .i64 a1_0, .slice A1_1 l1_1.length c1_1], .int .i64 a2] (by rfl) rfl rfl (by (try simp only [List.map_toArray, List.map_cons, List.map_nil]); first | done | rfl | (simp only [List.length_drop, List.length_take]; rfl)) ?_
 with_reducible refine (sequiturref27_By.calls k a1_0 _ _ l1_1 a2 t264 _ ?side1 ?side2 A5.out).mono ?_
 (case side1 => repeat (first | exact (Kd.C_below HR1_1.out HB.out) | (with_reducible refine cA ?_ _) | (with_reducible refine cN ?_ _) | (with_reducible refine cD ?_)))
 (case side2 => exact HC1_1.out)
 rintro e w11 ⟨rfl, hb⟩
 refine ⟨_, rfl, ?_⟩
 replace BK261 := zK (blk_below (g := gb261) (o := .cells #[.int .i64 a0_0, .slice A0_1 l0_1.length c0_1] 62 (0, 0)) (zb BK261) hb)
 replace BK262 := zK (blk_below (g := gb262) (o := .cells #[.int .i64 a1_0, .slice A1_1 l1_1.length c1_1] 62 (0, 0)) (zb BK262) hb)
 replace BK263 := zK (blk_below (g := gb263) (o := .cells #[.int .i64 0, .slice none 0 0] 62 (0, 0)) (zb BK263) hb)
 replace HB := zK (below_step (zo HB) hb)
 (try clear hb); (try clear hb2); (try clear hk); (try clear hi)
 refine hK.out _ _ ⟨(blk_cell BK262.out 0).trans rfl, (blk_cell BK262.out 1).trans rfl, (blk_cell BK261.out 0).trans rfl, (blk_cell BK261.out 1).trans rfl⟩ (fun hHeld => ?_)
 clear hK K
 refine norm_ (a' := ?_) ?_ ?_; rotate_left; (show Act.put _ (some 23) _ = _; simp only [Act.put, zt, zz, zs, i64_w, i32_w]; rfl)
 refine one_ (i := 5) (N := some 26) #[T_,T_,T_,T_,T_,T_,F_,F_] rfl rfl (one_of HT_.out (by kernel_rfl)) (by decide) (fun K hK => ?_)
 refine goes_ Try.func42 (by kernel_rfl) rfl #[.agg #[.int .i64 a0_0, .slice A0_1 l0_1.length c0_1], .int .i64 a2] (by rfl) rfl rfl (by (try simp only [List.map_toArray, List.map_cons, List.map_nil]); first | done | rfl | (simp only [List.length_drop, List.length_take]; rfl)) ?_
 with_reducible refine (sequiturref27_By.calls k a0_0 _ _ l0_1 a2 t265 _ ?side1 ?side2 A6.out).mono ?_
 (case side1 => repeat (first | exact (Kd.C_below HR0_1.out HB.out) | (with_reducible refine cA ?_ _) | (with_reducible refine cN ?_ _) | (with_reducible refine cD ?_)))
 (case side2 => exact HC0_1.out)
 rintro e w12 ⟨rfl, hb⟩
 refine ⟨_, rfl, ?_⟩
 replace BK261 := zK (blk_below (g := gb261) (o := .cells #[.int .i64 a0_0, .slice A0_1 l0_1.length c0_1] 62 (0, 0)) (zb BK261) hb)
 replace BK262 := zK (blk_below (g := gb262) (o := .cells #[.int .i64 a1_0, .slice A1_1 l1_1.length c1_1] 62 (0, 0)) (zb BK262) hb)
 replace BK263 := zK (blk_below (g := gb263) (o := .cells #[.int .i64 0, .slice none 0 0] 62 (0, 0)) (zb BK263) hb)
 replace HB := zK (below_step (zo HB) hb)
 (try clear hb); (try clear hb2); (try clear hk); (try clear hi)
 refine hK.out _ _ ⟨(blk_cell BK262.out 0).trans rfl, (blk_cell BK262.out 1).trans rfl, (blk_cell BK261.out 0).trans rfl, (blk_cell BK261.out 1).trans rfl⟩ (fun hHeld => ?_)
 clear hK K
 refine norm_ (a' := ?_) ?_ ?_; rotate_left; (show Act.put _ (some 26) _ = _; simp only [Act.put, zt, zz, zs, i64_w, i32_w]; rfl)
 refine pure_ (i := 6) (N := some 10) (v := ?_) (a' := ?_) #[T_,T_,T_,T_,T_,T_,T_,F_] rfl rfl (any_of HT_.out (by kernel_rfl)) (fun _ _ _ h => h) (Or.inl ⟨by rfl, ?_⟩) ?_ ?_; rotate_left; (intro w'; go_simp; with_reducible rfl); rotate_left; (simp only [Act.put, zt, zz, zs, i64_w, i32_w]; rfl)
 refine pure_ (i := 7) (N := some 11) (v := ?_) (a' := ?_) #[T_,T_,T_,T_,T_,T_,T_,T_] rfl rfl (any_of HT_.out (by kernel_rfl)) (fun _ _ _ h => h) (Or.inl ⟨by rfl, ?_⟩) ?_ ?_; rotate_left; (intro w'; go_simp; with_reducible rfl); rotate_left; (simp only [Act.put, zt, zz, zs, i64_w, i32_w]; rfl)
 refine done_ (done_of HT_.out (by kernel_rfl)) ?_
 try go_wp2_with (first | ((with_reducible refine gate_dst (N := 12) rfl ?_); refine box_event ?hg (N := 12) ?hd (cs := #[.int .i64 0, .slice none 0 0]) (t := 62) ?hr ?_; (case hd => rfl); (case hg => rfl); (case hr => first | (go_simp; done) | (go_simp; rfl)); intro gb266 hg w13 hbox hb; have BK266 := zK (hbox); have GW266 := zK ((by rw [hg]; exact (below_size (zo HB)) : w.heap.size ≤ gb266)); have GE266 := zK ((by rw [hg]; exact (below_size (zo HB)) : w.heap.size ≤ gb266)); replace HB := zK (below_step (zo HB) hb); have NB261_266 := zK ((by rw [hg]; exact Nat.ne_of_lt (blk_lt (g := gb261) (o := .cells #[.int .i64 a0_0, .slice A0_1 l0_1.length c0_1] 62 (0, 0)) (zb BK261)) : gb261 ≠ gb266)); have NB266_261 := zK ((by rw [hg]; exact Nat.ne_of_gt (blk_lt (g := gb261) (o := .cells #[.int .i64 a0_0, .slice A0_1 l0_1.length c0_1] 62 (0, 0)) (zb BK261)) : gb266 ≠ gb261)); replace BK261 := zK (blk_below (g := gb261) (o := .cells #[.int .i64 a0_0, .slice A0_1 l0_1.length c0_1] 62 (0, 0)) (zb BK261) hb); have NB262_266 := zK ((by rw [hg]; exact Nat.ne_of_lt (blk_lt (g := gb262) (o := .cells #[.int .i64 a1_0, .slice A1_1 l1_1.length c1_1] 62 (0, 0)) (zb BK262)) : gb262 ≠ gb266)); have NB266_262 := zK ((by rw [hg]; exact Nat.ne_of_gt (blk_lt (g := gb262) (o := .cells #[.int .i64 a1_0, .slice A1_1 l1_1.length c1_1] 62 (0, 0)) (zb BK262)) : gb266 ≠ gb262)); replace BK262 := zK (blk_below (g := gb262) (o := .cells #[.int .i64 a1_0, .slice A1_1 l1_1.length c1_1] 62 (0, 0)) (zb BK262) hb); have NB263_266 := zK ((by rw [hg]; exact Nat.ne_of_lt (blk_lt (g := gb263) (o := .cells #[.int .i64 0, .slice none 0 0] 62 (0, 0)) (zb BK263)) : gb263 ≠ gb266)); have NB266_263 := zK ((by rw [hg]; exact Nat.ne_of_gt (blk_lt (g := gb263) (o := .cells #[.int .i64 0, .slice none 0 0] 62 (0, 0)) (zb BK263)) : gb266 ≠ gb263)); replace BK263 := zK (blk_below (g := gb263) (o := .cells #[.int .i64 0, .slice none 0 0] 62 (0, 0)) (zb BK263) hb); clear hb hbox hg))
 go_loopg [13, 14] k (fun kq v13 v14 w' => ∃ (x13_1 : Bool) (x14_1 : Int) (x267000_1 : Int) (x267001_1 : List (S68)) (u267001 : Value), v13 = .bool x13_1 ∧ v14 = .int .i64 x14_1 ∧ Aside0 (sequiturref30_pair.l0 kq a3 t264 t265 x13_1 x14_1 a0_0 l0_1 a1_0 l1_1 x267000_1 x267001_1 = some (r1, r2, r3)) ∧ Aside0 (kq ≤ k) ∧ Aside0 (Kd.R k68 68 w' w.heap.size (fun _ => True) u267001 x267001_1) ∧ Aside0 (w'.heap[gb261]? = some (.cells #[.int .i64 a0_0, (.slice A0_1 l0_1.length c0_1)] 62 (0, 0))) ∧ Aside0 (w'.heap[gb262]? = some (.cells #[.int .i64 a1_0, (.slice A1_1 l1_1.length c1_1)] 62 (0, 0))) ∧ Aside0 (w'.heap[gb263]? = some (.cells #[.int .i64 0, (.slice none 0 0)] 62 (0, 0))) ∧ Aside0 (w'.heap[gb266]? = some (.cells #[.int .i64 x267000_1, u267001] 62 (0, 0))) ∧ Aside0 (Below w.heap.size w w'))
 case atStart => exact ⟨(true), ((-1)), (0), (([] : List (S68))), (.slice none 0 0), (by first | rfl | (simp; done) | (simp [*]; done)), (by first | rfl | (simp; done) | (simp [*]; done)), H', ⟨Nat.le_refl _⟩, ⟨by first | exact Kd.R_nil _ _ _ _ _ | exact Kd.N_nil _ _ _ _ _ | exact Kd.V_nil _ _ _ _ _ | exact Kd.Q_nil _ _ _ _ _ | exact Kd.S_nil _ _ _ _ _⟩, ⟨zb BK261⟩, ⟨zb BK262⟩, ⟨zb BK263⟩, ⟨zb BK266⟩, ⟨zo HB⟩⟩
 case round =>
  clear H'; try clear c1; try clear p2; try clear c4
  obtain ⟨x13_1, x14_1, x267000_1, x267001_1, u267001, rfl, rfl, HA, HK1, HO_267001, BK261, BK262, BK263, BK266, HB⟩ := hrel
  cases gk with
  | zero => exact absurd HA.out (by simp [sequiturref30_pair.l0])
  | succ k1 =>
   have H := HA.out; clear HA
   simp only [sequiturref30_pair.l0] at H
   by_cases c14 : x14_1 < 64
   ·rw [if_pos c14] at H
    have c14b0 : decide (x14_1 < 64) = true := decide_eq_true c14; clear c14
    have HC15 := zK H; clear H
    try go_wp2
    replace HO_267001 := zK (Kd.R_drew HO_267001.out)
    replace BK261 := zK (zD BK261.out)
    replace BK262 := zK (zD BK262.out)
    replace BK263 := zK (zD BK263.out)
    replace BK266 := zK (zD BK266.out)
    replace HB := zK (yD HB.out)
    refine start_ (n := 6) (S := fun w' => w'.cell? ⟨gb261, 0, none⟩ = some (.int .i64 a0_0) ∧ w'.cell? ⟨gb261, 1, none⟩ = some (.slice A0_1 l0_1.length c0_1) ∧ w'.cell? ⟨gb262, 0, none⟩ = some (.int .i64 a1_0) ∧ w'.cell? ⟨gb262, 1, none⟩ = some (.slice A1_1 l1_1.length c1_1)) (ds := []) #[F_,F_,F_,F_,F_,F_] (by kernel_rfl) rfl rfl ⟨(blk_cell BK261.out 0).trans rfl, (blk_cell BK261.out 1).trans rfl, (blk_cell BK262.out 0).trans rfl, (blk_cell BK262.out 1).trans rfl⟩ (fun hHeld => ?_)
    generalize wr.drew = w16 at HO_267001 BK261 BK262 BK263 BK266 HB hHeld ⊢
    refine pure_ (i := 0) (N := some 31) (v := ?_) (a' := ?_) #[T_,F_,F_,F_,F_,F_] rfl rfl (by kernel_rfl) (fun _ _ _ h => h) (Or.inl ⟨by rfl, ?_⟩) ?_ ?_; rotate_left; (intro w'; go_simp; with_reducible rfl); rotate_left; (simp only [Act.put, zt, zz, zs, i64_w, i32_w]; rfl)
    refine pure_ (i := 2) (N := some 33) (v := ?_) (a' := ?_) #[T_,F_,T_,F_,F_,F_] rfl rfl (by kernel_rfl) (fun _ _ _ h => h) (Or.inl ⟨by rfl, ?_⟩) ?_ ?_; rotate_left; (intro w'; go_simp; with_reducible rfl); rotate_left; (simp only [Act.put, zt, zz, zs, i64_w, i32_w]; rfl)
    refine take_ (i := 1) (N := some 32) (v := ?_) (a' := ?_) #[T_,T_,T_,F_,F_,F_] rfl rfl (by kernel_rfl) (fun _ _ _ h => h) (Or.inl ⟨by rfl, ?_⟩) hHeld ?_ ?_; rotate_left; (rintro w' ⟨s0, s1, s2, s3⟩; go_simp; with_reducible rfl); rotate_left; (simp only [Act.put, zt, zz, zs, i64_w, i32_w]; rfl)
    refine pure_ (i := 4) (N := some 15) (v := ?_) (a' := ?_) #[T_,T_,T_,F_,T_,F_] rfl rfl (by kernel_rfl) (fun _ _ _ h => h) (Or.inl ⟨by rfl, ?_⟩) ?_ ?_; rotate_left; (intro w'; go_simp; with_reducible rfl); rotate_left; (simp only [Act.put, zt, zz, zs, i64_w, i32_w]; rfl)
    refine take_ (i := 3) (N := some 34) (v := ?_) (a' := ?_) #[T_,T_,T_,T_,T_,F_] rfl rfl (by kernel_rfl) (fun _ _ _ h => h) (Or.inl ⟨by rfl, ?_⟩) hHeld ?_ ?_; rotate_left; (rintro w' ⟨s0, s1, s2, s3⟩; go_simp; with_reducible rfl); rotate_left; (simp only [Act.put, zt, zz, zs, i64_w, i32_w]; rfl)
    refine pure_ (i := 5) (N := some 16) (v := ?_) (a' := ?_) #[T_,T_,T_,T_,T_,T_] rfl rfl (by kernel_rfl) (fun _ _ _ h => h) (Or.inl ⟨by rfl, ?_⟩) ?_ ?_; rotate_left; (intro w'; go_simp; with_reducible rfl); rotate_left; (simp only [Act.put, zt, zz, zs, i64_w, i32_w]; rfl)
    refine done_ (by kernel_rfl) ?_
    go_upto_if 36 with (fail)
    go_cut [15, 16] (fun v15 v16 wc => ∃ (kq : Nat) (x15_14 : Int) (x16_14 : Int), v15 = .int .i64 x15_14 ∧ v16 = .int .i64 x16_14 ∧ Aside0 (sequiturref30_pair.j1 kq a3 t264 t265 x13_1 x14_1 x15_14 x16_14 a0_0 l0_1 a1_0 l1_1 x267000_1 x267001_1 = some (r1, r2, r3)) ∧ Aside0 (kq ≤ k1) ∧ Aside0 (Kd.R k68 68 wc w.heap.size (fun _ => True) u267001 x267001_1) ∧ Aside0 (wc.heap[gb261]? = some (.cells #[.int .i64 a0_0, (.slice A0_1 l0_1.length c0_1)] 62 (0, 0))) ∧ Aside0 (wc.heap[gb262]? = some (.cells #[.int .i64 a1_0, (.slice A1_1 l1_1.length c1_1)] 62 (0, 0))) ∧ Aside0 (wc.heap[gb263]? = some (.cells #[.int .i64 0, (.slice none 0 0)] 62 (0, 0))) ∧ Aside0 (wc.heap[gb266]? = some (.cells #[.int .i64 x267000_1, u267001] 62 (0, 0))) ∧ Aside0 (Below w.heap.size w wc))
    case first =>
     have H := HC15.out; clear HC15
     by_cases c17 : x14_1 ≥ 0
     ·rw [if_pos c17] at H
      have c17b0 : decide (0 ≤ x14_1) = true := decide_eq_true c17; clear c17
      (first | rw [c17b0] | (simp only [i64_w, i32_w]; rw [c17b0]) | skip)
      replace H := Option.bind_eq_some_iff.mp H
      obtain ⟨t267, A180, H⟩ := H
      replace H : ((sequiturref27_By.f k1 a1_0 l1_1 x14_1).bind fun t268 => (sequiturref30_pair.j1 k1 a3 t264 t265 x13_1 x14_1 t267 t268 a0_0 l0_1 a1_0 l1_1 x267000_1 x267001_1)) = some (r1, r2, r3) := H
      have A18 := zK A180; clear A180; replace H := Option.bind_eq_some_iff.mp H
      obtain ⟨t268, A190, H⟩ := H
      replace H : (sequiturref30_pair.j1 k1 a3 t264 t265 x13_1 x14_1 t267 t268 a0_0 l0_1 a1_0 l1_1 x267000_1 x267001_1) = some (r1, r2, r3) := H
      have A19 := zK A190; clear A190
      have H' := zK H; clear H
      try go_wp2
      replace HO_267001 := zK (Kd.R_drew HO_267001.out)
      replace BK261 := zK (zD BK261.out)
      replace BK262 := zK (zD BK262.out)
      replace BK263 := zK (zD BK263.out)
      replace BK266 := zK (zD BK266.out)
      replace HB := zK (yD HB.out)
      refine start_ (n := 8) (S := fun w' => w'.cell? ⟨gb261, 0, none⟩ = some (.int .i64 a0_0) ∧ w'.cell? ⟨gb261, 1, none⟩ = some (.slice A0_1 l0_1.length c0_1) ∧ w'.cell? ⟨gb262, 0, none⟩ = some (.int .i64 a1_0) ∧ w'.cell? ⟨gb262, 1, none⟩ = some (.slice A1_1 l1_1.length c1_1)) (ds := []) #[F_,F_,F_,F_,F_,F_,F_,F_] (by kernel_rfl) rfl rfl ⟨(blk_cell BK261.out 0).trans rfl, (blk_cell BK261.out 1).trans rfl, (blk_cell BK262.out 0).trans rfl, (blk_cell BK262.out 1).trans rfl⟩ (fun hHeld => ?_); refine with_tabW sequiturref30_pair.tab9 sequiturref30_pair.bits9 (fun HT_ HW_ => ?_)
      generalize w16.drew = w20 at HO_267001 BK261 BK262 BK263 BK266 HB hHeld ⊢
      refine pure_ (i := 1) (N := some 38) (v := ?_) (a' := ?_) #[F_,T_,F_,F_,F_,F_,F_,F_] rfl rfl (any_of HT_.out (by kernel_rfl)) (fun _ _ _ h => h) (Or.inl ⟨by rfl, ?_⟩) ?_ ?_; rotate_left; (intro w'; go_simp; with_reducible rfl); rotate_left; (simp only [Act.put, zt, zz, zs, i64_w, i32_w]; rfl)
      refine pure_ (i := 4) (N := some 41) (v := ?_) (a' := ?_) #[F_,T_,F_,F_,T_,F_,F_,F_] rfl rfl (any_of HT_.out (by kernel_rfl)) (fun _ _ _ h => h) (Or.inl ⟨by rfl, ?_⟩) ?_ ?_; rotate_left; (intro w'; go_simp; with_reducible rfl); rotate_left; (simp only [Act.put, zt, zz, zs, i64_w, i32_w]; rfl)
      refine take_ (i := 0) (N := some 37) (v := ?_) (a' := ?_) #[T_,T_,F_,F_,T_,F_,F_,F_] rfl rfl (take_ofW HT_.out HW_.out (by kernel_rfl)) (fun _ _ _ h => h) (Or.inl ⟨by rfl, ?_⟩) hHeld ?_ ?_; rotate_left; (rintro w' ⟨s0, s1, s2, s3⟩; go_simp; with_reducible rfl); rotate_left; (simp only [Act.put, zt, zz, zs, i64_w, i32_w]; rfl)
      refine take_ (i := 3) (N := some 40) (v := ?_) (a' := ?_) #[T_,T_,F_,T_,T_,F_,F_,F_] rfl rfl (take_ofW HT_.out HW_.out (by kernel_rfl)) (fun _ _ _ h => h) (Or.inl ⟨by rfl, ?_⟩) hHeld ?_ ?_; rotate_left; (rintro w' ⟨s0, s1, s2, s3⟩; go_simp; with_reducible rfl); rotate_left; (simp only [Act.put, zt, zz, zs, i64_w, i32_w]; rfl)
      refine one_ (i := 2) (N := some 39) #[T_,T_,T_,T_,T_,F_,F_,F_] rfl rfl (one_of HT_.out (by kernel_rfl)) (by decide) (fun K hK => ?_)
      refine goes_ Try.func42 (by kernel_rfl) rfl #[.agg #[.int .i64 a0_0, .slice A0_1 l0_1.length c0_1], .int .i64 x14_1] (by rfl) rfl rfl (by (try simp only [List.map_toArray, List.map_cons, List.map_nil]); first | done | rfl | (simp only [List.length_drop, List.length_take]; rfl)) ?_
      with_reducible refine (sequiturref27_By.calls k1 a0_0 _ _ l0_1 x14_1 t267 _ ?side1 ?side2 A18.out).mono ?_
      (case side1 => repeat (first | exact (Kd.C_below HR0_1.out HB.out) | (with_reducible refine cA ?_ _) | (with_reducible refine cN ?_ _) | (with_reducible refine cD ?_)))
      (case side2 => exact HC0_1.out)
      rintro e w21 ⟨rfl, hb⟩
      refine ⟨_, rfl, ?_⟩
      replace HO_267001 := zK (Kd.R_below (zr HO_267001) hb)
      replace BK261 := zK (blk_below (g := gb261) (o := .cells #[.int .i64 a0_0, .slice A0_1 l0_1.length c0_1] 62 (0, 0)) (zb BK261) hb)
      replace BK262 := zK (blk_below (g := gb262) (o := .cells #[.int .i64 a1_0, .slice A1_1 l1_1.length c1_1] 62 (0, 0)) (zb BK262) hb)
      replace BK263 := zK (blk_below (g := gb263) (o := .cells #[.int .i64 0, .slice none 0 0] 62 (0, 0)) (zb BK263) hb)
      replace BK266 := zK (blk_below (g := gb266) (o := .cells #[.int .i64 x267000_1, u267001] 62 (0, 0)) (zb BK266) hb)
      replace HB := zK (below_step (zo HB) hb)
      (try clear hb); (try clear hb2); (try clear hk); (try clear hi)
      refine hK.out _ _ ⟨(blk_cell BK261.out 0).trans rfl, (blk_cell BK261.out 1).trans rfl, (blk_cell BK262.out 0).trans rfl, (blk_cell BK262.out 1).trans rfl⟩ (fun hHeld => ?_)
      clear hK K
      refine norm_ (a' := ?_) ?_ ?_; rotate_left; (show Act.put _ (some 39) _ = _; simp only [Act.put, zt, zz, zs, i64_w, i32_w]; rfl)
      refine one_ (i := 5) (N := some 42) #[T_,T_,T_,T_,T_,T_,F_,F_] rfl rfl (one_of HT_.out (by kernel_rfl)) (by decide) (fun K hK => ?_)
      refine goes_ Try.func42 (by kernel_rfl) rfl #[.agg #[.int .i64 a1_0, .slice A1_1 l1_1.length c1_1], .int .i64 x14_1] (by rfl) rfl rfl (by (try simp only [List.map_toArray, List.map_cons, List.map_nil]); first | done | rfl | (simp only [List.length_drop, List.length_take]; rfl)) ?_
      with_reducible refine (sequiturref27_By.calls k1 a1_0 _ _ l1_1 x14_1 t268 _ ?side1 ?side2 A19.out).mono ?_
      (case side1 => repeat (first | exact (Kd.C_below HR1_1.out HB.out) | (with_reducible refine cA ?_ _) | (with_reducible refine cN ?_ _) | (with_reducible refine cD ?_)))
      (case side2 => exact HC1_1.out)
      rintro e w22 ⟨rfl, hb⟩
      refine ⟨_, rfl, ?_⟩
      replace HO_267001 := zK (Kd.R_below (zr HO_267001) hb)
      replace BK261 := zK (blk_below (g := gb261) (o := .cells #[.int .i64 a0_0, .slice A0_1 l0_1.length c0_1] 62 (0, 0)) (zb BK261) hb)
      replace BK262 := zK (blk_below (g := gb262) (o := .cells #[.int .i64 a1_0, .slice A1_1 l1_1.length c1_1] 62 (0, 0)) (zb BK262) hb)
      replace BK263 := zK (blk_below (g := gb263) (o := .cells #[.int .i64 0, .slice none 0 0] 62 (0, 0)) (zb BK263) hb)
      replace BK266 := zK (blk_below (g := gb266) (o := .cells #[.int .i64 x267000_1, u267001] 62 (0, 0)) (zb BK266) hb)
      replace HB := zK (below_step (zo HB) hb)
      (try clear hb); (try clear hb2); (try clear hk); (try clear hi)
      refine hK.out _ _ ⟨(blk_cell BK261.out 0).trans rfl, (blk_cell BK261.out 1).trans rfl, (blk_cell BK262.out 0).trans rfl, (blk_cell BK262.out 1).trans rfl⟩ (fun hHeld => ?_)
      clear hK K
      refine norm_ (a' := ?_) ?_ ?_; rotate_left; (show Act.put _ (some 42) _ = _; simp only [Act.put, zt, zz, zs, i64_w, i32_w]; rfl)
      refine pure_ (i := 6) (N := some 15) (v := ?_) (a' := ?_) #[T_,T_,T_,T_,T_,T_,T_,F_] rfl rfl (any_of HT_.out (by kernel_rfl)) (fun _ _ _ h => h) (Or.inl ⟨by rfl, ?_⟩) ?_ ?_; rotate_left; (intro w'; go_simp; with_reducible rfl); rotate_left; (simp only [Act.put, zt, zz, zs, i64_w, i32_w]; rfl)
      refine pure_ (i := 7) (N := some 16) (v := ?_) (a' := ?_) #[T_,T_,T_,T_,T_,T_,T_,T_] rfl rfl (any_of HT_.out (by kernel_rfl)) (fun _ _ _ h => h) (Or.inl ⟨by rfl, ?_⟩) ?_ ?_; rotate_left; (intro w'; go_simp; with_reducible rfl); rotate_left; (simp only [Act.put, zt, zz, zs, i64_w, i32_w]; rfl)
      refine done_ (done_of HT_.out (by kernel_rfl)) ?_
      try go_wp2
      go_meet
      case rel => exact ⟨_, (t267), (t268), (by first | rfl | (simp; done) | (simp [*]; done)), (by first | rfl | (simp; done) | (simp [*]; done)), H', ⟨by have := HK1.out; first | omega | exact Nat.le_refl _⟩, ⟨zr HO_267001⟩, ⟨zb BK261⟩, ⟨zb BK262⟩, ⟨zb BK263⟩, ⟨zb BK266⟩, ⟨zo HB⟩⟩
     ·rw [if_neg c17] at H
      have c17b0 : decide (0 ≤ x14_1) = false := decide_eq_false c17; clear c17
      (first | rw [c17b0] | (simp only [i64_w, i32_w]; rw [c17b0]) | skip)
      have H' := zK H; clear H
      go_wp2
      go_meet
      case rel => exact ⟨_, (a0_0), (a1_0), (by first | rfl | (simp; done) | (simp [*]; done)), (by first | rfl | (simp; done) | (simp [*]; done)), H', ⟨by have := HK1.out; first | omega | exact Nat.le_refl _⟩, ⟨zr HO_267001⟩, ⟨zb BK261⟩, ⟨zb BK262⟩, ⟨zb BK263⟩, ⟨zb BK266⟩, ⟨zo HB⟩⟩
    case rest =>
     clear HC15; try clear c1; try clear p2; try clear c4
     try clear c14; try clear c14b0; try clear c17; try clear c17b0; try clear p2
     obtain ⟨kq, x15_14, x16_14, rfl, rfl, HA, HJ14, HO_267001, BK261, BK262, BK263, BK266, HB⟩ := hcut
     cases kq with
     | zero => exact absurd HA.out (by simp [sequiturref30_pair.j1])
     | succ kj14 =>
      have H := HA.out; clear HA
      simp only [sequiturref30_pair.j1] at H
      replace H := Option.bind_eq_some_iff.mp H
      obtain ⟨⟨t269, t270⟩, A230, H⟩ := H
      replace H : ((sequiturref27_More.f kj14 0 0 0 0 t264 x15_14).bind fun bt272 => ((sequiturref01_Of.f t269).bind fun bt277 => ((sequiturref01_Minus.f bt277.1 bt277.2).bind fun bt279 => ((sequiturref01_Plus.f bt272.1 bt272.2.1 bt279.1 bt279.2).bind fun bt281 => ((sequiturref01_Minus.f 0 t270).bind fun bt283 => ((sequiturref01_Plus.f bt272.2.2.1 bt272.2.2.2 bt283.1 bt283.2).bind fun bt285 => (if x14_1 < 0 then (sequiturref30_pair.j2 kj14 a3 t264 t265 x13_1 x14_1 a3 a0_0 l0_1 a1_0 l1_1 x267000_1 x267001_1 bt281.1 bt281.2 bt285.1 bt285.2) else (sequiturref30_pair.j2 kj14 a3 t264 t265 x13_1 x14_1 false a0_0 l0_1 a1_0 l1_1 x267000_1 x267001_1 bt281.1 bt281.2 bt285.1 bt285.2)))))))) = some (r1, r2, r3) := H
      have A23 := zK A230; clear A230; replace H := Option.bind_eq_some_iff.mp H
      obtain ⟨⟨t272, t273, t274, t275⟩, A240, H⟩ := H
      replace H : ((sequiturref01_Of.f t269).bind fun bt277 => ((sequiturref01_Minus.f bt277.1 bt277.2).bind fun bt279 => ((sequiturref01_Plus.f t272 t273 bt279.1 bt279.2).bind fun bt281 => ((sequiturref01_Minus.f 0 t270).bind fun bt283 => ((sequiturref01_Plus.f t274 t275 bt283.1 bt283.2).bind fun bt285 => (if x14_1 < 0 then (sequiturref30_pair.j2 kj14 a3 t264 t265 x13_1 x14_1 a3 a0_0 l0_1 a1_0 l1_1 x267000_1 x267001_1 bt281.1 bt281.2 bt285.1 bt285.2) else (sequiturref30_pair.j2 kj14 a3 t264 t265 x13_1 x14_1 false a0_0 l0_1 a1_0 l1_1 x267000_1 x267001_1 bt281.1 bt281.2 bt285.1 bt285.2))))))) = some (r1, r2, r3) := H
      have A24 := zK A240; clear A240; replace H := Option.bind_eq_some_iff.mp H
      obtain ⟨⟨t277, t278⟩, A250, H⟩ := H
      replace H : ((sequiturref01_Minus.f t277 t278).bind fun bt279 => ((sequiturref01_Plus.f t272 t273 bt279.1 bt279.2).bind fun bt281 => ((sequiturref01_Minus.f 0 t270).bind fun bt283 => ((sequiturref01_Plus.f t274 t275 bt283.1 bt283.2).bind fun bt285 => (if x14_1 < 0 then (sequiturref30_pair.j2 kj14 a3 t264 t265 x13_1 x14_1 a3 a0_0 l0_1 a1_0 l1_1 x267000_1 x267001_1 bt281.1 bt281.2 bt285.1 bt285.2) else (sequiturref30_pair.j2 kj14 a3 t264 t265 x13_1 x14_1 false a0_0 l0_1 a1_0 l1_1 x267000_1 x267001_1 bt281.1 bt281.2 bt285.1 bt285.2)))))) = some (r1, r2, r3) := H
      have A25 := zK A250; clear A250; replace H := Option.bind_eq_some_iff.mp H
      obtain ⟨⟨t279, t280⟩, A260, H⟩ := H
      replace H : ((sequiturref01_Plus.f t272 t273 t279 t280).bind fun bt281 => ((sequiturref01_Minus.f 0 t270).bind fun bt283 => ((sequiturref01_Plus.f t274 t275 bt283.1 bt283.2).bind fun bt285 => (if x14_1 < 0 then (sequiturref30_pair.j2 kj14 a3 t264 t265 x13_1 x14_1 a3 a0_0 l0_1 a1_0 l1_1 x267000_1 x267001_1 bt281.1 bt281.2 bt285.1 bt285.2) else (sequiturref30_pair.j2 kj14 a3 t264 t265 x13_1 x14_1 false a0_0 l0_1 a1_0 l1_1 x267000_1 x267001_1 bt281.1 bt281.2 bt285.1 bt285.2))))) = some (r1, r2, r3) := H
      have A26 := zK A260; clear A260; replace H := Option.bind_eq_some_iff.mp H
      obtain ⟨⟨t281, t282⟩, A270, H⟩ := H
      replace H : ((sequiturref01_Minus.f 0 t270).bind fun bt283 => ((sequiturref01_Plus.f t274 t275 bt283.1 bt283.2).bind fun bt285 => (if x14_1 < 0 then (sequiturref30_pair.j2 kj14 a3 t264 t265 x13_1 x14_1 a3 a0_0 l0_1 a1_0 l1_1 x267000_1 x267001_1 t281 t282 bt285.1 bt285.2) else (sequiturref30_pair.j2 kj14 a3 t264 t265 x13_1 x14_1 false a0_0 l0_1 a1_0 l1_1 x267000_1 x267001_1 t281 t282 bt285.1 bt285.2)))) = some (r1, r2, r3) := H
      have A27 := zK A270; clear A270; replace H := Option.bind_eq_some_iff.mp H
      obtain ⟨⟨t283, t284⟩, A280, H⟩ := H
      replace H : ((sequiturref01_Plus.f t274 t275 t283 t284).bind fun bt285 => (if x14_1 < 0 then (sequiturref30_pair.j2 kj14 a3 t264 t265 x13_1 x14_1 a3 a0_0 l0_1 a1_0 l1_1 x267000_1 x267001_1 t281 t282 bt285.1 bt285.2) else (sequiturref30_pair.j2 kj14 a3 t264 t265 x13_1 x14_1 false a0_0 l0_1 a1_0 l1_1 x267000_1 x267001_1 t281 t282 bt285.1 bt285.2))) = some (r1, r2, r3) := H
      have A28 := zK A280; clear A280; replace H := Option.bind_eq_some_iff.mp H
      obtain ⟨⟨t285, t286⟩, A290, H⟩ := H
      replace H : (if x14_1 < 0 then (sequiturref30_pair.j2 kj14 a3 t264 t265 x13_1 x14_1 a3 a0_0 l0_1 a1_0 l1_1 x267000_1 x267001_1 t281 t282 t285 t286) else (sequiturref30_pair.j2 kj14 a3 t264 t265 x13_1 x14_1 false a0_0 l0_1 a1_0 l1_1 x267000_1 x267001_1 t281 t282 t285 t286)) = some (r1, r2, r3) := H
      have A29 := zK A290; clear A290
      have HC30 := zK H; clear H
      try go_wp2_with (first | ((with_reducible refine zC (f := 78) rfl ?_); refine goesL_ (some 45) rfl rfl Try.func78 (by kernel_rfl) rfl #[.int .i64 x16_14, .int .i64 t265] rfl (by (try simp only [List.map_toArray, List.map_cons, List.map_nil]); first | done | rfl | (simp only [List.length_drop, List.length_take]; rfl)) ?_; (with_reducible refine (sequiturref01_Times.calls kj14 x16_14 t265 t269 t270 _ A23.out).mono ?_); rintro e w31 ⟨rfl, hb⟩; refine ⟨_, rfl, ?_⟩; replace HO_267001 := zK (Kd.R_below (zr HO_267001) hb); replace BK261 := zK (blk_below (g := gb261) (o := .cells #[.int .i64 a0_0, .slice A0_1 l0_1.length c0_1] 62 (0, 0)) (zb BK261) hb); replace BK262 := zK (blk_below (g := gb262) (o := .cells #[.int .i64 a1_0, .slice A1_1 l1_1.length c1_1] 62 (0, 0)) (zb BK262) hb); replace BK263 := zK (blk_below (g := gb263) (o := .cells #[.int .i64 0, .slice none 0 0] 62 (0, 0)) (zb BK263) hb); replace BK266 := zK (blk_below (g := gb266) (o := .cells #[.int .i64 x267000_1, u267001] 62 (0, 0)) (zb BK266) hb); replace HB := zK (below_step (zo HB) hb); (try clear hb); (try clear hb2); (try clear hk); (try clear hi)) | ((with_reducible refine gate_dst (N := 17) rfl ?_); refine box_event ?hg (N := 17) ?hd (cs := #[.int .i64 0, .int .u64 0]) (t := 107) ?hr ?_; (case hd => rfl); (case hg => rfl); (case hr => first | (go_simp; done) | (go_simp; rfl)); intro gb271 hg w32 hbox hb; replace HO_267001 := zK (Kd.R_below (zr HO_267001) hb); have BK271 := zK (hbox); have GW271 := zK ((by rw [hg]; exact (below_size (zo HB)) : w.heap.size ≤ gb271)); have GE271 := zK ((by rw [hg]; exact (below_size (zo HB)) : w.heap.size ≤ gb271)); replace HB := zK (below_step (zo HB) hb); have NB261_271 := zK ((by rw [hg]; exact Nat.ne_of_lt (blk_lt (g := gb261) (o := .cells #[.int .i64 a0_0, .slice A0_1 l0_1.length c0_1] 62 (0, 0)) (zb BK261)) : gb261 ≠ gb271)); have NB271_261 := zK ((by rw [hg]; exact Nat.ne_of_gt (blk_lt (g := gb261) (o := .cells #[.int .i64 a0_0, .slice A0_1 l0_1.length c0_1] 62 (0, 0)) (zb BK261)) : gb271 ≠ gb261)); replace BK261 := zK (blk_below (g := gb261) (o := .cells #[.int .i64 a0_0, .slice A0_1 l0_1.length c0_1] 62 (0, 0)) (zb BK261) hb); have NB262_271 := zK ((by rw [hg]; exact Nat.ne_of_lt (blk_lt (g := gb262) (o := .cells #[.int .i64 a1_0, .slice A1_1 l1_1.length c1_1] 62 (0, 0)) (zb BK262)) : gb262 ≠ gb271)); have NB271_262 := zK ((by rw [hg]; exact Nat.ne_of_gt (blk_lt (g := gb262) (o := .cells #[.int .i64 a1_0, .slice A1_1 l1_1.length c1_1] 62 (0, 0)) (zb BK262)) : gb271 ≠ gb262)); replace BK262 := zK (blk_below (g := gb262) (o := .cells #[.int .i64 a1_0, .slice A1_1 l1_1.length c1_1] 62 (0, 0)) (zb BK262) hb); have NB263_271 := zK ((by rw [hg]; exact Nat.ne_of_lt (blk_lt (g := gb263) (o := .cells #[.int .i64 0, .slice none 0 0] 62 (0, 0)) (zb BK263)) : gb263 ≠ gb271)); have NB271_263 := zK ((by rw [hg]; exact Nat.ne_of_gt (blk_lt (g := gb263) (o := .cells #[.int .i64 0, .slice none 0 0] 62 (0, 0)) (zb BK263)) : gb271 ≠ gb263)); replace BK263 := zK (blk_below (g := gb263) (o := .cells #[.int .i64 0, .slice none 0 0] 62 (0, 0)) (zb BK263) hb); have NB266_271 := zK ((by rw [hg]; exact Nat.ne_of_lt (blk_lt (g := gb266) (o := .cells #[.int .i64 x267000_1, u267001] 62 (0, 0)) (zb BK266)) : gb266 ≠ gb271)); have NB271_266 := zK ((by rw [hg]; exact Nat.ne_of_gt (blk_lt (g := gb266) (o := .cells #[.int .i64 x267000_1, u267001] 62 (0, 0)) (zb BK266)) : gb271 ≠ gb266)); replace BK266 := zK (blk_below (g := gb266) (o := .cells #[.int .i64 x267000_1, u267001] 62 (0, 0)) (zb BK266) hb); clear hb hbox hg; have hnb33 := NB271_261.out; have hnc33 := NB261_271.out; have hnb34 := NB271_262.out; have hnc34 := NB262_271.out; have hnb35 := NB271_263.out; have hnc35 := NB263_271.out; have hnb36 := NB271_266.out; have hnc36 := NB266_271.out; have hcz37_0 : w32.cell? ⟨gb271, 0, none⟩ = some (.int .i64 0) := (blk_cell BK271.out 0).trans rfl; have hcz37_1 : w32.cell? ⟨gb271, 1, none⟩ = some (.int .u64 0) := (blk_cell BK271.out 1).trans rfl; have hfz37_0 := blk_frozen BK271.out 0; have hfz37_1 := blk_frozen BK271.out 1) | ((with_reducible refine zC (f := 71) rfl ?_); refine goesL_ (some 49) rfl rfl Try.func71 (by kernel_rfl) rfl #[.agg #[.int .i64 0, .int .u64 0, .int .i64 0, .int .u64 0], .int .i64 t264, .int .i64 x15_14] rfl (by (try simp only [List.map_toArray, List.map_cons, List.map_nil]); first | done | rfl | (simp only [List.length_drop, List.length_take]; rfl)) ?_; (with_reducible refine (sequiturref27_More.calls kj14 0 0 0 0 t264 x15_14 t272 t273 t274 t275 _ A24.out).mono ?_); rintro e w38 ⟨rfl, hb⟩; refine ⟨_, rfl, ?_⟩; replace HO_267001 := zK (Kd.R_below (by (with_reducible repeat (first | apply Kd.R_alloc | apply Kd.R_drewN | apply Kd.R_drew)); exact (Kd.R_mono (Kd.R_far (p := ⟨gb271, 1, none⟩) (Kd.R_far (p := ⟨gb271, 0, none⟩) (Kd.R_types HO_267001.out BK271.out (by decide)) (fun _ hk => hk.2) (.int .i64 t269)) (fun _ hk => hk.2) (.int .u64 t270)) (fun _ h_ => h_.1))) hb); replace BK261 := zK (blk_below (g := gb261) (o := .cells #[.int .i64 a0_0, .slice A0_1 l0_1.length c0_1] 62 (0, 0)) (zb BK261) hb); replace BK262 := zK (blk_below (g := gb262) (o := .cells #[.int .i64 a1_0, .slice A1_1 l1_1.length c1_1] 62 (0, 0)) (zb BK262) hb); replace BK263 := zK (blk_below (g := gb263) (o := .cells #[.int .i64 0, .slice none 0 0] 62 (0, 0)) (zb BK263) hb); replace BK266 := zK (blk_below (g := gb266) (o := .cells #[.int .i64 x267000_1, u267001] 62 (0, 0)) (zb BK266) hb); replace BK271 := zK (blk_below (g := gb271) (o := .cells #[.int .i64 t269, .int .u64 t270] 107 (0, 0)) (by refine zM ?_; refine blk_put (cs := #[.int .i64 t269, .int .u64 0]) ?_ 1 _ rfl; refine zM ?_; refine blk_put (cs := #[.int .i64 0, .int .u64 0]) ?_ 0 _ rfl; refine zM ?_; exact BK271.out) hb); replace HB := zK (below_step (zo HB) hb); (try clear hb); (try clear hb2); (try clear hk); (try clear hi)) | ((with_reducible refine gate_dst (N := 18) rfl ?_); refine box_event ?hg (N := 18) ?hd (cs := #[.int .i64 0, .int .u64 0, .int .i64 0, .int .u64 0]) (t := 109) ?hr ?_; (case hd => rfl); (case hg => rfl); (case hr => first | (go_simp; done) | (go_simp; rfl)); intro gb276 hg w39 hbox hb; replace HO_267001 := zK (Kd.R_below (zr HO_267001) hb); have BK276 := zK (hbox); have GW276 := zK ((by rw [hg]; exact (below_size (zo HB)) : w.heap.size ≤ gb276)); have GE276 := zK ((by rw [hg]; exact (below_size (zo HB)) : w.heap.size ≤ gb276)); replace HB := zK (below_step (zo HB) hb); have NB261_276 := zK ((by rw [hg]; exact Nat.ne_of_lt (blk_lt (g := gb261) (o := .cells #[.int .i64 a0_0, .slice A0_1 l0_1.length c0_1] 62 (0, 0)) (zb BK261)) : gb261 ≠ gb276)); have NB276_261 := zK ((by rw [hg]; exact Nat.ne_of_gt (blk_lt (g := gb261) (o := .cells #[.int .i64 a0_0, .slice A0_1 l0_1.length c0_1] 62 (0, 0)) (zb BK261)) : gb276 ≠ gb261)); replace BK261 := zK (blk_below (g := gb261) (o := .cells #[.int .i64 a0_0, .slice A0_1 l0_1.length c0_1] 62 (0, 0)) (zb BK261) hb); have NB262_276 := zK ((by rw [hg]; exact Nat.ne_of_lt (blk_lt (g := gb262) (o := .cells #[.int .i64 a1_0, .slice A1_1 l1_1.length c1_1] 62 (0, 0)) (zb BK262)) : gb262 ≠ gb276)); have NB276_262 := zK ((by rw [hg]; exact Nat.ne_of_gt (blk_lt (g := gb262) (o := .cells #[.int .i64 a1_0, .slice A1_1 l1_1.length c1_1] 62 (0, 0)) (zb BK262)) : gb276 ≠ gb262)); replace BK262 := zK (blk_below (g := gb262) (o := .cells #[.int .i64 a1_0, .slice A1_1 l1_1.length c1_1] 62 (0, 0)) (zb BK262) hb); have NB263_276 := zK ((by rw [hg]; exact Nat.ne_of_lt (blk_lt (g := gb263) (o := .cells #[.int .i64 0, .slice none 0 0] 62 (0, 0)) (zb BK263)) : gb263 ≠ gb276)); have NB276_263 := zK ((by rw [hg]; exact Nat.ne_of_gt (blk_lt (g := gb263) (o := .cells #[.int .i64 0, .slice none 0 0] 62 (0, 0)) (zb BK263)) : gb276 ≠ gb263)); replace BK263 := zK (blk_below (g := gb263) (o := .cells #[.int .i64 0, .slice none 0 0] 62 (0, 0)) (zb BK263) hb); have NB266_276 := zK ((by rw [hg]; exact Nat.ne_of_lt (blk_lt (g := gb266) (o := .cells #[.int .i64 x267000_1, u267001] 62 (0, 0)) (zb BK266)) : gb266 ≠ gb276)); have NB276_266 := zK ((by rw [hg]; exact Nat.ne_of_gt (blk_lt (g := gb266) (o := .cells #[.int .i64 x267000_1, u267001] 62 (0, 0)) (zb BK266)) : gb276 ≠ gb266)); replace BK266 := zK (blk_below (g := gb266) (o := .cells #[.int .i64 x267000_1, u267001] 62 (0, 0)) (zb BK266) hb); have NB271_276 := zK ((by rw [hg]; exact Nat.ne_of_lt (blk_lt (g := gb271) (o := .cells #[.int .i64 t269, .int .u64 t270] 107 (0, 0)) (zb BK271)) : gb271 ≠ gb276)); have NB276_271 := zK ((by rw [hg]; exact Nat.ne_of_gt (blk_lt (g := gb271) (o := .cells #[.int .i64 t269, .int .u64 t270] 107 (0, 0)) (zb BK271)) : gb276 ≠ gb271)); replace BK271 := zK (blk_below (g := gb271) (o := .cells #[.int .i64 t269, .int .u64 t270] 107 (0, 0)) (zb BK271) hb); clear hb hbox hg; have hnb40 := NB276_261.out; have hnc40 := NB261_276.out; have hnb41 := NB276_262.out; have hnc41 := NB262_276.out; have hnb42 := NB276_263.out; have hnc42 := NB263_276.out; have hnb43 := NB276_266.out; have hnc43 := NB266_276.out; have hnb44 := NB276_271.out; have hnc44 := NB271_276.out; have hcz45_0 : w39.cell? ⟨gb276, 0, none⟩ = some (.int .i64 0) := (blk_cell BK276.out 0).trans rfl; have hcz45_1 : w39.cell? ⟨gb276, 1, none⟩ = some (.int .u64 0) := (blk_cell BK276.out 1).trans rfl; have hcz45_2 : w39.cell? ⟨gb276, 2, none⟩ = some (.int .i64 0) := (blk_cell BK276.out 2).trans rfl; have hcz45_3 : w39.cell? ⟨gb276, 3, none⟩ = some (.int .u64 0) := (blk_cell BK276.out 3).trans rfl; have hfz45_0 := blk_frozen BK276.out 0; have hfz45_1 := blk_frozen BK276.out 1; have hfz45_2 := blk_frozen BK276.out 2; have hfz45_3 := blk_frozen BK276.out 3))
      have n0_ : Aside0 (Kd.R k68 68 ((((w39.setCell ⟨gb276, 0, none⟩ (.int .i64 t272)).setCell ⟨gb276, 1, none⟩ (.int .u64 t273)).setCell ⟨gb276, 2, none⟩ (.int .i64 t274)).setCell ⟨gb276, 3, none⟩ (.int .u64 t275)) w.heap.size (fun _ => True) u267001 x267001_1) := ⟨by (with_reducible repeat (first | apply Kd.R_alloc | apply Kd.R_drewN | apply Kd.R_drew)); exact Kd.R_mono (Kd.R_far (p := ⟨gb276, 3, none⟩) (Kd.R_far (p := ⟨gb276, 2, none⟩) (Kd.R_far (p := ⟨gb276, 1, none⟩) (Kd.R_far (p := ⟨gb276, 0, none⟩) (Kd.R_types HO_267001.out BK276.out (by decide)) (fun _ hk => hk.2) (.int .i64 t272)) (fun _ hk => hk.2) (.int .u64 t273)) (fun _ hk => hk.2) (.int .i64 t274)) (fun _ hk => hk.2) (.int .u64 t275)) (fun _ hk => trivial)⟩
      have n1_ : Aside0 (((((w39.setCell ⟨gb276, 0, none⟩ (.int .i64 t272)).setCell ⟨gb276, 1, none⟩ (.int .u64 t273)).setCell ⟨gb276, 2, none⟩ (.int .i64 t274)).setCell ⟨gb276, 3, none⟩ (.int .u64 t275)).heap[gb261]? = some (.cells #[.int .i64 a0_0, .slice A0_1 l0_1.length c0_1] 62 (0, 0))) := ⟨zb BK261⟩
      have n2_ : Aside0 (((((w39.setCell ⟨gb276, 0, none⟩ (.int .i64 t272)).setCell ⟨gb276, 1, none⟩ (.int .u64 t273)).setCell ⟨gb276, 2, none⟩ (.int .i64 t274)).setCell ⟨gb276, 3, none⟩ (.int .u64 t275)).heap[gb262]? = some (.cells #[.int .i64 a1_0, .slice A1_1 l1_1.length c1_1] 62 (0, 0))) := ⟨zb BK262⟩
      have n3_ : Aside0 (((((w39.setCell ⟨gb276, 0, none⟩ (.int .i64 t272)).setCell ⟨gb276, 1, none⟩ (.int .u64 t273)).setCell ⟨gb276, 2, none⟩ (.int .i64 t274)).setCell ⟨gb276, 3, none⟩ (.int .u64 t275)).heap[gb263]? = some (.cells #[.int .i64 0, .slice none 0 0] 62 (0, 0))) := ⟨zb BK263⟩
      have n4_ : Aside0 (((((w39.setCell ⟨gb276, 0, none⟩ (.int .i64 t272)).setCell ⟨gb276, 1, none⟩ (.int .u64 t273)).setCell ⟨gb276, 2, none⟩ (.int .i64 t274)).setCell ⟨gb276, 3, none⟩ (.int .u64 t275)).heap[gb266]? = some (.cells #[.int .i64 x267000_1, u267001] 62 (0, 0))) := ⟨zb BK266⟩
      have n5_ : Aside0 (((((w39.setCell ⟨gb276, 0, none⟩ (.int .i64 t272)).setCell ⟨gb276, 1, none⟩ (.int .u64 t273)).setCell ⟨gb276, 2, none⟩ (.int .i64 t274)).setCell ⟨gb276, 3, none⟩ (.int .u64 t275)).heap[gb271]? = some (.cells #[.int .i64 t269, .int .u64 t270] 107 (0, 0))) := ⟨zb BK271⟩
      have n6_ : Aside0 (((((w39.setCell ⟨gb276, 0, none⟩ (.int .i64 t272)).setCell ⟨gb276, 1, none⟩ (.int .u64 t273)).setCell ⟨gb276, 2, none⟩ (.int .i64 t274)).setCell ⟨gb276, 3, none⟩ (.int .u64 t275)).heap[gb276]? = some (.cells #[.int .i64 t272, .int .u64 t273, .int .i64 t274, .int .u64 t275] 109 (0, 0))) := ⟨by refine zM ?_; refine blk_put (cs := #[.int .i64 t272, .int .u64 t273, .int .i64 t274, .int .u64 0]) ?_ 3 _ rfl; refine zM ?_; refine blk_put (cs := #[.int .i64 t272, .int .u64 t273, .int .i64 0, .int .u64 0]) ?_ 2 _ rfl; refine zM ?_; refine blk_put (cs := #[.int .i64 t272, .int .u64 0, .int .i64 0, .int .u64 0]) ?_ 1 _ rfl; refine zM ?_; refine blk_put (cs := #[.int .i64 0, .int .u64 0, .int .i64 0, .int .u64 0]) ?_ 0 _ rfl; refine zM ?_; exact BK276.out⟩
      have n7_ : Aside0 (Below w.heap.size w ((((w39.setCell ⟨gb276, 0, none⟩ (.int .i64 t272)).setCell ⟨gb276, 1, none⟩ (.int .u64 t273)).setCell ⟨gb276, 2, none⟩ (.int .i64 t274)).setCell ⟨gb276, 3, none⟩ (.int .u64 t275))) := ⟨zo HB⟩
      (try clear HO_267001)
      (try clear BK261)
      (try clear BK262)
      (try clear BK263)
      (try clear BK266)
      (try clear BK271)
      (try clear BK276)
      (try clear HB)
      generalize ((((w39.setCell ⟨gb276, 0, none⟩ (.int .i64 t272)).setCell ⟨gb276, 1, none⟩ (.int .u64 t273)).setCell ⟨gb276, 2, none⟩ (.int .i64 t274)).setCell ⟨gb276, 3, none⟩ (.int .u64 t275)) = w46 at n0_ n1_ n2_ n3_ n4_ n5_ n6_ n7_ ⊢
      have HO_267001 := n0_
      have BK261 := n1_
      have BK262 := n2_
      have BK263 := n3_
      have BK266 := n4_
      have BK271 := n5_
      have BK276 := n6_
      have HB := n7_; clear n0_ n1_ n2_ n3_ n4_ n5_ n6_ n7_
      replace HO_267001 := zK (Kd.R_drew HO_267001.out)
      replace BK261 := zK (zD BK261.out)
      replace BK262 := zK (zD BK262.out)
      replace BK263 := zK (zD BK263.out)
      replace BK266 := zK (zD BK266.out)
      replace BK271 := zK (zD BK271.out)
      replace BK276 := zK (zD BK276.out)
      replace HB := zK (yD HB.out)
      refine start_ (n := 9) (S := fun w' => w'.cell? ⟨gb276, 0, none⟩ = some (.int .i64 t272) ∧ w'.cell? ⟨gb276, 1, none⟩ = some (.int .u64 t273) ∧ w'.cell? ⟨gb276, 2, none⟩ = some (.int .i64 t274) ∧ w'.cell? ⟨gb276, 3, none⟩ = some (.int .u64 t275) ∧ w'.cell? ⟨gb271, 0, none⟩ = some (.int .i64 t269) ∧ w'.cell? ⟨gb271, 1, none⟩ = some (.int .u64 t270)) (ds := [8]) #[F_,F_,F_,F_,F_,F_,F_,F_,F_] (by kernel_rfl) rfl rfl ⟨(blk_cell BK276.out 0).trans rfl, (blk_cell BK276.out 1).trans rfl, (blk_cell BK276.out 2).trans rfl, (blk_cell BK276.out 3).trans rfl, (blk_cell BK271.out 0).trans rfl, (blk_cell BK271.out 1).trans rfl⟩ (fun hHeld => ?_); refine with_tabW sequiturref30_pair.tab12 sequiturref30_pair.bits12 (fun HT_ HW_ => ?_)
      generalize w46.drew = w47 at HO_267001 BK261 BK262 BK263 BK266 BK271 BK276 HB hHeld ⊢
      refine pure_ (i := 0) (N := some 50) (v := ?_) (a' := ?_) #[T_,F_,F_,F_,F_,F_,F_,F_,F_] rfl rfl (any_of HT_.out (by kernel_rfl)) (fun _ _ _ h => h) (Or.inl ⟨by rfl, ?_⟩) ?_ ?_; rotate_left; (intro w'; go_simp; with_reducible rfl); rotate_left; (simp only [Act.put, zt, zz, zs, i64_w, i32_w]; rfl)
      refine pure_ (i := 2) (N := some 52) (v := ?_) (a' := ?_) #[T_,F_,T_,F_,F_,F_,F_,F_,F_] rfl rfl (any_of HT_.out (by kernel_rfl)) (fun _ _ _ h => h) (Or.inl ⟨by rfl, ?_⟩) ?_ ?_; rotate_left; (intro w'; go_simp; with_reducible rfl); rotate_left; (simp only [Act.put, zt, zz, zs, i64_w, i32_w]; rfl)
      refine take_ (i := 1) (N := some 51) (v := ?_) (a' := ?_) #[T_,T_,T_,F_,F_,F_,F_,F_,F_] rfl rfl (take_ofW HT_.out HW_.out (by kernel_rfl)) (fun _ _ _ h => h) (Or.inl ⟨by rfl, ?_⟩) hHeld ?_ ?_; rotate_left; (rintro w' ⟨s0, s1, s2, s3, s4, s5⟩; go_simp; with_reducible rfl); rotate_left; (simp only [Act.put, zt, zz, zs, i64_w, i32_w]; rfl)
      refine take_ (i := 3) (N := some 53) (v := ?_) (a' := ?_) #[T_,T_,T_,T_,F_,F_,F_,F_,F_] rfl rfl (take_ofW HT_.out HW_.out (by kernel_rfl)) (fun _ _ _ h => h) (Or.inl ⟨by rfl, ?_⟩) hHeld ?_ ?_; rotate_left; (rintro w' ⟨s0, s1, s2, s3, s4, s5⟩; go_simp; with_reducible rfl); rotate_left; (simp only [Act.put, zt, zz, zs, i64_w, i32_w]; rfl)
      refine one_ (i := 4) (N := some 54) #[T_,T_,T_,T_,T_,F_,F_,F_,F_] rfl rfl (one_of HT_.out (by kernel_rfl)) (by decide) (fun K hK => ?_)
      refine goes_ Try.func81 (by kernel_rfl) rfl #[.int .i64 t269] (by rfl) rfl rfl (by (try simp only [List.map_toArray, List.map_cons, List.map_nil]); first | done | rfl | (simp only [List.length_drop, List.length_take]; rfl)) ?_
      with_reducible refine (sequiturref01_Of.calls t269 t277 t278 _ A25.out).mono ?_
      rintro e w48 ⟨rfl, hb⟩
      refine ⟨_, rfl, ?_⟩
      replace HO_267001 := zK (Kd.R_below (zr HO_267001) hb)
      replace BK261 := zK (blk_below (g := gb261) (o := .cells #[.int .i64 a0_0, .slice A0_1 l0_1.length c0_1] 62 (0, 0)) (zb BK261) hb)
      replace BK262 := zK (blk_below (g := gb262) (o := .cells #[.int .i64 a1_0, .slice A1_1 l1_1.length c1_1] 62 (0, 0)) (zb BK262) hb)
      replace BK263 := zK (blk_below (g := gb263) (o := .cells #[.int .i64 0, .slice none 0 0] 62 (0, 0)) (zb BK263) hb)
      replace BK266 := zK (blk_below (g := gb266) (o := .cells #[.int .i64 x267000_1, u267001] 62 (0, 0)) (zb BK266) hb)
      replace BK271 := zK (blk_below (g := gb271) (o := .cells #[.int .i64 t269, .int .u64 t270] 107 (0, 0)) (zb BK271) hb)
      replace BK276 := zK (blk_below (g := gb276) (o := .cells #[.int .i64 t272, .int .u64 t273, .int .i64 t274, .int .u64 t275] 109 (0, 0)) (zb BK276) hb)
      replace HB := zK (below_step (zo HB) hb)
      (try clear hb); (try clear hb2); (try clear hk); (try clear hi)
      refine hK.out _ _ ⟨(blk_cell BK276.out 0).trans rfl, (blk_cell BK276.out 1).trans rfl, (blk_cell BK276.out 2).trans rfl, (blk_cell BK276.out 3).trans rfl, (blk_cell BK271.out 0).trans rfl, (blk_cell BK271.out 1).trans rfl⟩ (fun hHeld => ?_)
      clear hK K
      refine norm_ (a' := ?_) ?_ ?_; rotate_left; (show Act.put _ (some 54) _ = _; simp only [Act.put, zt, zz, zs, i64_w, i32_w]; rfl)
      refine one_ (i := 5) (N := some 55) #[T_,T_,T_,T_,T_,T_,F_,F_,F_] rfl rfl (one_of HT_.out (by kernel_rfl)) (by decide) (fun K hK => ?_)
      refine goes_ Try.func80 (by kernel_rfl) rfl #[.agg #[.int .i64 t277, .int .u64 t278]] (by rfl) rfl rfl (by (try simp only [List.map_toArray, List.map_cons, List.map_nil]); first | done | rfl | (simp only [List.length_drop, List.length_take]; rfl)) ?_
      with_reducible refine (sequiturref01_Minus.calls t277 t278 t279 t280 _ A26.out).mono ?_
      rintro e w49 ⟨rfl, hb⟩
      refine ⟨_, rfl, ?_⟩
      replace HO_267001 := zK (Kd.R_below (zr HO_267001) hb)
      replace BK261 := zK (blk_below (g := gb261) (o := .cells #[.int .i64 a0_0, .slice A0_1 l0_1.length c0_1] 62 (0, 0)) (zb BK261) hb)
      replace BK262 := zK (blk_below (g := gb262) (o := .cells #[.int .i64 a1_0, .slice A1_1 l1_1.length c1_1] 62 (0, 0)) (zb BK262) hb)
      replace BK263 := zK (blk_below (g := gb263) (o := .cells #[.int .i64 0, .slice none 0 0] 62 (0, 0)) (zb BK263) hb)
      replace BK266 := zK (blk_below (g := gb266) (o := .cells #[.int .i64 x267000_1, u267001] 62 (0, 0)) (zb BK266) hb)
      replace BK271 := zK (blk_below (g := gb271) (o := .cells #[.int .i64 t269, .int .u64 t270] 107 (0, 0)) (zb BK271) hb)
      replace BK276 := zK (blk_below (g := gb276) (o := .cells #[.int .i64 t272, .int .u64 t273, .int .i64 t274, .int .u64 t275] 109 (0, 0)) (zb BK276) hb)
      replace HB := zK (below_step (zo HB) hb)
      (try clear hb); (try clear hb2); (try clear hk); (try clear hi)
      refine hK.out _ _ ⟨(blk_cell BK276.out 0).trans rfl, (blk_cell BK276.out 1).trans rfl, (blk_cell BK276.out 2).trans rfl, (blk_cell BK276.out 3).trans rfl, (blk_cell BK271.out 0).trans rfl, (blk_cell BK271.out 1).trans rfl⟩ (fun hHeld => ?_)
      clear hK K
      refine norm_ (a' := ?_) ?_ ?_; rotate_left; (show Act.put _ (some 55) _ = _; simp only [Act.put, zt, zz, zs, i64_w, i32_w]; rfl)
      refine one_ (i := 6) (N := some 56) #[T_,T_,T_,T_,T_,T_,T_,F_,F_] rfl rfl (one_of HT_.out (by kernel_rfl)) (by decide) (fun K hK => ?_)
      refine goes_ Try.func79 (by kernel_rfl) rfl #[.agg #[.int .i64 t272, .int .u64 t273], .agg #[.int .i64 t279, .int .u64 t280]] (by rfl) rfl rfl (by (try simp only [List.map_toArray, List.map_cons, List.map_nil]); first | done | rfl | (simp only [List.length_drop, List.length_take]; rfl)) ?_
      with_reducible refine (sequiturref01_Plus.calls t272 t273 t279 t280 t281 t282 _ A27.out).mono ?_
      rintro e w50 ⟨rfl, hb⟩
      refine ⟨_, rfl, ?_⟩
      replace HO_267001 := zK (Kd.R_below (zr HO_267001) hb)
      replace BK261 := zK (blk_below (g := gb261) (o := .cells #[.int .i64 a0_0, .slice A0_1 l0_1.length c0_1] 62 (0, 0)) (zb BK261) hb)
      replace BK262 := zK (blk_below (g := gb262) (o := .cells #[.int .i64 a1_0, .slice A1_1 l1_1.length c1_1] 62 (0, 0)) (zb BK262) hb)
      replace BK263 := zK (blk_below (g := gb263) (o := .cells #[.int .i64 0, .slice none 0 0] 62 (0, 0)) (zb BK263) hb)
      replace BK266 := zK (blk_below (g := gb266) (o := .cells #[.int .i64 x267000_1, u267001] 62 (0, 0)) (zb BK266) hb)
      replace BK271 := zK (blk_below (g := gb271) (o := .cells #[.int .i64 t269, .int .u64 t270] 107 (0, 0)) (zb BK271) hb)
      replace BK276 := zK (blk_below (g := gb276) (o := .cells #[.int .i64 t272, .int .u64 t273, .int .i64 t274, .int .u64 t275] 109 (0, 0)) (zb BK276) hb)
      replace HB := zK (below_step (zo HB) hb)
      (try clear hb); (try clear hb2); (try clear hk); (try clear hi)
      refine hK.out _ _ ⟨(blk_cell BK276.out 0).trans rfl, (blk_cell BK276.out 1).trans rfl, (blk_cell BK276.out 2).trans rfl, (blk_cell BK276.out 3).trans rfl, (blk_cell BK271.out 0).trans rfl, (blk_cell BK271.out 1).trans rfl⟩ (fun hHeld => ?_)
      clear hK K
      refine norm_ (a' := ?_) ?_ ?_; rotate_left; (show Act.put _ (some 56) _ = _; simp only [Act.put, zt, zz, zs, i64_w, i32_w]; rfl)
      refine pure_ (i := 7) (N := some 57) (v := ?_) (a' := ?_) #[T_,T_,T_,T_,T_,T_,T_,T_,F_] rfl rfl (any_of HT_.out (by kernel_rfl)) (fun _ _ _ h => h) (Or.inl ⟨by rfl, ?_⟩) ?_ ?_; rotate_left; (intro w'; go_simp; with_reducible rfl); rotate_left; (simp only [Act.put, zt, zz, zs, i64_w, i32_w]; rfl)
      refine last_ (i := 8) (N := none) #[T_,T_,T_,T_,T_,T_,T_,T_,T_] rfl rfl (one_of HT_.out (by kernel_rfl)) (by decide) (fun K hK => ?_)
      have hs51 : w50.cell? ⟨gb276, 0, none⟩ = some (.int .i64 t272) := (blk_cell BK276.out 0).trans rfl
      have hfs51 := blk_frozen BK276.out 0
      have hns51_0 := NB261_276.out
      have hns51_1 := NB262_276.out
      have hns51_2 := NB263_276.out
      have hns51_3 := NB266_276.out
      have hns51_4 := NB271_276.out
      have hms51_0 := NB276_261.out
      have hms51_1 := NB276_262.out
      have hms51_2 := NB276_263.out
      have hms51_3 := NB276_266.out
      have hms51_4 := NB276_271.out
      have hs52 : w50.cell? ⟨gb276, 1, none⟩ = some (.int .u64 t273) := (blk_cell BK276.out 1).trans rfl
      have hfs52 := blk_frozen BK276.out 1
      have hns52_0 := NB261_276.out
      have hns52_1 := NB262_276.out
      have hns52_2 := NB263_276.out
      have hns52_3 := NB266_276.out
      have hns52_4 := NB271_276.out
      have hms52_0 := NB276_261.out
      have hms52_1 := NB276_262.out
      have hms52_2 := NB276_263.out
      have hms52_3 := NB276_266.out
      have hms52_4 := NB276_271.out
      refine skip_ (w1 := ?_) (by rfl) rfl ?_ ?_
      rotate_left
      ·go_simp
       rfl
      refine hK.out _ _ ?_
      clear hK K
      refine done_ (done_of HT_.out (by kernel_rfl)) ?_
      try go_wp2
      have n0_ : Aside0 (Kd.R k68 68 ((w50.setCell ⟨gb276, 0, none⟩ (.int .i64 t281)).setCell ⟨gb276, 1, none⟩ (.int .u64 t282)) w.heap.size (fun _ => True) u267001 x267001_1) := ⟨by (with_reducible repeat (first | apply Kd.R_alloc | apply Kd.R_drewN | apply Kd.R_drew)); exact Kd.R_mono (Kd.R_far (p := ⟨gb276, 1, none⟩) (Kd.R_far (p := ⟨gb276, 0, none⟩) (Kd.R_types HO_267001.out BK276.out (by decide)) (fun _ hk => hk.2) (.int .i64 t281)) (fun _ hk => hk.2) (.int .u64 t282)) (fun _ hk => trivial)⟩
      have n1_ : Aside0 (((w50.setCell ⟨gb276, 0, none⟩ (.int .i64 t281)).setCell ⟨gb276, 1, none⟩ (.int .u64 t282)).heap[gb261]? = some (.cells #[.int .i64 a0_0, .slice A0_1 l0_1.length c0_1] 62 (0, 0))) := ⟨zb BK261⟩
      have n2_ : Aside0 (((w50.setCell ⟨gb276, 0, none⟩ (.int .i64 t281)).setCell ⟨gb276, 1, none⟩ (.int .u64 t282)).heap[gb262]? = some (.cells #[.int .i64 a1_0, .slice A1_1 l1_1.length c1_1] 62 (0, 0))) := ⟨zb BK262⟩
      have n3_ : Aside0 (((w50.setCell ⟨gb276, 0, none⟩ (.int .i64 t281)).setCell ⟨gb276, 1, none⟩ (.int .u64 t282)).heap[gb263]? = some (.cells #[.int .i64 0, .slice none 0 0] 62 (0, 0))) := ⟨zb BK263⟩
      have n4_ : Aside0 (((w50.setCell ⟨gb276, 0, none⟩ (.int .i64 t281)).setCell ⟨gb276, 1, none⟩ (.int .u64 t282)).heap[gb266]? = some (.cells #[.int .i64 x267000_1, u267001] 62 (0, 0))) := ⟨zb BK266⟩
      have n5_ : Aside0 (((w50.setCell ⟨gb276, 0, none⟩ (.int .i64 t281)).setCell ⟨gb276, 1, none⟩ (.int .u64 t282)).heap[gb271]? = some (.cells #[.int .i64 t269, .int .u64 t270] 107 (0, 0))) := ⟨zb BK271⟩
      have n6_ : Aside0 (((w50.setCell ⟨gb276, 0, none⟩ (.int .i64 t281)).setCell ⟨gb276, 1, none⟩ (.int .u64 t282)).heap[gb276]? = some (.cells #[.int .i64 t281, .int .u64 t282, .int .i64 t274, .int .u64 t275] 109 (0, 0))) := ⟨by refine zM ?_; refine blk_put (cs := #[.int .i64 t281, .int .u64 t273, .int .i64 t274, .int .u64 t275]) ?_ 1 _ rfl; refine zM ?_; refine blk_put (cs := #[.int .i64 t272, .int .u64 t273, .int .i64 t274, .int .u64 t275]) ?_ 0 _ rfl; refine zM ?_; exact BK276.out⟩
      have n7_ : Aside0 (Below w.heap.size w ((w50.setCell ⟨gb276, 0, none⟩ (.int .i64 t281)).setCell ⟨gb276, 1, none⟩ (.int .u64 t282))) := ⟨zo HB⟩
      (try clear HO_267001)
      (try clear BK261)
      (try clear BK262)
      (try clear BK263)
      (try clear BK266)
      (try clear BK271)
      (try clear BK276)
      (try clear HB)
      generalize ((w50.setCell ⟨gb276, 0, none⟩ (.int .i64 t281)).setCell ⟨gb276, 1, none⟩ (.int .u64 t282)) = w53 at n0_ n1_ n2_ n3_ n4_ n5_ n6_ n7_ ⊢
      have HO_267001 := n0_
      have BK261 := n1_
      have BK262 := n2_
      have BK263 := n3_
      have BK266 := n4_
      have BK271 := n5_
      have BK276 := n6_
      have HB := n7_; clear n0_ n1_ n2_ n3_ n4_ n5_ n6_ n7_
      replace HO_267001 := zK (Kd.R_drew HO_267001.out)
      replace BK261 := zK (zD BK261.out)
      replace BK262 := zK (zD BK262.out)
      replace BK263 := zK (zD BK263.out)
      replace BK266 := zK (zD BK266.out)
      replace BK271 := zK (zD BK271.out)
      replace BK276 := zK (zD BK276.out)
      replace HB := zK (yD HB.out)
      refine start_ (n := 9) (S := fun w' => w'.cell? ⟨gb276, 0, none⟩ = some (.int .i64 t281) ∧ w'.cell? ⟨gb276, 1, none⟩ = some (.int .u64 t282) ∧ w'.cell? ⟨gb276, 2, none⟩ = some (.int .i64 t274) ∧ w'.cell? ⟨gb276, 3, none⟩ = some (.int .u64 t275) ∧ w'.cell? ⟨gb271, 0, none⟩ = some (.int .i64 t269) ∧ w'.cell? ⟨gb271, 1, none⟩ = some (.int .u64 t270)) (ds := [8]) #[F_,F_,F_,F_,F_,F_,F_,F_,F_] (by kernel_rfl) rfl rfl ⟨(blk_cell BK276.out 0).trans rfl, (blk_cell BK276.out 1).trans rfl, (blk_cell BK276.out 2).trans rfl, (blk_cell BK276.out 3).trans rfl, (blk_cell BK271.out 0).trans rfl, (blk_cell BK271.out 1).trans rfl⟩ (fun hHeld => ?_); refine with_tabW sequiturref30_pair.tab13 sequiturref30_pair.bits13 (fun HT_ HW_ => ?_)
      generalize w53.drew = w54 at HO_267001 BK261 BK262 BK263 BK266 BK271 BK276 HB hHeld ⊢
      refine pure_ (i := 0) (N := some 58) (v := ?_) (a' := ?_) #[T_,F_,F_,F_,F_,F_,F_,F_,F_] rfl rfl (any_of HT_.out (by kernel_rfl)) (fun _ _ _ h => h) (Or.inl ⟨by rfl, ?_⟩) ?_ ?_; rotate_left; (intro w'; go_simp; with_reducible rfl); rotate_left; (simp only [Act.put, zt, zz, zs, i64_w, i32_w]; rfl)
      refine pure_ (i := 2) (N := some 60) (v := ?_) (a' := ?_) #[T_,F_,T_,F_,F_,F_,F_,F_,F_] rfl rfl (any_of HT_.out (by kernel_rfl)) (fun _ _ _ h => h) (Or.inl ⟨by rfl, ?_⟩) ?_ ?_; rotate_left; (intro w'; go_simp; with_reducible rfl); rotate_left; (simp only [Act.put, zt, zz, zs, i64_w, i32_w]; rfl)
      refine take_ (i := 1) (N := some 59) (v := ?_) (a' := ?_) #[T_,T_,T_,F_,F_,F_,F_,F_,F_] rfl rfl (take_ofW HT_.out HW_.out (by kernel_rfl)) (fun _ _ _ h => h) (Or.inl ⟨by rfl, ?_⟩) hHeld ?_ ?_; rotate_left; (rintro w' ⟨s0, s1, s2, s3, s4, s5⟩; go_simp; with_reducible rfl); rotate_left; (simp only [Act.put, zt, zz, zs, i64_w, i32_w]; rfl)
      refine take_ (i := 3) (N := some 61) (v := ?_) (a' := ?_) #[T_,T_,T_,T_,F_,F_,F_,F_,F_] rfl rfl (take_ofW HT_.out HW_.out (by kernel_rfl)) (fun _ _ _ h => h) (Or.inl ⟨by rfl, ?_⟩) hHeld ?_ ?_; rotate_left; (rintro w' ⟨s0, s1, s2, s3, s4, s5⟩; go_simp; with_reducible rfl); rotate_left; (simp only [Act.put, zt, zz, zs, i64_w, i32_w]; rfl)
      refine pure_ (i := 4) (N := some 62) (v := ?_) (a' := ?_) #[T_,T_,T_,T_,T_,F_,F_,F_,F_] rfl rfl (any_of HT_.out (by kernel_rfl)) (fun _ _ _ h => h) (Or.inl ⟨by rfl, ?_⟩) ?_ ?_; rotate_left; (intro w'; go_simp; with_reducible rfl); rotate_left; (simp only [Act.put, zt, zz, zs, i64_w, i32_w]; rfl)
      refine one_ (i := 5) (N := some 63) #[T_,T_,T_,T_,T_,T_,F_,F_,F_] rfl rfl (one_of HT_.out (by kernel_rfl)) (by decide) (fun K hK => ?_)
      refine goes_ Try.func80 (by kernel_rfl) rfl #[.agg #[.int .i64 0, .int .u64 t270]] (by rfl) rfl rfl (by (try simp only [List.map_toArray, List.map_cons, List.map_nil]); first | done | rfl | (simp only [List.length_drop, List.length_take]; rfl)) ?_
      with_reducible refine (sequiturref01_Minus.calls 0 t270 t283 t284 _ A28.out).mono ?_
      rintro e w55 ⟨rfl, hb⟩
      refine ⟨_, rfl, ?_⟩
      replace HO_267001 := zK (Kd.R_below (zr HO_267001) hb)
      replace BK261 := zK (blk_below (g := gb261) (o := .cells #[.int .i64 a0_0, .slice A0_1 l0_1.length c0_1] 62 (0, 0)) (zb BK261) hb)
      replace BK262 := zK (blk_below (g := gb262) (o := .cells #[.int .i64 a1_0, .slice A1_1 l1_1.length c1_1] 62 (0, 0)) (zb BK262) hb)
      replace BK263 := zK (blk_below (g := gb263) (o := .cells #[.int .i64 0, .slice none 0 0] 62 (0, 0)) (zb BK263) hb)
      replace BK266 := zK (blk_below (g := gb266) (o := .cells #[.int .i64 x267000_1, u267001] 62 (0, 0)) (zb BK266) hb)
      replace BK271 := zK (blk_below (g := gb271) (o := .cells #[.int .i64 t269, .int .u64 t270] 107 (0, 0)) (zb BK271) hb)
      replace BK276 := zK (blk_below (g := gb276) (o := .cells #[.int .i64 t281, .int .u64 t282, .int .i64 t274, .int .u64 t275] 109 (0, 0)) (zb BK276) hb)
      replace HB := zK (below_step (zo HB) hb)
      (try clear hb); (try clear hb2); (try clear hk); (try clear hi)
      refine hK.out _ _ ⟨(blk_cell BK276.out 0).trans rfl, (blk_cell BK276.out 1).trans rfl, (blk_cell BK276.out 2).trans rfl, (blk_cell BK276.out 3).trans rfl, (blk_cell BK271.out 0).trans rfl, (blk_cell BK271.out 1).trans rfl⟩ (fun hHeld => ?_)
      clear hK K
      refine norm_ (a' := ?_) ?_ ?_; rotate_left; (show Act.put _ (some 63) _ = _; simp only [Act.put, zt, zz, zs, i64_w, i32_w]; rfl)
      refine one_ (i := 6) (N := some 64) #[T_,T_,T_,T_,T_,T_,T_,F_,F_] rfl rfl (one_of HT_.out (by kernel_rfl)) (by decide) (fun K hK => ?_)
      refine goes_ Try.func79 (by kernel_rfl) rfl #[.agg #[.int .i64 t274, .int .u64 t275], .agg #[.int .i64 t283, .int .u64 t284]] (by rfl) rfl rfl (by (try simp only [List.map_toArray, List.map_cons, List.map_nil]); first | done | rfl | (simp only [List.length_drop, List.length_take]; rfl)) ?_
      with_reducible refine (sequiturref01_Plus.calls t274 t275 t283 t284 t285 t286 _ A29.out).mono ?_
      rintro e w56 ⟨rfl, hb⟩
      refine ⟨_, rfl, ?_⟩
      replace HO_267001 := zK (Kd.R_below (zr HO_267001) hb)
      replace BK261 := zK (blk_below (g := gb261) (o := .cells #[.int .i64 a0_0, .slice A0_1 l0_1.length c0_1] 62 (0, 0)) (zb BK261) hb)
      replace BK262 := zK (blk_below (g := gb262) (o := .cells #[.int .i64 a1_0, .slice A1_1 l1_1.length c1_1] 62 (0, 0)) (zb BK262) hb)
      replace BK263 := zK (blk_below (g := gb263) (o := .cells #[.int .i64 0, .slice none 0 0] 62 (0, 0)) (zb BK263) hb)
      replace BK266 := zK (blk_below (g := gb266) (o := .cells #[.int .i64 x267000_1, u267001] 62 (0, 0)) (zb BK266) hb)
      replace BK271 := zK (blk_below (g := gb271) (o := .cells #[.int .i64 t269, .int .u64 t270] 107 (0, 0)) (zb BK271) hb)
      replace BK276 := zK (blk_below (g := gb276) (o := .cells #[.int .i64 t281, .int .u64 t282, .int .i64 t274, .int .u64 t275] 109 (0, 0)) (zb BK276) hb)
      replace HB := zK (below_step (zo HB) hb)
      (try clear hb); (try clear hb2); (try clear hk); (try clear hi)
      refine hK.out _ _ ⟨(blk_cell BK276.out 0).trans rfl, (blk_cell BK276.out 1).trans rfl, (blk_cell BK276.out 2).trans rfl, (blk_cell BK276.out 3).trans rfl, (blk_cell BK271.out 0).trans rfl, (blk_cell BK271.out 1).trans rfl⟩ (fun hHeld => ?_)
      clear hK K
      refine norm_ (a' := ?_) ?_ ?_; rotate_left; (show Act.put _ (some 64) _ = _; simp only [Act.put, zt, zz, zs, i64_w, i32_w]; rfl)
      refine pure_ (i := 7) (N := some 65) (v := ?_) (a' := ?_) #[T_,T_,T_,T_,T_,T_,T_,T_,F_] rfl rfl (any_of HT_.out (by kernel_rfl)) (fun _ _ _ h => h) (Or.inl ⟨by rfl, ?_⟩) ?_ ?_; rotate_left; (intro w'; go_simp; with_reducible rfl); rotate_left; (simp only [Act.put, zt, zz, zs, i64_w, i32_w]; rfl)
      refine last_ (i := 8) (N := none) #[T_,T_,T_,T_,T_,T_,T_,T_,T_] rfl rfl (one_of HT_.out (by kernel_rfl)) (by decide) (fun K hK => ?_)
      have hs57 : w56.cell? ⟨gb276, 2, none⟩ = some (.int .i64 t274) := (blk_cell BK276.out 2).trans rfl
      have hfs57 := blk_frozen BK276.out 2
      have hns57_0 := NB261_276.out
      have hns57_1 := NB262_276.out
      have hns57_2 := NB263_276.out
      have hns57_3 := NB266_276.out
      have hns57_4 := NB271_276.out
      have hms57_0 := NB276_261.out
      have hms57_1 := NB276_262.out
      have hms57_2 := NB276_263.out
      have hms57_3 := NB276_266.out
      have hms57_4 := NB276_271.out
      have hs58 : w56.cell? ⟨gb276, 3, none⟩ = some (.int .u64 t275) := (blk_cell BK276.out 3).trans rfl
      have hfs58 := blk_frozen BK276.out 3
      have hns58_0 := NB261_276.out
      have hns58_1 := NB262_276.out
      have hns58_2 := NB263_276.out
      have hns58_3 := NB266_276.out
      have hns58_4 := NB271_276.out
      have hms58_0 := NB276_261.out
      have hms58_1 := NB276_262.out
      have hms58_2 := NB276_263.out
      have hms58_3 := NB276_266.out
      have hms58_4 := NB276_271.out
      refine skip_ (w1 := ?_) (by rfl) rfl ?_ ?_
      rotate_left
      ·go_simp
       rfl
      refine hK.out _ _ ?_
      clear hK K
      refine done_ (done_of HT_.out (by kernel_rfl)) ?_
      go_upto_region 14 with (fail)
      go_cut [70] (fun v70 wc => ∃ (kq : Nat) (x70_29 : Bool), v70 = .bool x70_29 ∧ Aside0 (sequiturref30_pair.j2 kq a3 t264 t265 x13_1 x14_1 x70_29 a0_0 l0_1 a1_0 l1_1 x267000_1 x267001_1 t281 t282 t285 t286 = some (r1, r2, r3)) ∧ Aside0 (kq ≤ kj14) ∧ Aside0 (Kd.R k68 68 wc w.heap.size (fun _ => True) u267001 x267001_1) ∧ Aside0 (wc.heap[gb261]? = some (.cells #[.int .i64 a0_0, (.slice A0_1 l0_1.length c0_1)] 62 (0, 0))) ∧ Aside0 (wc.heap[gb262]? = some (.cells #[.int .i64 a1_0, (.slice A1_1 l1_1.length c1_1)] 62 (0, 0))) ∧ Aside0 (wc.heap[gb263]? = some (.cells #[.int .i64 0, (.slice none 0 0)] 62 (0, 0))) ∧ Aside0 (wc.heap[gb266]? = some (.cells #[.int .i64 x267000_1, u267001] 62 (0, 0))) ∧ Aside0 (wc.heap[gb271]? = some (.cells #[.int .i64 t269, .int .u64 t270] 107 (0, 0))) ∧ Aside0 (wc.heap[gb276]? = some (.cells #[.int .i64 t281, .int .u64 t282, .int .i64 t285, .int .u64 t286] 109 (0, 0))) ∧ Aside0 (Below w.heap.size w wc))
      case first =>
       have H := HC30.out; clear HC30
       by_cases c59 : x14_1 < 0
       ·rw [if_pos c59] at H
        have c59b0 : decide (x14_1 < 0) = true := decide_eq_true c59; clear c59
        (first | rw [c59b0] | (simp only [i64_w, i32_w]; rw [c59b0]) | skip)
        have H' := zK H; clear H
        go_wp2
        go_meet
        case rel => exact ⟨_, (a3), (by first | rfl | (simp; done) | (simp [*]; done)), H', ⟨by have := HK1.out; have := HJ14.out; first | omega | exact Nat.le_refl _⟩, ⟨by (with_reducible repeat (first | apply Kd.R_alloc | apply Kd.R_drewN | apply Kd.R_drew)); exact Kd.R_mono (Kd.R_far (p := ⟨gb276, 3, none⟩) (Kd.R_far (p := ⟨gb276, 2, none⟩) (Kd.R_types HO_267001.out BK276.out (by decide)) (fun _ hk => hk.2) (.int .i64 t285)) (fun _ hk => hk.2) (.int .u64 t286)) (fun _ hk => trivial)⟩, ⟨zb BK261⟩, ⟨zb BK262⟩, ⟨zb BK263⟩, ⟨zb BK266⟩, ⟨zb BK271⟩, ⟨by refine zM ?_; refine blk_put (cs := #[.int .i64 t281, .int .u64 t282, .int .i64 t285, .int .u64 t275]) ?_ 3 _ rfl; refine zM ?_; refine blk_put (cs := #[.int .i64 t281, .int .u64 t282, .int .i64 t274, .int .u64 t275]) ?_ 2 _ rfl; refine zM ?_; exact BK276.out⟩, ⟨zo HB⟩⟩
       ·rw [if_neg c59] at H
        have c59b0 : decide (x14_1 < 0) = false := decide_eq_false c59; clear c59
        (first | rw [c59b0] | (simp only [i64_w, i32_w]; rw [c59b0]) | skip)
        have H' := zK H; clear H
        go_wp2
        go_meet
        case rel => exact ⟨_, (false), (by first | rfl | (simp; done) | (simp [*]; done)), H', ⟨by have := HK1.out; have := HJ14.out; first | omega | exact Nat.le_refl _⟩, ⟨by (with_reducible repeat (first | apply Kd.R_alloc | apply Kd.R_drewN | apply Kd.R_drew)); exact Kd.R_mono (Kd.R_far (p := ⟨gb276, 3, none⟩) (Kd.R_far (p := ⟨gb276, 2, none⟩) (Kd.R_types HO_267001.out BK276.out (by decide)) (fun _ hk => hk.2) (.int .i64 t285)) (fun _ hk => hk.2) (.int .u64 t286)) (fun _ hk => trivial)⟩, ⟨zb BK261⟩, ⟨zb BK262⟩, ⟨zb BK263⟩, ⟨zb BK266⟩, ⟨zb BK271⟩, ⟨by refine zM ?_; refine blk_put (cs := #[.int .i64 t281, .int .u64 t282, .int .i64 t285, .int .u64 t275]) ?_ 3 _ rfl; refine zM ?_; refine blk_put (cs := #[.int .i64 t281, .int .u64 t282, .int .i64 t274, .int .u64 t275]) ?_ 2 _ rfl; refine zM ?_; exact BK276.out⟩, ⟨zo HB⟩⟩
      case rest =>
       clear HC30; try clear c1; try clear p2; try clear c3
       try clear c4; try clear c5; try clear c7; try clear c8
       try clear c14; try clear c14b0; try clear c17; try clear c17b0
       try clear c33; try clear c34; try clear c35; try clear c36
       try clear c40; try clear c41; try clear c42; try clear c43
       try clear c44; try clear c59; try clear c59b0; try clear hcz37_0
       try clear hcz37_1; try clear hcz45_0; try clear hcz45_1; try clear hcz45_2
       try clear hcz45_3; try clear hfz37_0; try clear hfz37_1; try clear hfz45_0
       try clear hfz45_1; try clear hfz45_2; try clear hfz45_3; try clear p2
       obtain ⟨kq, x70_29, rfl, HA, HJ29, HO_267001, BK261, BK262, BK263, BK266, BK271, BK276, HB⟩ := hcut
       cases kq with
       | zero => exact absurd HA.out (by simp [sequiturref30_pair.j2])
       | succ kj29 =>
        have H := HA.out; clear HA
        simp only [sequiturref30_pair.j2] at H
        have HC60 := zK H; clear H
        go_upto_if 70 with (fail)
        go_cut [] (fun wc => ∃ (kq : Nat) (x277000_59 : Int) (x277001_59 : Int) (x277002_59 : Int) (x277003_59 : Int), Aside0 (sequiturref30_pair.j3 kq a3 t264 t265 x13_1 x14_1 a0_0 l0_1 a1_0 l1_1 x267000_1 x267001_1 x277000_59 x277001_59 x277002_59 x277003_59 = some (r1, r2, r3)) ∧ Aside0 (kq ≤ kj29) ∧ Aside0 (Kd.R k68 68 wc w.heap.size (fun _ => True) u267001 x267001_1) ∧ Aside0 (wc.heap[gb261]? = some (.cells #[.int .i64 a0_0, (.slice A0_1 l0_1.length c0_1)] 62 (0, 0))) ∧ Aside0 (wc.heap[gb262]? = some (.cells #[.int .i64 a1_0, (.slice A1_1 l1_1.length c1_1)] 62 (0, 0))) ∧ Aside0 (wc.heap[gb263]? = some (.cells #[.int .i64 0, (.slice none 0 0)] 62 (0, 0))) ∧ Aside0 (wc.heap[gb266]? = some (.cells #[.int .i64 x267000_1, u267001] 62 (0, 0))) ∧ Aside0 (wc.heap[gb271]? = some (.cells #[.int .i64 t269, .int .u64 t270] 107 (0, 0))) ∧ Aside0 (wc.heap[gb276]? = some (.cells #[.int .i64 x277000_59, .int .u64 x277001_59, .int .i64 x277002_59, .int .u64 x277003_59] 109 (0, 0))) ∧ Aside0 (Below w.heap.size w wc))
        case first =>
         have H := HC60.out; clear HC60
         by_cases c61 : x70_29 = true
         ·subst c61
          have H1 : ((sequiturref27_More.f kj29 t281 t282 t285 t286 (wrap64 ((-1) - t265)) (wrap64 (t264 - 1))).bind fun bt287 => (sequiturref30_pair.j3 kj29 a3 t264 t265 x13_1 x14_1 a0_0 l0_1 a1_0 l1_1 x267000_1 x267001_1 bt287.1 bt287.2.1 bt287.2.2.1 bt287.2.2.2)) = some (r1, r2, r3) := by rw [if_pos rfl] at H; exact H
          clear H; have H := H1
          clear H1; replace H := Option.bind_eq_some_iff.mp H
          obtain ⟨⟨t287, t288, t289, t290⟩, A620, H⟩ := H
          replace H : (sequiturref30_pair.j3 kj29 a3 t264 t265 x13_1 x14_1 a0_0 l0_1 a1_0 l1_1 x267000_1 x267001_1 t287 t288 t289 t290) = some (r1, r2, r3) := H
          have A62 := zK A620; clear A620
          have H' := zK H; clear H
          have hnb63 := NB276_261.out
          have hnc63 := NB261_276.out
          have hnb64 := NB276_262.out
          have hnc64 := NB262_276.out
          have hnb65 := NB276_263.out
          have hnc65 := NB263_276.out
          have hnb66 := NB276_266.out
          have hnc66 := NB266_276.out
          have hnb67 := NB276_271.out
          have hnc67 := NB271_276.out
          have hcz68_0 : wc.cell? ⟨gb276, 0, none⟩ = some (.int .i64 t281) := (blk_cell BK276.out 0).trans rfl
          have hcz68_1 : wc.cell? ⟨gb276, 1, none⟩ = some (.int .u64 t282) := (blk_cell BK276.out 1).trans rfl
          have hcz68_2 : wc.cell? ⟨gb276, 2, none⟩ = some (.int .i64 t285) := (blk_cell BK276.out 2).trans rfl
          have hcz68_3 : wc.cell? ⟨gb276, 3, none⟩ = some (.int .u64 t286) := (blk_cell BK276.out 3).trans rfl
          have hfz68_0 := blk_frozen BK276.out 0
          have hfz68_1 := blk_frozen BK276.out 1
          have hfz68_2 := blk_frozen BK276.out 2
          have hfz68_3 := blk_frozen BK276.out 3
          go_wp2_with (first | ((with_reducible refine zC (f := 71) rfl ?_); refine goesL_ (some 76) rfl rfl Try.func71 (by kernel_rfl) rfl #[.agg #[.int .i64 t281, .int .u64 t282, .int .i64 t285, .int .u64 t286], .int .i64 (wrap64 ((-1) - t265)), .int .i64 (wrap64 (t264 - 1))] rfl (by (try simp only [List.map_toArray, List.map_cons, List.map_nil]); first | done | rfl | (simp only [List.length_drop, List.length_take]; rfl)) ?_; (with_reducible refine (sequiturref27_More.calls kj29 t281 t282 t285 t286 (wrap64 ((-1) - t265)) (wrap64 (t264 - 1)) t287 t288 t289 t290 _ A62.out).mono ?_); rintro e w69 ⟨rfl, hb⟩; refine ⟨_, rfl, ?_⟩; replace HO_267001 := zK (Kd.R_below (zr HO_267001) hb); replace BK261 := zK (blk_below (g := gb261) (o := .cells #[.int .i64 a0_0, .slice A0_1 l0_1.length c0_1] 62 (0, 0)) (zb BK261) hb); replace BK262 := zK (blk_below (g := gb262) (o := .cells #[.int .i64 a1_0, .slice A1_1 l1_1.length c1_1] 62 (0, 0)) (zb BK262) hb); replace BK263 := zK (blk_below (g := gb263) (o := .cells #[.int .i64 0, .slice none 0 0] 62 (0, 0)) (zb BK263) hb); replace BK266 := zK (blk_below (g := gb266) (o := .cells #[.int .i64 x267000_1, u267001] 62 (0, 0)) (zb BK266) hb); replace BK271 := zK (blk_below (g := gb271) (o := .cells #[.int .i64 t269, .int .u64 t270] 107 (0, 0)) (zb BK271) hb); replace BK276 := zK (blk_below (g := gb276) (o := .cells #[.int .i64 t281, .int .u64 t282, .int .i64 t285, .int .u64 t286] 109 (0, 0)) (zb BK276) hb); replace HB := zK (below_step (zo HB) hb); (try clear hb); (try clear hb2); (try clear hk); (try clear hi); have hcz70_0 : w69.cell? ⟨gb276, 0, none⟩ = some (.int .i64 t281) := (blk_cell BK276.out 0).trans rfl; have hcz70_1 : w69.cell? ⟨gb276, 1, none⟩ = some (.int .u64 t282) := (blk_cell BK276.out 1).trans rfl; have hcz70_2 : w69.cell? ⟨gb276, 2, none⟩ = some (.int .i64 t285) := (blk_cell BK276.out 2).trans rfl; have hcz70_3 : w69.cell? ⟨gb276, 3, none⟩ = some (.int .u64 t286) := (blk_cell BK276.out 3).trans rfl; have hfz70_0 := blk_frozen BK276.out 0; have hfz70_1 := blk_frozen BK276.out 1; have hfz70_2 := blk_frozen BK276.out 2; have hfz70_3 := blk_frozen BK276.out 3))
          go_meet
          case rel => exact ⟨_, (t287), (t288), (t289), (t290), H', ⟨by have := HK1.out; have := HJ14.out; have := HJ29.out; first | omega | exact Nat.le_refl _⟩, ⟨by (with_reducible repeat (first | apply Kd.R_alloc | apply Kd.R_drewN | apply Kd.R_drew)); exact Kd.R_mono (Kd.R_far (p := ⟨gb276, 3, none⟩) (Kd.R_far (p := ⟨gb276, 2, none⟩) (Kd.R_far (p := ⟨gb276, 1, none⟩) (Kd.R_far (p := ⟨gb276, 0, none⟩) (Kd.R_types HO_267001.out BK276.out (by decide)) (fun _ hk => hk.2) (.int .i64 t287)) (fun _ hk => hk.2) (.int .u64 t288)) (fun _ hk => hk.2) (.int .i64 t289)) (fun _ hk => hk.2) (.int .u64 t290)) (fun _ hk => trivial)⟩, ⟨zb BK261⟩, ⟨zb BK262⟩, ⟨zb BK263⟩, ⟨zb BK266⟩, ⟨zb BK271⟩, ⟨by refine zM ?_; refine blk_put (cs := #[.int .i64 t287, .int .u64 t288, .int .i64 t289, .int .u64 t286]) ?_ 3 _ rfl; refine zM ?_; refine blk_put (cs := #[.int .i64 t287, .int .u64 t288, .int .i64 t285, .int .u64 t286]) ?_ 2 _ rfl; refine zM ?_; refine blk_put (cs := #[.int .i64 t287, .int .u64 t282, .int .i64 t285, .int .u64 t286]) ?_ 1 _ rfl; refine zM ?_; refine blk_put (cs := #[.int .i64 t281, .int .u64 t282, .int .i64 t285, .int .u64 t286]) ?_ 0 _ rfl; refine zM ?_; exact BK276.out⟩, ⟨zo HB⟩⟩
         ·replace c61 := Bool.eq_false_iff.mpr c61
          subst c61
          have H1 : (sequiturref30_pair.j3 kj29 a3 t264 t265 x13_1 x14_1 a0_0 l0_1 a1_0 l1_1 x267000_1 x267001_1 t281 t282 t285 t286) = some (r1, r2, r3) := by rw [if_neg (show ¬ (false = true) by decide)] at H; exact H
          clear H; have H := H1; clear H1
          have H' := zK H; clear H
          go_wp2
          go_meet
          case rel => exact ⟨_, (t281), (t282), (t285), (t286), H', ⟨by have := HK1.out; have := HJ14.out; have := HJ29.out; first | omega | exact Nat.le_refl _⟩, ⟨zr HO_267001⟩, ⟨zb BK261⟩, ⟨zb BK262⟩, ⟨zb BK263⟩, ⟨zb BK266⟩, ⟨zb BK271⟩, ⟨zb BK276⟩, ⟨zo HB⟩⟩
        case rest =>
         clear HC60; try clear c1; try clear p2; try clear c3
         try clear c4; try clear c5; try clear c6; try clear p6
         try clear c7; try clear c8; try clear c14; try clear c14b0
         try clear c17; try clear c17b0; try clear c33; try clear c34
         try clear c35; try clear c36; try clear c40; try clear c41
         try clear c42; try clear c43; try clear c44; try clear c59
         try clear c59b0; try clear c61; try clear c63; try clear c64
         try clear p64; try clear c65; try clear c66; try clear c67
         try clear hcz37_0; try clear hcz37_1; try clear hcz45_0; try clear hcz45_1
         try clear hcz45_2; try clear hcz45_3; try clear hcz68_0; try clear hcz68_1
         try clear hcz68_2; try clear hcz68_3; try clear hcz70_0; try clear hcz70_1
         try clear hcz70_2; try clear hcz70_3; try clear hfz37_0; try clear hfz37_1
         try clear hfz45_0; try clear hfz45_1; try clear hfz45_2; try clear hfz45_3
         try clear hfz68_0; try clear hfz68_1; try clear hfz68_2; try clear hfz68_3
         try clear hfz70_0; try clear hfz70_1; try clear hfz70_2; try clear hfz70_3
         try clear p2
         obtain ⟨kq, x277000_59, x277001_59, x277002_59, x277003_59, HA, HJ59, HO_267001, BK261, BK262, BK263, BK266, BK271, BK276, HB⟩ := hcut
         cases kq with
         | zero => exact absurd HA.out (by simp [sequiturref30_pair.j3])
         | succ kj59 =>
          have H := HA.out; clear HA
          simp only [sequiturref30_pair.j3] at H
          replace H := Option.bind_eq_some_iff.mp H
          obtain ⟨⟨t291, t292⟩, A710, H⟩ := H
          replace H : (if x13_1 = true then (sequiturref30_pair.j4 kj59 a3 t264 t265 t292 x14_1 t291 a0_0 l0_1 a1_0 l1_1 x267000_1 x267001_1) else (sequiturref30_pair.j4 kj59 a3 t264 t265 false x14_1 t291 a0_0 l0_1 a1_0 l1_1 x267000_1 x267001_1)) = some (r1, r2, r3) := H
          have A71 := zK A710; clear A710
          have HC72 := zK H; clear H
          have hnb73 := NB276_261.out
          have hnc73 := NB261_276.out
          have hnb74 := NB276_262.out
          have hnc74 := NB262_276.out
          have hnb75 := NB276_263.out
          have hnc75 := NB263_276.out
          have hnb76 := NB276_266.out
          have hnc76 := NB266_276.out
          have hnb77 := NB276_271.out
          have hnc77 := NB271_276.out
          have hcz78_0 : wc.cell? ⟨gb276, 0, none⟩ = some (.int .i64 x277000_59) := (blk_cell BK276.out 0).trans rfl
          have hcz78_1 : wc.cell? ⟨gb276, 1, none⟩ = some (.int .u64 x277001_59) := (blk_cell BK276.out 1).trans rfl
          have hcz78_2 : wc.cell? ⟨gb276, 2, none⟩ = some (.int .i64 x277002_59) := (blk_cell BK276.out 2).trans rfl
          have hcz78_3 : wc.cell? ⟨gb276, 3, none⟩ = some (.int .u64 x277003_59) := (blk_cell BK276.out 3).trans rfl
          have hfz78_0 := blk_frozen BK276.out 0
          have hfz78_1 := blk_frozen BK276.out 1
          have hfz78_2 := blk_frozen BK276.out 2
          have hfz78_3 := blk_frozen BK276.out 3
          go_upto_region 17 with (first | ((with_reducible refine zC (f := 72) rfl ?_); refine goesL_ (some 79) rfl rfl Try.func72 (by kernel_rfl) rfl #[.agg #[.int .i64 x277000_59, .int .u64 x277001_59, .int .i64 x277002_59, .int .u64 x277003_59]] rfl (by (try simp only [List.map_toArray, List.map_cons, List.map_nil]); first | done | rfl | (simp only [List.length_drop, List.length_take]; rfl)) ?_; (with_reducible refine (sequiturref27_Fits.calls x277000_59 x277001_59 x277002_59 x277003_59 t291 t292 _ A71.out).mono ?_); rintro e w79 ⟨rfl, hb⟩; refine ⟨_, rfl, ?_⟩; replace HO_267001 := zK (Kd.R_below (zr HO_267001) hb); replace BK261 := zK (blk_below (g := gb261) (o := .cells #[.int .i64 a0_0, .slice A0_1 l0_1.length c0_1] 62 (0, 0)) (zb BK261) hb); replace BK262 := zK (blk_below (g := gb262) (o := .cells #[.int .i64 a1_0, .slice A1_1 l1_1.length c1_1] 62 (0, 0)) (zb BK262) hb); replace BK263 := zK (blk_below (g := gb263) (o := .cells #[.int .i64 0, .slice none 0 0] 62 (0, 0)) (zb BK263) hb); replace BK266 := zK (blk_below (g := gb266) (o := .cells #[.int .i64 x267000_1, u267001] 62 (0, 0)) (zb BK266) hb); replace BK271 := zK (blk_below (g := gb271) (o := .cells #[.int .i64 t269, .int .u64 t270] 107 (0, 0)) (zb BK271) hb); replace BK276 := zK (blk_below (g := gb276) (o := .cells #[.int .i64 x277000_59, .int .u64 x277001_59, .int .i64 x277002_59, .int .u64 x277003_59] 109 (0, 0)) (zb BK276) hb); replace HB := zK (below_step (zo HB) hb); (try clear hb); (try clear hb2); (try clear hk); (try clear hi)))
          (try simp only [Act.put, zt, zz, zs])
          go_cut [13] (fun v13 wc => ∃ (kq : Nat) (x13_71 : Bool), v13 = .bool x13_71 ∧ Aside0 (sequiturref30_pair.j4 kq a3 t264 t265 x13_71 x14_1 t291 a0_0 l0_1 a1_0 l1_1 x267000_1 x267001_1 = some (r1, r2, r3)) ∧ Aside0 (kq ≤ kj59) ∧ Aside0 (Kd.R k68 68 wc w.heap.size (fun _ => True) u267001 x267001_1) ∧ Aside0 (wc.heap[gb261]? = some (.cells #[.int .i64 a0_0, (.slice A0_1 l0_1.length c0_1)] 62 (0, 0))) ∧ Aside0 (wc.heap[gb262]? = some (.cells #[.int .i64 a1_0, (.slice A1_1 l1_1.length c1_1)] 62 (0, 0))) ∧ Aside0 (wc.heap[gb263]? = some (.cells #[.int .i64 0, (.slice none 0 0)] 62 (0, 0))) ∧ Aside0 (wc.heap[gb266]? = some (.cells #[.int .i64 x267000_1, u267001] 62 (0, 0))) ∧ Aside0 (wc.heap[gb271]? = some (.cells #[.int .i64 t269, .int .u64 t270] 107 (0, 0))) ∧ Aside0 (wc.heap[gb276]? = some (.cells #[.int .i64 x277000_59, .int .u64 x277001_59, .int .i64 x277002_59, .int .u64 x277003_59] 109 (0, 0))) ∧ Aside0 (Below w.heap.size w wc))
          case first =>
           have H := HC72.out; clear HC72
           by_cases c80 : x13_1 = true
           ·subst c80
            have H1 : (sequiturref30_pair.j4 kj59 a3 t264 t265 t292 x14_1 t291 a0_0 l0_1 a1_0 l1_1 x267000_1 x267001_1) = some (r1, r2, r3) := by rw [if_pos rfl] at H; exact H
            clear H; have H := H1; clear H1
            have H' := zK H; clear H
            go_wp2
            go_meet
            case rel => exact ⟨_, (t292), (by first | rfl | (simp; done) | (simp [*]; done)), H', ⟨by have := HK1.out; have := HJ14.out; have := HJ29.out; have := HJ59.out; first | omega | exact Nat.le_refl _⟩, ⟨zr HO_267001⟩, ⟨zb BK261⟩, ⟨zb BK262⟩, ⟨zb BK263⟩, ⟨zb BK266⟩, ⟨zb BK271⟩, ⟨zb BK276⟩, ⟨zo HB⟩⟩
           ·replace c80 := Bool.eq_false_iff.mpr c80
            subst c80
            have H1 : (sequiturref30_pair.j4 kj59 a3 t264 t265 false x14_1 t291 a0_0 l0_1 a1_0 l1_1 x267000_1 x267001_1) = some (r1, r2, r3) := by rw [if_neg (show ¬ (false = true) by decide)] at H; exact H
            clear H; have H := H1; clear H1
            have H' := zK H; clear H
            go_wp2
            go_meet
            case rel => exact ⟨_, (false), (by first | rfl | (simp; done) | (simp [*]; done)), H', ⟨by have := HK1.out; have := HJ14.out; have := HJ29.out; have := HJ59.out; first | omega | exact Nat.le_refl _⟩, ⟨zr HO_267001⟩, ⟨zb BK261⟩, ⟨zb BK262⟩, ⟨zb BK263⟩, ⟨zb BK266⟩, ⟨zb BK271⟩, ⟨zb BK276⟩, ⟨zo HB⟩⟩
          case rest =>
           clear HC72; try clear c1; try clear p2; try clear c3
           try clear c4; try clear c5; try clear c6; try clear p6
           try clear c7; try clear c8; try clear c14; try clear c14b0
           try clear c17; try clear c17b0; try clear c33; try clear c34
           try clear c35; try clear c36; try clear c40; try clear c41
           try clear c42; try clear c43; try clear c44; try clear c59
           try clear c59b0; try clear c61; try clear c63; try clear c64
           try clear p64; try clear c65; try clear c66; try clear c67
           try clear c71; try clear c72; try clear c73; try clear c74
           try clear c75; try clear c76; try clear c77; try clear c79
           try clear c80; try clear hcz37_0; try clear hcz37_1; try clear hcz45_0
           try clear hcz45_1; try clear hcz45_2; try clear hcz45_3; try clear hcz68_0
           try clear hcz68_1; try clear hcz68_2; try clear hcz68_3; try clear hcz70_0
           try clear hcz70_1; try clear hcz70_2; try clear hcz70_3; try clear hcz78_0
           try clear hcz78_1; try clear hcz78_2; try clear hcz78_3; try clear hfz37_0
           try clear hfz37_1; try clear hfz45_0; try clear hfz45_1; try clear hfz45_2
           try clear hfz45_3; try clear hfz68_0; try clear hfz68_1; try clear hfz68_2
           try clear hfz68_3; try clear hfz70_0; try clear hfz70_1; try clear hfz70_2
           try clear hfz70_3; try clear hfz78_0; try clear hfz78_1; try clear hfz78_2
           try clear hfz78_3; try clear p2; try clear p6; try clear p64
           obtain ⟨kq, x13_71, rfl, HA, HJ71, HO_267001, BK261, BK262, BK263, BK266, BK271, BK276, HB⟩ := hcut
           cases kq with
           | zero => exact absurd HA.out (by simp [sequiturref30_pair.j4])
           | succ kj71 =>
            have H := HA.out; clear HA
            simp only [sequiturref30_pair.j4] at H
            by_cases c81 : x14_1 < 0
            ·rw [if_pos c81] at H
             have c81b0 : decide (x14_1 < 0) = true := decide_eq_true c81; clear c81
             have H' := zK H; clear H
             have hnb82 := NB266_261.out
             have hnc82 := NB261_266.out
             have hnb83 := NB266_262.out
             have hnc83 := NB262_266.out
             have hnb84 := NB266_263.out
             have hnc84 := NB263_266.out
             have hnb85 := NB266_271.out
             have hnc85 := NB271_266.out
             have hnb86 := NB266_276.out
             have hnc86 := NB276_266.out
             have hcz87_0 : wc.cell? ⟨gb266, 0, none⟩ = some (.int .i64 x267000_1) := (blk_cell BK266.out 0).trans rfl
             have hcz87_1 : wc.cell? ⟨gb266, 1, none⟩ = some (u267001) := (blk_cell BK266.out 1).trans rfl
             have hfz87_0 := blk_frozen BK266.out 0
             have hfz87_1 := blk_frozen BK266.out 1
             go_wp2
             go_roundg kj71
             case measure => have := HK1.out; have := HJ14.out; have := HJ29.out; have := HJ59.out; have := HJ71.out; omega
             case rel => exact ⟨(x13_71), (wrap64 (x14_1 + 1)), (t291), (x267001_1), (u267001), (by first | rfl | (simp; done) | (simp [*]; done)), (by first | rfl | (simp; done) | (simp [*]; done)), H', ⟨by have := HK1.out; have := HJ14.out; have := HJ29.out; have := HJ59.out; have := HJ71.out; omega⟩, ⟨by (with_reducible repeat (first | apply Kd.R_alloc | apply Kd.R_drewN | apply Kd.R_drew)); exact Kd.R_mono (Kd.R_far (p := ⟨gb266, 0, none⟩) (Kd.R_types HO_267001.out BK266.out (by decide)) (fun _ hk => hk.2) (.int .i64 t291)) (fun _ hk => trivial)⟩, ⟨zb BK261⟩, ⟨zb BK262⟩, ⟨zb BK263⟩, ⟨by refine zM ?_; refine blk_put (cs := #[.int .i64 x267000_1, u267001]) ?_ 0 _ rfl; refine zM ?_; exact BK266.out⟩, ⟨zo HB⟩⟩
            ·rw [if_neg c81] at H
             have c81b0 : decide (x14_1 < 0) = false := decide_eq_false c81; clear c81
             by_cases c88 : t291 = 0
             ·rw [if_pos c88] at H
              have c88b0 : (t291 == 0) = true := beq_iff_eq.mpr c88
              have c88b1 : (t291 != 0) = false := bne_eq_false_iff_eq.mpr c88; clear c88
              have H' := zK H; clear H
              go_wp2
              go_roundg kj71
              case measure => have := HK1.out; have := HJ14.out; have := HJ29.out; have := HJ59.out; have := HJ71.out; omega
              case rel => exact ⟨(x13_71), (wrap64 (x14_1 + 1)), (x267000_1), (x267001_1), (u267001), (by first | rfl | (simp; done) | (simp [*]; done)), (by first | rfl | (simp; done) | (simp [*]; done)), H', ⟨by have := HK1.out; have := HJ14.out; have := HJ29.out; have := HJ59.out; have := HJ71.out; omega⟩, ⟨zr HO_267001⟩, ⟨zb BK261⟩, ⟨zb BK262⟩, ⟨zb BK263⟩, ⟨zb BK266⟩, ⟨zo HB⟩⟩
             ·rw [if_neg c88] at H
              have c88b0 : (t291 == 0) = false := beq_eq_false_iff_ne.mpr c88
              have c88b1 : (t291 != 0) = true := bne_iff_ne.mpr c88
              by_cases c89 : x267001_1.length < 8796093022208
              ·rw [if_pos c89] at H
               have LMc89 := zK c89; clear c89
               obtain ⟨y293, hy293⟩ : ∃ y_ : List (S68), y_ = (x267001_1 ++ [(⟨x14_1, t291⟩ : S68)]) := ⟨_, rfl⟩
               replace H : (sequiturref30_pair.l0 kj71 a3 t264 t265 x13_71 (wrap64 (x14_1 + 1)) a0_0 l0_1 a1_0 l1_1 x267000_1 y293) = some (r1, r2, r3) := by first | (rw [hy293]; with_reducible exact H) | (have H2_ := (Option.bind_some _ _).symm.trans H; rw [hy293]; with_reducible exact H2_) | (have H2_ := (Option.bind_some _ _).symm.trans H; with_reducible exact H2_) | with_reducible exact H | (rw [hy293]; exact H) | exact H
               have Ny293 := zK hy293; clear hy293
               have H' := zK H; clear H
               have hnb90 := NB266_261.out
               have hnc90 := NB261_266.out
               have hnb91 := NB266_262.out
               have hnc91 := NB262_266.out
               have hnb92 := NB266_263.out
               have hnc92 := NB263_266.out
               have hnb93 := NB266_271.out
               have hnc93 := NB271_266.out
               have hnb94 := NB266_276.out
               have hnc94 := NB276_266.out
               have hcz95_0 : wc.cell? ⟨gb266, 0, none⟩ = some (.int .i64 x267000_1) := (blk_cell BK266.out 0).trans rfl
               have hcz95_1 : wc.cell? ⟨gb266, 1, none⟩ = some (u267001) := (blk_cell BK266.out 1).trans rfl
               have hfz95_0 := blk_frozen BK266.out 0
               have hfz95_1 := blk_frozen BK266.out 1
               go_wp2_with (first | ((with_reducible refine gate_builtin (b := .append) (xs := #[.tmp 93, .tmp 97]) rfl ?_); at_builtin; refine Kd.R_append k68 (w0 := w) w.heap.size rfl (.tmp 93) (.tmp 97) 60 68 (.agg #[(.int .i64 0), (.int .i64 0)]) 16 rfl Try.underlying60 info68 rfl (by decide) (by omega) u267001 x267001_1 (⟨x14_1, t291⟩ : S68) [.int .i64 x14_1, .int .i64 t291] (fun _ => True) (fun _ => False) rfl rfl ?aP (fun _ hk => hk.elim) ?aF ?aO ?aB ?aS ?aL ?_; (case aP => exact k68_mkM _ _ _ (⟨x14_1, t291⟩ : S68)); (case aB => exact (zo HB)); (case aF => exact (fun _ _ => trivial)); (case aO => exact (zr HO_267001)); (case aS => exact (below_size (zo HB))); (case aL => have := LMc89.out; omega); intro v294 w96 ho hb hg hat; rw [← Ny293.out] at ho; replace BK261 := zK (blk_grown (g := gb261) (o := .cells #[.int .i64 a0_0, .slice A0_1 l0_1.length c0_1] 62 (0, 0)) (zb BK261) hg (Kd.R_ne HO_267001.out BK261.out (by decide))); replace BK262 := zK (blk_grown (g := gb262) (o := .cells #[.int .i64 a1_0, .slice A1_1 l1_1.length c1_1] 62 (0, 0)) (zb BK262) hg (Kd.R_ne HO_267001.out BK262.out (by decide))); replace BK263 := zK (blk_grown (g := gb263) (o := .cells #[.int .i64 0, .slice none 0 0] 62 (0, 0)) (zb BK263) hg (Kd.R_ne HO_267001.out BK263.out (by decide))); replace BK266 := zK (blk_grown (g := gb266) (o := .cells #[.int .i64 x267000_1, u267001] 62 (0, 0)) (zb BK266) hg (Kd.R_ne HO_267001.out BK266.out (by decide))); replace BK271 := zK (blk_grown (g := gb271) (o := .cells #[.int .i64 t269, .int .u64 t270] 107 (0, 0)) (zb BK271) hg (Kd.R_ne HO_267001.out BK271.out (by decide))); replace BK276 := zK (blk_grown (g := gb276) (o := .cells #[.int .i64 x277000_59, .int .u64 x277001_59, .int .i64 x277002_59, .int .u64 x277003_59] 109 (0, 0)) (zb BK276) hg (Kd.R_ne HO_267001.out BK276.out (by decide))); replace HB := zK (hb); have HO295 := zK (ho); clear HO_267001 ho hb hg hat; obtain ⟨Ao97, co97, eo97⟩ := Kd.R_slice HO295.out; subst eo97; have hcz98_0 : w96.cell? ⟨gb266, 0, none⟩ = some (.int .i64 x267000_1) := (blk_cell BK266.out 0).trans rfl; have hcz98_1 : w96.cell? ⟨gb266, 1, none⟩ = some (u267001) := (blk_cell BK266.out 1).trans rfl; have hfz98_0 := blk_frozen BK266.out 0; have hfz98_1 := blk_frozen BK266.out 1))
               go_roundg kj71
               case measure => have := HK1.out; have := HJ14.out; have := HJ29.out; have := HJ59.out; have := HJ71.out; omega
               case rel => exact ⟨(x13_71), (wrap64 (x14_1 + 1)), (x267000_1), (y293), (.slice Ao97 y293.length co97), (by first | rfl | (simp; done) | (simp [*]; done)), (by first | rfl | (simp; done) | (simp [*]; done)), H', ⟨by have := HK1.out; have := HJ14.out; have := HJ29.out; have := HJ59.out; have := HJ71.out; omega⟩, ⟨by (with_reducible repeat (first | apply Kd.R_alloc | apply Kd.R_drewN | apply Kd.R_drew)); exact Kd.R_mono (Kd.R_far (p := ⟨gb266, 1, none⟩) (Kd.R_types HO295.out BK266.out (by decide)) (fun _ hk => hk.2) (.slice Ao97 y293.length co97)) (fun _ hk => trivial)⟩, ⟨zb BK261⟩, ⟨zb BK262⟩, ⟨zb BK263⟩, ⟨by refine zM ?_; refine blk_put (cs := #[.int .i64 x267000_1, u267001]) ?_ 1 _ rfl; refine zM ?_; exact BK266.out⟩, ⟨zo HB⟩⟩
              ·rw [if_neg c89] at H
               exact absurd H (by simp)
   ·rw [if_neg c14] at H
    have c14b0 : decide (x14_1 < 64) = false := decide_eq_false c14; clear c14
    simp only [Option.some.injEq, Prod.mk.injEq] at H
    obtain ⟨rfl, rfl, rfl⟩ := H
    have hnb99 := NB266_261.out
    have hnc99 := NB261_266.out
    have hnb100 := NB266_262.out
    have hnc100 := NB262_266.out
    have hnb101 := NB266_263.out
    have hnc101 := NB263_266.out
    have hcz102_0 : wr.cell? ⟨gb266, 0, none⟩ = some (.int .i64 x267000_1) := (blk_cell BK266.out 0).trans rfl
    have hcz102_1 : wr.cell? ⟨gb266, 1, none⟩ = some (u267001) := (blk_cell BK266.out 1).trans rfl
    have hfz102_0 := blk_frozen BK266.out 0
    have hfz102_1 := blk_frozen BK266.out 1
    have hnb103 := NB263_261.out
    have hnc103 := NB261_263.out
    have hnb104 := NB263_262.out
    have hnc104 := NB262_263.out
    have hcz105_0 : wr.cell? ⟨gb263, 0, none⟩ = some (.int .i64 0) := (blk_cell BK263.out 0).trans rfl
    have hcz105_1 : wr.cell? ⟨gb263, 1, none⟩ = some (.slice none 0 0) := (blk_cell BK263.out 1).trans rfl
    have hfz105_0 := blk_frozen BK263.out 0
    have hfz105_1 := blk_frozen BK263.out 1
    obtain ⟨Ao106, co106, eo106⟩ := Kd.R_slice HO_267001.out
    subst eo106
    go_wp2
    refine bodyPost_ret (results_ct rfl _ _ gb263 62 #[.int .i64 x267000_1, .slice Ao106 x267001_1.length co106] (0, 0) _ rfl (by refine zM ?_; refine blk_put (cs := #[.int .i64 x267000_1, .slice none 0 0]) ?_ 1 _ rfl; refine zM ?_; refine blk_put (cs := #[.int .i64 0, .slice none 0 0]) ?_ 0 _ rfl; refine zM ?_; exact BK263.out) Try.underlying62 rfl (by kernel_rfl)) rfl ?_
    exact ⟨_, by first | rfl | (simp [errW_none, errW_some] <;> rfl) | (simp [*, errW_none, errW_some] <;> rfl), by (with_reducible repeat (first | apply Kd.R_alloc | apply Kd.R_drewN | apply Kd.R_drew)); exact Kd.R_mono (Kd.R_far (p := ⟨gb263, 1, none⟩) (Kd.R_far (p := ⟨gb263, 0, none⟩) (Kd.R_types HO_267001.out BK263.out (by decide)) (fun _ hk => hk.2) (.int .i64 x267000_1)) (fun _ hk => hk.2) (.slice Ao106 x267001_1.length co106)) (fun _ hk => trivial), zo HB⟩

end Go.Proofs.Ytkfbfgkdabljiaa.PShadowCasts
