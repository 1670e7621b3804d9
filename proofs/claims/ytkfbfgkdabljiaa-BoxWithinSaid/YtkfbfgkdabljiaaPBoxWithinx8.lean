/- What the call of each function that the law reaches comes to: it answers as the plain function of the same name does, wherever that one answers; and the law itself out of its plain form. Written by a program of this session (an extended copy of the printer); no condition but what stands in each theorem. -/
import Derived.Test.YtkfbfgkdabljiaaPBoxWithinx0
import Derived.Test.YtkfbfgkdabljiaaPBoxWithinx3
import Derived.Test.YtkfbfgkdabljiaaPBoxWithinx5
import Derived.Test.YtkfbfgkdabljiaaPBoxWithinx7
namespace Go.Proofs.Ytkfbfgkdabljiaa.PBoxWithin
open Go.RowKit Go.Proofs.YtkfbfgkdabljiaaW.PrintWords Go.Proofs.YtkfbfgkdabljiaaW.PrintLast Go.Proofs.YtkfbfgkdabljiaaW.PrintMore
open Go.Proofs.YtkfbfgkdabljiaaW.PrintWords renaming blk_drewN → zN, blk_drew → zD, blk_alloc → zA, below_alloc → yA, pw_below_drewN → yN, below_drew1 → yD, below_set → yS, gate_callee → zC, gate_guard → zG
open Go.Proofs.YtkfbfgkdabljiaaW.PrintWords.Kd renaming C_alloc → cA, C_drewN → cN, C_drew → cD
open Go.Proofs.YtkfbfgkdabljiaaW.PrintWords.Aside0 renaming mk → zK
open Bool renaming true → T_, false → F_
open List renaming setIfInBounds_toArray → zt, set_cons_zero → zz, set_cons_succ → zs
attribute [local go_sem] max2_int min2_int max_two min_two max_three min_three max_four min_four   -- for this text's walks alone
set_option linter.unusedVariables false
set_option linter.unusedSimpArgs false

/-! ### box_Bounds: function 38 -/
mutual
def box_Bounds.j0 : Nat → List (S70) → Int → Bool → Option (List Int × List Int × Bool)
 | 0, _, _, _ => none
 | k + 1, x0, x1, x26 => if x26 = true then (some (([] : List Int), ([] : List Int), false)) else (if 0 ≤ x1 then (if (x1 : Int).toNat ≤ 11728124029610 then (box_Bounds.l0 k x1 (List.replicate (x1 : Int).toNat z117) x0 (x0.length : Int) 0) else (none)) else (none))
def box_Bounds.l0 : Nat → Int → List (S117) → List (S70) → Int → Int → Option (List Int × List Int × Bool)
 | 0, _, _, _, _, _ => none
 | k + 1, x1, x7, x29, x30, x31 => if x31 < x30 then (if 0 ≤ x31 then (if x31 < (x29.length : Int) then ((ineq_Tight.f k ((rd_T70 x29 x31).f0.f0) ((rd_T70 x29 x31).f0.f1) ((rd_T70 x29 x31).f1)).bind fun bt225 => ((ineq_Right.f k ((rd_T70 x29 x31).f0.f0) ((rd_T70 x29 x31).f0.f1) ((rd_T70 x29 x31).f1)).bind fun t232 => (if t232 = 0 then (if bt225.2.2.2 = 0 then (box_Bounds.j2 k x1 x7 x29 x30 x31 ((bt225.2.1.length : Int) != 1) bt225.1 bt225.2.1 bt225.2.2.1) else (box_Bounds.j2 k x1 x7 x29 x30 x31 true bt225.1 bt225.2.1 bt225.2.2.1)) else (box_Bounds.j2 k x1 x7 x29 x30 x31 true bt225.1 bt225.2.1 bt225.2.2.1)))) else (none)) else (none)) else (box_Bounds.l1 k ([] : List Int) ([] : List Int) x7 (x7.length : Int) 0)
def box_Bounds.j2 : Nat → Int → List (S117) → List (S70) → Int → Int → Bool → Int → List (S68) → Bool → Option (List Int × List Int × Bool)
 | 0, _, _, _, _, _, _, _, _, _ => none
 | k + 1, x1, x7, x29, x30, x31, x53, x232000, x232001, x232002 => if x53 = true then (box_Bounds.l0 k x1 x7 x29 x30 (wrap64 (x31 + 1))) else (if 0 < (x232001.length : Int) then (if ((rd_T68 x232001 0).f0) < 0 then (box_Bounds.j3 k x1 x7 ((rd_T68 x232001 0).f0) ((rd_T68 x232001 0).f1) x29 x30 x31 true x232000 x232001 x232002) else (if ((rd_T68 x232001 0).f0) ≥ x1 then (box_Bounds.j3 k x1 x7 ((rd_T68 x232001 0).f0) ((rd_T68 x232001 0).f1) x29 x30 x31 true x232000 x232001 x232002) else (if ((rd_T68 x232001 0).f1) = 1 then (box_Bounds.j3 k x1 x7 ((rd_T68 x232001 0).f0) ((rd_T68 x232001 0).f1) x29 x30 x31 false x232000 x232001 x232002) else (box_Bounds.j3 k x1 x7 ((rd_T68 x232001 0).f0) ((rd_T68 x232001 0).f1) x29 x30 x31 (((rd_T68 x232001 0).f1) != (-1)) x232000 x232001 x232002)))) else (none))
def box_Bounds.j3 : Nat → Int → List (S117) → Int → Int → List (S70) → Int → Int → Bool → Int → List (S68) → Bool → Option (List Int × List Int × Bool)
 | 0, _, _, _, _, _, _, _, _, _, _, _ => none
 | k + 1, x1, x7, x12, x13, x29, x30, x31, x80, x232000, x232001, x232002 => if x80 = true then (box_Bounds.l0 k x1 x7 x29 x30 (wrap64 (x31 + 1))) else ((num_Neg.f x232000).bind fun bt235 => (if x13 = 1 then (box_Bounds.j4 k x1 x7 x12 x13 bt235.2 bt235.1 x29 x30 x31 x232000 x232001 x232002) else (box_Bounds.j4 k x1 x7 x12 x13 bt235.2 x232000 x29 x30 x31 x232000 x232001 x232002)))
def box_Bounds.j4 : Nat → Int → List (S117) → Int → Int → Bool → Int → List (S70) → Int → Int → Int → List (S68) → Bool → Option (List Int × List Int × Bool)
 | 0, _, _, _, _, _, _, _, _, _, _, _, _ => none
 | k + 1, x1, x7, x12, x13, x15, x16, x29, x30, x31, x232000, x232001, x232002 => if x13 = 1 then (box_Bounds.j5 k x1 x7 x12 x13 x16 x29 x30 x31 (!x15) x232000 x232001 x232002) else (box_Bounds.j5 k x1 x7 x12 x13 x16 x29 x30 x31 false x232000 x232001 x232002)
def box_Bounds.j5 : Nat → Int → List (S117) → Int → Int → Int → List (S70) → Int → Int → Bool → Int → List (S68) → Bool → Option (List Int × List Int × Bool)
 | 0, _, _, _, _, _, _, _, _, _, _, _, _ => none
 | k + 1, x1, x7, x12, x13, x16, x29, x30, x31, x99, x232000, x232001, x232002 => if x99 = true then (box_Bounds.l0 k x1 x7 x29 x30 (wrap64 (x31 + 1))) else (if x232002 = true then (box_Bounds.j6 k x1 x7 x12 x13 x16 x29 x30 x31 true x232000 x232001 x232002) else (box_Bounds.j6 k x1 x7 x12 x13 x16 x29 x30 x31 (x13 == 1) x232000 x232001 x232002))
def box_Bounds.j6 : Nat → Int → List (S117) → Int → Int → Int → List (S70) → Int → Int → Bool → Int → List (S68) → Bool → Option (List Int × List Int × Bool)
 | 0, _, _, _, _, _, _, _, _, _, _, _, _ => none
 | k + 1, x1, x7, x12, x13, x16, x29, x30, x31, x105, x232000, x232001, x232002 => if x105 = true then (if 0 ≤ x12 then (if x12 < (x7.length : Int) then (if ((rd_T117 x7 x12).f3 = true) then (if x16 < ((rd_T117 x7 x12).f1) then ((some (x7.set (x12 : Int).toNat (⟨(rd_T117 x7 x12).f0, x16, (rd_T117 x7 x12).f2, (rd_T117 x7 x12).f3⟩ : S117) : List (S117))).bind fun y238 => (box_Bounds.j7 k x1 (y238.set (x12 : Int).toNat (⟨(rd_T117 y238 x12).f0, (rd_T117 y238 x12).f1, (rd_T117 y238 x12).f2, true⟩ : S117)) x12 x13 x16 x29 x30 x31 x232000 x232001 x232002)) else (box_Bounds.j7 k x1 x7 x12 x13 x16 x29 x30 x31 x232000 x232001 x232002)) else ((some (x7.set (x12 : Int).toNat (⟨(rd_T117 x7 x12).f0, x16, (rd_T117 x7 x12).f2, (rd_T117 x7 x12).f3⟩ : S117) : List (S117))).bind fun y240 => (box_Bounds.j7 k x1 (y240.set (x12 : Int).toNat (⟨(rd_T117 y240 x12).f0, (rd_T117 y240 x12).f1, (rd_T117 y240 x12).f2, true⟩ : S117)) x12 x13 x16 x29 x30 x31 x232000 x232001 x232002))) else (none)) else (none)) else (box_Bounds.j7 k x1 x7 x12 x13 x16 x29 x30 x31 x232000 x232001 x232002)
def box_Bounds.j7 : Nat → Int → List (S117) → Int → Int → Int → List (S70) → Int → Int → Int → List (S68) → Bool → Option (List Int × List Int × Bool)
 | 0, _, _, _, _, _, _, _, _, _, _, _ => none
 | k + 1, x1, x7, x12, x13, x16, x29, x30, x31, x232000, x232001, x232002 => if x232002 = true then (box_Bounds.j8 k x1 x7 x12 x16 x29 x30 x31 true) else (box_Bounds.j8 k x1 x7 x12 x16 x29 x30 x31 (x13 == (-1)))
def box_Bounds.j8 : Nat → Int → List (S117) → Int → Int → List (S70) → Int → Int → Bool → Option (List Int × List Int × Bool)
 | 0, _, _, _, _, _, _, _, _ => none
 | k + 1, x1, x7, x12, x16, x29, x30, x31, x116 => if x116 = true then (if 0 ≤ x12 then (if x12 < (x7.length : Int) then (if ((rd_T117 x7 x12).f2 = true) then (if x16 > ((rd_T117 x7 x12).f0) then ((some (x7.set (x12 : Int).toNat (⟨x16, (rd_T117 x7 x12).f1, (rd_T117 x7 x12).f2, (rd_T117 x7 x12).f3⟩ : S117) : List (S117))).bind fun y243 => (box_Bounds.l0 k x1 (y243.set (x12 : Int).toNat (⟨(rd_T117 y243 x12).f0, (rd_T117 y243 x12).f1, true, (rd_T117 y243 x12).f3⟩ : S117)) x29 x30 (wrap64 (x31 + 1)))) else (box_Bounds.l0 k x1 x7 x29 x30 (wrap64 (x31 + 1)))) else ((some (x7.set (x12 : Int).toNat (⟨x16, (rd_T117 x7 x12).f1, (rd_T117 x7 x12).f2, (rd_T117 x7 x12).f3⟩ : S117) : List (S117))).bind fun y245 => (box_Bounds.l0 k x1 (y245.set (x12 : Int).toNat (⟨(rd_T117 y245 x12).f0, (rd_T117 y245 x12).f1, true, (rd_T117 y245 x12).f3⟩ : S117)) x29 x30 (wrap64 (x31 + 1))))) else (none)) else (none)) else (box_Bounds.l0 k x1 x7 x29 x30 (wrap64 (x31 + 1)))
def box_Bounds.l1 : Nat → List Int → List Int → List (S117) → Int → Int → Option (List Int × List Int × Bool)
 | 0, _, _, _, _, _ => none
 | k + 1, x17, x18, x123, x124, x125 => if x125 < x124 then (if 0 ≤ x125 then (if x125 < (x123.length : Int) then (if ((rd_T117 x123 x125).f2 = true) then (if ((rd_T117 x123 x125).f3 = true) then ((some (([(rd_T117 x123 x125).f0] : List Int) : List Int)).bind fun y249 => (if x17.length + y249.length < 17592186044416 then ((some (([(rd_T117 x123 x125).f1] : List Int) : List Int)).bind fun y255 => (if x18.length + y255.length < 17592186044416 then (box_Bounds.l1 k (x17 ++ y249) (x18 ++ y255) x123 x124 (wrap64 (x125 + 1))) else (none))) else (none))) else (some (([] : List Int), ([] : List Int), false))) else (some (([] : List Int), ([] : List Int), false))) else (none)) else (none)) else (some (x17, x18, true))
end
def box_Bounds.f (k : Nat) (l0 : List (S70)) (a1 : Int) : Option (List Int × List Int × Bool) := if a1 < 0 then (box_Bounds.j0 k l0 a1 true) else (box_Bounds.j0 k l0 a1 (decide (a1 > 64)))
theorem box_Bounds.mono_l : ∀ k, (∀ y0 y1 y2, LeO (box_Bounds.j0 k y0 y1 y2) (box_Bounds.j0 (k + 1) y0 y1 y2)) ∧ (∀ y0 y1 y2 y3 y4, LeO (box_Bounds.l0 k y0 y1 y2 y3 y4) (box_Bounds.l0 (k + 1) y0 y1 y2 y3 y4)) ∧ (∀ y0 y1 y2 y3 y4 y5 y6 y7 y8, LeO (box_Bounds.j2 k y0 y1 y2 y3 y4 y5 y6 y7 y8) (box_Bounds.j2 (k + 1) y0 y1 y2 y3 y4 y5 y6 y7 y8)) ∧ (∀ y0 y1 y2 y3 y4 y5 y6 y7 y8 y9 y10, LeO (box_Bounds.j3 k y0 y1 y2 y3 y4 y5 y6 y7 y8 y9 y10) (box_Bounds.j3 (k + 1) y0 y1 y2 y3 y4 y5 y6 y7 y8 y9 y10)) ∧ (∀ y0 y1 y2 y3 y4 y5 y6 y7 y8 y9 y10 y11, LeO (box_Bounds.j4 k y0 y1 y2 y3 y4 y5 y6 y7 y8 y9 y10 y11) (box_Bounds.j4 (k + 1) y0 y1 y2 y3 y4 y5 y6 y7 y8 y9 y10 y11)) ∧ (∀ y0 y1 y2 y3 y4 y5 y6 y7 y8 y9 y10 y11, LeO (box_Bounds.j5 k y0 y1 y2 y3 y4 y5 y6 y7 y8 y9 y10 y11) (box_Bounds.j5 (k + 1) y0 y1 y2 y3 y4 y5 y6 y7 y8 y9 y10 y11)) ∧ (∀ y0 y1 y2 y3 y4 y5 y6 y7 y8 y9 y10 y11, LeO (box_Bounds.j6 k y0 y1 y2 y3 y4 y5 y6 y7 y8 y9 y10 y11) (box_Bounds.j6 (k + 1) y0 y1 y2 y3 y4 y5 y6 y7 y8 y9 y10 y11)) ∧ (∀ y0 y1 y2 y3 y4 y5 y6 y7 y8 y9 y10, LeO (box_Bounds.j7 k y0 y1 y2 y3 y4 y5 y6 y7 y8 y9 y10) (box_Bounds.j7 (k + 1) y0 y1 y2 y3 y4 y5 y6 y7 y8 y9 y10)) ∧ (∀ y0 y1 y2 y3 y4 y5 y6 y7, LeO (box_Bounds.j8 k y0 y1 y2 y3 y4 y5 y6 y7) (box_Bounds.j8 (k + 1) y0 y1 y2 y3 y4 y5 y6 y7)) ∧ (∀ y0 y1 y2 y3 y4, LeO (box_Bounds.l1 k y0 y1 y2 y3 y4) (box_Bounds.l1 (k + 1) y0 y1 y2 y3 y4))
 | 0 => ⟨fun _ _ _ r h => by simp [box_Bounds.j0] at h, fun _ _ _ _ _ r h => by simp [box_Bounds.l0] at h, fun _ _ _ _ _ _ _ _ _ r h => by simp [box_Bounds.j2] at h, fun _ _ _ _ _ _ _ _ _ _ _ r h => by simp [box_Bounds.j3] at h, fun _ _ _ _ _ _ _ _ _ _ _ _ r h => by simp [box_Bounds.j4] at h, fun _ _ _ _ _ _ _ _ _ _ _ _ r h => by simp [box_Bounds.j5] at h, fun _ _ _ _ _ _ _ _ _ _ _ _ r h => by simp [box_Bounds.j6] at h, fun _ _ _ _ _ _ _ _ _ _ _ r h => by simp [box_Bounds.j7] at h, fun _ _ _ _ _ _ _ _ r h => by simp [box_Bounds.j8] at h, fun _ _ _ _ _ r h => by simp [box_Bounds.l1] at h⟩
 | k + 1 => by
  obtain ⟨ih0, ih1, ih2, ih3, ih4, ih5, ih6, ih7, ih8, ih9⟩ := box_Bounds.mono_l k
  refine ⟨?_, ?_, ?_, ?_, ?_, ?_, ?_, ?_, ?_, ?_⟩
  ·intro y0 y1 y2
   unfold box_Bounds.j0
   repeat' first
   | (with_reducible exact ih0 _ _ _)
   | (with_reducible exact ih1 _ _ _ _ _)
   | (with_reducible exact ih2 _ _ _ _ _ _ _ _ _)
   | (with_reducible exact ih3 _ _ _ _ _ _ _ _ _ _ _)
   | (with_reducible exact ih4 _ _ _ _ _ _ _ _ _ _ _ _)
   | (with_reducible exact ih5 _ _ _ _ _ _ _ _ _ _ _ _)
   | (with_reducible exact ih6 _ _ _ _ _ _ _ _ _ _ _ _)
   | (with_reducible exact ih7 _ _ _ _ _ _ _ _ _ _ _)
   | (with_reducible exact ih8 _ _ _ _ _ _ _ _)
   | (with_reducible exact ih9 _ _ _ _ _)
   | (with_reducible exact ineq_Right.mono _ _ _ _)
   | (with_reducible exact ineq_Tight.mono _ _ _ _)
   | (with_reducible exact LeO.refl _)
   | (with_reducible exact LeO.none _)
   | (with_reducible refine LeO.ite ?_ ?_)
   | (with_reducible refine LeO.bind ?_ (fun _ => ?_))
   | exact ih0 _ _ _
   | exact ih1 _ _ _ _ _
   | exact ih2 _ _ _ _ _ _ _ _ _
   | exact ih3 _ _ _ _ _ _ _ _ _ _ _
   | exact ih4 _ _ _ _ _ _ _ _ _ _ _ _
   | exact ih5 _ _ _ _ _ _ _ _ _ _ _ _
   | exact ih6 _ _ _ _ _ _ _ _ _ _ _ _
   | exact ih7 _ _ _ _ _ _ _ _ _ _ _
   | exact ih8 _ _ _ _ _ _ _ _
   | exact ih9 _ _ _ _ _
   | exact ineq_Right.mono _ _ _ _
   | exact ineq_Tight.mono _ _ _ _
   | exact LeO.none _
   | refine LeO.ite ?_ ?_
   | refine LeO.bind ?_ (fun _ => ?_)
  ·intro y0 y1 y2 y3 y4
   unfold box_Bounds.l0
   repeat' first
   | (with_reducible exact ih0 _ _ _)
   | (with_reducible exact ih1 _ _ _ _ _)
   | (with_reducible exact ih2 _ _ _ _ _ _ _ _ _)
   | (with_reducible exact ih3 _ _ _ _ _ _ _ _ _ _ _)
   | (with_reducible exact ih4 _ _ _ _ _ _ _ _ _ _ _ _)
   | (with_reducible exact ih5 _ _ _ _ _ _ _ _ _ _ _ _)
   | (with_reducible exact ih6 _ _ _ _ _ _ _ _ _ _ _ _)
   | (with_reducible exact ih7 _ _ _ _ _ _ _ _ _ _ _)
   | (with_reducible exact ih8 _ _ _ _ _ _ _ _)
   | (with_reducible exact ih9 _ _ _ _ _)
   | (with_reducible exact ineq_Right.mono _ _ _ _)
   | (with_reducible exact ineq_Tight.mono _ _ _ _)
   | (with_reducible exact LeO.refl _)
   | (with_reducible exact LeO.none _)
   | (with_reducible refine LeO.ite ?_ ?_)
   | (with_reducible refine LeO.bind ?_ (fun _ => ?_))
   | exact ih0 _ _ _
   | exact ih1 _ _ _ _ _
   | exact ih2 _ _ _ _ _ _ _ _ _
   | exact ih3 _ _ _ _ _ _ _ _ _ _ _
   | exact ih4 _ _ _ _ _ _ _ _ _ _ _ _
   | exact ih5 _ _ _ _ _ _ _ _ _ _ _ _
   | exact ih6 _ _ _ _ _ _ _ _ _ _ _ _
   | exact ih7 _ _ _ _ _ _ _ _ _ _ _
   | exact ih8 _ _ _ _ _ _ _ _
   | exact ih9 _ _ _ _ _
   | exact ineq_Right.mono _ _ _ _
   | exact ineq_Tight.mono _ _ _ _
   | exact LeO.none _
   | refine LeO.ite ?_ ?_
   | refine LeO.bind ?_ (fun _ => ?_)
  ·intro y0 y1 y2 y3 y4 y5 y6 y7 y8
   unfold box_Bounds.j2
   repeat' first
   | (with_reducible exact ih0 _ _ _)
   | (with_reducible exact ih1 _ _ _ _ _)
   | (with_reducible exact ih2 _ _ _ _ _ _ _ _ _)
   | (with_reducible exact ih3 _ _ _ _ _ _ _ _ _ _ _)
   | (with_reducible exact ih4 _ _ _ _ _ _ _ _ _ _ _ _)
   | (with_reducible exact ih5 _ _ _ _ _ _ _ _ _ _ _ _)
   | (with_reducible exact ih6 _ _ _ _ _ _ _ _ _ _ _ _)
   | (with_reducible exact ih7 _ _ _ _ _ _ _ _ _ _ _)
   | (with_reducible exact ih8 _ _ _ _ _ _ _ _)
   | (with_reducible exact ih9 _ _ _ _ _)
   | (with_reducible exact ineq_Right.mono _ _ _ _)
   | (with_reducible exact ineq_Tight.mono _ _ _ _)
   | (with_reducible exact LeO.refl _)
   | (with_reducible exact LeO.none _)
   | (with_reducible refine LeO.ite ?_ ?_)
   | (with_reducible refine LeO.bind ?_ (fun _ => ?_))
   | exact ih0 _ _ _
   | exact ih1 _ _ _ _ _
   | exact ih2 _ _ _ _ _ _ _ _ _
   | exact ih3 _ _ _ _ _ _ _ _ _ _ _
   | exact ih4 _ _ _ _ _ _ _ _ _ _ _ _
   | exact ih5 _ _ _ _ _ _ _ _ _ _ _ _
   | exact ih6 _ _ _ _ _ _ _ _ _ _ _ _
   | exact ih7 _ _ _ _ _ _ _ _ _ _ _
   | exact ih8 _ _ _ _ _ _ _ _
   | exact ih9 _ _ _ _ _
   | exact ineq_Right.mono _ _ _ _
   | exact ineq_Tight.mono _ _ _ _
   | exact LeO.none _
   | refine LeO.ite ?_ ?_
   | refine LeO.bind ?_ (fun _ => ?_)
  ·intro y0 y1 y2 y3 y4 y5 y6 y7 y8 y9 y10
   unfold box_Bounds.j3
   repeat' first
   | (with_reducible exact ih0 _ _ _)
   | (with_reducible exact ih1 _ _ _ _ _)
   | (with_reducible exact ih2 _ _ _ _ _ _ _ _ _)
   | (with_reducible exact ih3 _ _ _ _ _ _ _ _ _ _ _)
   | (with_reducible exact ih4 _ _ _ _ _ _ _ _ _ _ _ _)
   | (with_reducible exact ih5 _ _ _ _ _ _ _ _ _ _ _ _)
   | (with_reducible exact ih6 _ _ _ _ _ _ _ _ _ _ _ _)
   | (with_reducible exact ih7 _ _ _ _ _ _ _ _ _ _ _)
   | (with_reducible exact ih8 _ _ _ _ _ _ _ _)
   | (with_reducible exact ih9 _ _ _ _ _)
   | (with_reducible exact ineq_Right.mono _ _ _ _)
   | (with_reducible exact ineq_Tight.mono _ _ _ _)
   | (with_reducible exact LeO.refl _)
   | (with_reducible exact LeO.none _)
   | (with_reducible refine LeO.ite ?_ ?_)
   | (with_reducible refine LeO.bind ?_ (fun _ => ?_))
   | exact ih0 _ _ _
   | exact ih1 _ _ _ _ _
   | exact ih2 _ _ _ _ _ _ _ _ _
   | exact ih3 _ _ _ _ _ _ _ _ _ _ _
   | exact ih4 _ _ _ _ _ _ _ _ _ _ _ _
   | exact ih5 _ _ _ _ _ _ _ _ _ _ _ _
   | exact ih6 _ _ _ _ _ _ _ _ _ _ _ _
   | exact ih7 _ _ _ _ _ _ _ _ _ _ _
   | exact ih8 _ _ _ _ _ _ _ _
   | exact ih9 _ _ _ _ _
   | exact ineq_Right.mono _ _ _ _
   | exact ineq_Tight.mono _ _ _ _
   | exact LeO.none _
   | refine LeO.ite ?_ ?_
   | refine LeO.bind ?_ (fun _ => ?_)
  ·intro y0 y1 y2 y3 y4 y5 y6 y7 y8 y9 y10 y11
   unfold box_Bounds.j4
   repeat' first
   | (with_reducible exact ih0 _ _ _)
   | (with_reducible exact ih1 _ _ _ _ _)
   | (with_reducible exact ih2 _ _ _ _ _ _ _ _ _)
   | (with_reducible exact ih3 _ _ _ _ _ _ _ _ _ _ _)
   | (with_reducible exact ih4 _ _ _ _ _ _ _ _ _ _ _ _)
   | (with_reducible exact ih5 _ _ _ _ _ _ _ _ _ _ _ _)
   | (with_reducible exact ih6 _ _ _ _ _ _ _ _ _ _ _ _)
   | (with_reducible exact ih7 _ _ _ _ _ _ _ _ _ _ _)
   | (with_reducible exact ih8 _ _ _ _ _ _ _ _)
   | (with_reducible exact ih9 _ _ _ _ _)
   | (with_reducible exact ineq_Right.mono _ _ _ _)
   | (with_reducible exact ineq_Tight.mono _ _ _ _)
   | (with_reducible exact LeO.refl _)
   | (with_reducible exact LeO.none _)
   | (with_reducible refine LeO.ite ?_ ?_)
   | (with_reducible refine LeO.bind ?_ (fun _ => ?_))
   | exact ih0 _ _ _
   | exact ih1 _ _ _ _ _
   | exact ih2 _ _ _ _ _ _ _ _ _
   | exact ih3 _ _ _ _ _ _ _ _ _ _ _
   | exact ih4 _ _ _ _ _ _ _ _ _ _ _ _
   | exact ih5 _ _ _ _ _ _ _ _ _ _ _ _
   | exact ih6 _ _ _ _ _ _ _ _ _ _ _ _
   | exact ih7 _ _ _ _ _ _ _ _ _ _ _
   | exact ih8 _ _ _ _ _ _ _ _
   | exact ih9 _ _ _ _ _
   | exact ineq_Right.mono _ _ _ _
   | exact ineq_Tight.mono _ _ _ _
   | exact LeO.none _
   | refine LeO.ite ?_ ?_
   | refine LeO.bind ?_ (fun _ => ?_)
  ·intro y0 y1 y2 y3 y4 y5 y6 y7 y8 y9 y10 y11
   unfold box_Bounds.j5
   repeat' first
   | (with_reducible exact ih0 _ _ _)
   | (with_reducible exact ih1 _ _ _ _ _)
   | (with_reducible exact ih2 _ _ _ _ _ _ _ _ _)
   | (with_reducible exact ih3 _ _ _ _ _ _ _ _ _ _ _)
   | (with_reducible exact ih4 _ _ _ _ _ _ _ _ _ _ _ _)
   | (with_reducible exact ih5 _ _ _ _ _ _ _ _ _ _ _ _)
   | (with_reducible exact ih6 _ _ _ _ _ _ _ _ _ _ _ _)
   | (with_reducible exact ih7 _ _ _ _ _ _ _ _ _ _ _)
   | (with_reducible exact ih8 _ _ _ _ _ _ _ _)
   | (with_reducible exact ih9 _ _ _ _ _)
   | (with_reducible exact ineq_Right.mono _ _ _ _)
   | (with_reducible exact ineq_Tight.mono _ _ _ _)
   | (with_reducible exact LeO.refl _)
   | (with_reducible exact LeO.none _)
   | (with_reducible refine LeO.ite ?_ ?_)
   | (with_reducible refine LeO.bind ?_ (fun _ => ?_))
   | exact ih0 _ _ _
   | exact ih1 _ _ _ _ _
   | exact ih2 _ _ _ _ _ _ _ _ _
   | exact ih3 _ _ _ _ _ _ _ _ _ _ _
   | exact ih4 _ _ _ _ _ _ _ _ _ _ _ _
   | exact ih5 _ _ _ _ _ _ _ _ _ _ _ _
   | exact ih6 _ _ _ _ _ _ _ _ _ _ _ _
   | exact ih7 _ _ _ _ _ _ _ _ _ _ _
   | exact ih8 _ _ _ _ _ _ _ _
   | exact ih9 _ _ _ _ _
   | exact ineq_Right.mono _ _ _ _
   | exact ineq_Tight.mono _ _ _ _
   | exact LeO.none _
   | refine LeO.ite ?_ ?_
   | refine LeO.bind ?_ (fun _ => ?_)
  ·intro y0 y1 y2 y3 y4 y5 y6 y7 y8 y9 y10 y11
   unfold box_Bounds.j6
   repeat' first
   | (with_reducible exact ih0 _ _ _)
   | (with_reducible exact ih1 _ _ _ _ _)
   | (with_reducible exact ih2 _ _ _ _ _ _ _ _ _)
   | (with_reducible exact ih3 _ _ _ _ _ _ _ _ _ _ _)
   | (with_reducible exact ih4 _ _ _ _ _ _ _ _ _ _ _ _)
   | (with_reducible exact ih5 _ _ _ _ _ _ _ _ _ _ _ _)
   | (with_reducible exact ih6 _ _ _ _ _ _ _ _ _ _ _ _)
   | (with_reducible exact ih7 _ _ _ _ _ _ _ _ _ _ _)
   | (with_reducible exact ih8 _ _ _ _ _ _ _ _)
   | (with_reducible exact ih9 _ _ _ _ _)
   | (with_reducible exact ineq_Right.mono _ _ _ _)
   | (with_reducible exact ineq_Tight.mono _ _ _ _)
   | (with_reducible exact LeO.refl _)
   | (with_reducible exact LeO.none _)
   | (with_reducible refine LeO.ite ?_ ?_)
   | (with_reducible refine LeO.bind ?_ (fun _ => ?_))
   | exact ih0 _ _ _
   | exact ih1 _ _ _ _ _
   | exact ih2 _ _ _ _ _ _ _ _ _
   | exact ih3 _ _ _ _ _ _ _ _ _ _ _
   | exact ih4 _ _ _ _ _ _ _ _ _ _ _ _
   | exact ih5 _ _ _ _ _ _ _ _ _ _ _ _
   | exact ih6 _ _ _ _ _ _ _ _ _ _ _ _
   | exact ih7 _ _ _ _ _ _ _ _ _ _ _
   | exact ih8 _ _ _ _ _ _ _ _
   | exact ih9 _ _ _ _ _
   | exact ineq_Right.mono _ _ _ _
   | exact ineq_Tight.mono _ _ _ _
   | exact LeO.none _
   | refine LeO.ite ?_ ?_
   | refine LeO.bind ?_ (fun _ => ?_)
  ·intro y0 y1 y2 y3 y4 y5 y6 y7 y8 y9 y10
   unfold box_Bounds.j7
   repeat' first
   | (with_reducible exact ih0 _ _ _)
   | (with_reducible exact ih1 _ _ _ _ _)
   | (with_reducible exact ih2 _ _ _ _ _ _ _ _ _)
   | (with_reducible exact ih3 _ _ _ _ _ _ _ _ _ _ _)
   | (with_reducible exact ih4 _ _ _ _ _ _ _ _ _ _ _ _)
   | (with_reducible exact ih5 _ _ _ _ _ _ _ _ _ _ _ _)
   | (with_reducible exact ih6 _ _ _ _ _ _ _ _ _ _ _ _)
   | (with_reducible exact ih7 _ _ _ _ _ _ _ _ _ _ _)
   | (with_reducible exact ih8 _ _ _ _ _ _ _ _)
   | (with_reducible exact ih9 _ _ _ _ _)
   | (with_reducible exact ineq_Right.mono _ _ _ _)
   | (with_reducible exact ineq_Tight.mono _ _ _ _)
   | (with_reducible exact LeO.refl _)
   | (with_reducible exact LeO.none _)
   | (with_reducible refine LeO.ite ?_ ?_)
   | (with_reducible refine LeO.bind ?_ (fun _ => ?_))
   | exact ih0 _ _ _
   | exact ih1 _ _ _ _ _
   | exact ih2 _ _ _ _ _ _ _ _ _
   | exact ih3 _ _ _ _ _ _ _ _ _ _ _
   | exact ih4 _ _ _ _ _ _ _ _ _ _ _ _
   | exact ih5 _ _ _ _ _ _ _ _ _ _ _ _
   | exact ih6 _ _ _ _ _ _ _ _ _ _ _ _
   | exact ih7 _ _ _ _ _ _ _ _ _ _ _
   | exact ih8 _ _ _ _ _ _ _ _
   | exact ih9 _ _ _ _ _
   | exact ineq_Right.mono _ _ _ _
   | exact ineq_Tight.mono _ _ _ _
   | exact LeO.none _
   | refine LeO.ite ?_ ?_
   | refine LeO.bind ?_ (fun _ => ?_)
  ·intro y0 y1 y2 y3 y4 y5 y6 y7
   unfold box_Bounds.j8
   repeat' first
   | (with_reducible exact ih0 _ _ _)
   | (with_reducible exact ih1 _ _ _ _ _)
   | (with_reducible exact ih2 _ _ _ _ _ _ _ _ _)
   | (with_reducible exact ih3 _ _ _ _ _ _ _ _ _ _ _)
   | (with_reducible exact ih4 _ _ _ _ _ _ _ _ _ _ _ _)
   | (with_reducible exact ih5 _ _ _ _ _ _ _ _ _ _ _ _)
   | (with_reducible exact ih6 _ _ _ _ _ _ _ _ _ _ _ _)
   | (with_reducible exact ih7 _ _ _ _ _ _ _ _ _ _ _)
   | (with_reducible exact ih8 _ _ _ _ _ _ _ _)
   | (with_reducible exact ih9 _ _ _ _ _)
   | (with_reducible exact ineq_Right.mono _ _ _ _)
   | (with_reducible exact ineq_Tight.mono _ _ _ _)
   | (with_reducible exact LeO.refl _)
   | (with_reducible exact LeO.none _)
   | (with_reducible refine LeO.ite ?_ ?_)
   | (with_reducible refine LeO.bind ?_ (fun _ => ?_))
   | exact ih0 _ _ _
   | exact ih1 _ _ _ _ _
   | exact ih2 _ _ _ _ _ _ _ _ _
   | exact ih3 _ _ _ _ _ _ _ _ _ _ _
   | exact ih4 _ _ _ _ _ _ _ _ _ _ _ _
   | exact ih5 _ _ _ _ _ _ _ _ _ _ _ _
   | exact ih6 _ _ _ _ _ _ _ _ _ _ _ _
   | exact ih7 _ _ _ _ _ _ _ _ _ _ _
   | exact ih8 _ _ _ _ _ _ _ _
   | exact ih9 _ _ _ _ _
   | exact ineq_Right.mono _ _ _ _
   | exact ineq_Tight.mono _ _ _ _
   | exact LeO.none _
   | refine LeO.ite ?_ ?_
   | refine LeO.bind ?_ (fun _ => ?_)
  ·intro y0 y1 y2 y3 y4
   unfold box_Bounds.l1
   repeat' first
   | (with_reducible exact ih0 _ _ _)
   | (with_reducible exact ih1 _ _ _ _ _)
   | (with_reducible exact ih2 _ _ _ _ _ _ _ _ _)
   | (with_reducible exact ih3 _ _ _ _ _ _ _ _ _ _ _)
   | (with_reducible exact ih4 _ _ _ _ _ _ _ _ _ _ _ _)
   | (with_reducible exact ih5 _ _ _ _ _ _ _ _ _ _ _ _)
   | (with_reducible exact ih6 _ _ _ _ _ _ _ _ _ _ _ _)
   | (with_reducible exact ih7 _ _ _ _ _ _ _ _ _ _ _)
   | (with_reducible exact ih8 _ _ _ _ _ _ _ _)
   | (with_reducible exact ih9 _ _ _ _ _)
   | (with_reducible exact ineq_Right.mono _ _ _ _)
   | (with_reducible exact ineq_Tight.mono _ _ _ _)
   | (with_reducible exact LeO.refl _)
   | (with_reducible exact LeO.none _)
   | (with_reducible refine LeO.ite ?_ ?_)
   | (with_reducible refine LeO.bind ?_ (fun _ => ?_))
   | exact ih0 _ _ _
   | exact ih1 _ _ _ _ _
   | exact ih2 _ _ _ _ _ _ _ _ _
   | exact ih3 _ _ _ _ _ _ _ _ _ _ _
   | exact ih4 _ _ _ _ _ _ _ _ _ _ _ _
   | exact ih5 _ _ _ _ _ _ _ _ _ _ _ _
   | exact ih6 _ _ _ _ _ _ _ _ _ _ _ _
   | exact ih7 _ _ _ _ _ _ _ _ _ _ _
   | exact ih8 _ _ _ _ _ _ _ _
   | exact ih9 _ _ _ _ _
   | exact ineq_Right.mono _ _ _ _
   | exact ineq_Tight.mono _ _ _ _
   | exact LeO.none _
   | refine LeO.ite ?_ ?_
   | refine LeO.bind ?_ (fun _ => ?_)
theorem box_Bounds.mono : ∀ a0 a1 k, LeO (box_Bounds.f k a0 a1) (box_Bounds.f (k + 1) a0 a1) := by
 intro a0 a1 k
 obtain ⟨ih0, ih1, ih2, ih3, ih4, ih5, ih6, ih7, ih8, ih9⟩ := box_Bounds.mono_l k
 unfold box_Bounds.f
 repeat' first
   | (with_reducible exact ih0 _ _ _)
   | (with_reducible exact ih1 _ _ _ _ _)
   | (with_reducible exact ih2 _ _ _ _ _ _ _ _ _)
   | (with_reducible exact ih3 _ _ _ _ _ _ _ _ _ _ _)
   | (with_reducible exact ih4 _ _ _ _ _ _ _ _ _ _ _ _)
   | (with_reducible exact ih5 _ _ _ _ _ _ _ _ _ _ _ _)
   | (with_reducible exact ih6 _ _ _ _ _ _ _ _ _ _ _ _)
   | (with_reducible exact ih7 _ _ _ _ _ _ _ _ _ _ _)
   | (with_reducible exact ih8 _ _ _ _ _ _ _ _)
   | (with_reducible exact ih9 _ _ _ _ _)
   | (with_reducible exact ineq_Right.mono _ _ _ _)
   | (with_reducible exact ineq_Tight.mono _ _ _ _)
   | (with_reducible exact LeO.refl _)
   | (with_reducible exact LeO.none _)
   | (with_reducible refine LeO.ite ?_ ?_)
   | (with_reducible refine LeO.bind ?_ (fun _ => ?_))
   | exact ih0 _ _ _
   | exact ih1 _ _ _ _ _
   | exact ih2 _ _ _ _ _ _ _ _ _
   | exact ih3 _ _ _ _ _ _ _ _ _ _ _
   | exact ih4 _ _ _ _ _ _ _ _ _ _ _ _
   | exact ih5 _ _ _ _ _ _ _ _ _ _ _ _
   | exact ih6 _ _ _ _ _ _ _ _ _ _ _ _
   | exact ih7 _ _ _ _ _ _ _ _ _ _ _
   | exact ih8 _ _ _ _ _ _ _ _
   | exact ih9 _ _ _ _ _
   | exact ineq_Right.mono _ _ _ _
   | exact ineq_Tight.mono _ _ _ _
   | exact LeO.none _
   | refine LeO.ite ?_ ?_
   | refine LeO.bind ?_ (fun _ => ?_)
def box_Bounds.T9 : Bool × List (List Nat × List Nat) := (true, [([], []), ([0], [0]), ([1], [1]), ([2], [2]), ([3], [3]), ([4], [4]), ([], []), ([6], [6]), ([7], [7]), ([8], [8]), ([9], [9]), ([10], [10]), ([5, 0, 1, 2, 3, 4, 5], [5]), ([11, 12, 0, 1, 2, 3, 4, 5, 6, 7, 8, 9, 10, 11, 12], [11])])
def box_Bounds.B9 : List Nat := [0, 1, 3, 7, 15, 31, 0, 64, 192, 448, 960, 1984, 63, 8191]
theorem box_Bounds.tab9 : rtab .any (opsOf Try.f38 9) = box_Bounds.T9 := by kernel_rfl
theorem box_Bounds.bits9 : waitsOk box_Bounds.T9.2 box_Bounds.B9 = true := by kernel_rfl
def box_Bounds.T27 : Bool × List (List Nat × List Nat) := (true, [([], []), ([], []), ([1], [1]), ([2], [2]), ([0, 3], [0, 3]), ([], []), ([], []), ([6], [6]), ([7], [7]), ([5, 8, 4], [5, 8]), ([4, 9, 0, 1, 2, 3, 4], [0, 4]), ([9, 10, 0, 1, 2, 3, 4, 5, 6, 7, 8, 9, 10], [5, 9])])
def box_Bounds.B27 : List Nat := [0, 0, 2, 6, 15, 0, 0, 64, 192, 511, 1023, 2047]
theorem box_Bounds.tab27 : rtab .any (opsOf Try.f38 27) = box_Bounds.T27 := by kernel_rfl
theorem box_Bounds.bits27 : waitsOk box_Bounds.T27.2 box_Bounds.B27 = true := by kernel_rfl
set_option maxHeartbeats 8000000 in
set_option maxRecDepth 100000 in
theorem box_Bounds.calls (k : Nat) (A0 : Option Addr) (c0 : Nat) (l0 : List (S70)) (a1 : Int) (r1 : List Int) (r2 : List Int) (r3 : Bool) (w : World) (hr0 : Kd.C k70 w A0 l0.length l0) (hc0 : l0.length ≤ c0) (h : box_Bounds.f k l0 a1 = some (r1, r2, r3)) :
  Calls Try.prog 38 #[.slice A0 l0.length c0, .int .i64 a1] w fun e w' => ∃ v0_ v1_ : Value, e = .returned (.tuple #[v0_, v1_, .bool r3]) ∧ Kd.R (Kd.int .i64) 2 w' w.heap.size (fun k_ => some k_ ≠ (v1_ : Value).ownBlock) v0_ r1 ∧ Kd.R (Kd.int .i64) 2 w' w.heap.size (fun k_ => some k_ ≠ (v0_ : Value).ownBlock) v1_ r2 ∧ Below w.heap.size w w' := by
 have hu70 := Try.underlying70
 have hu117 := Try.underlying117
 have HR0 := zK hr0
 have HC0 := zK hc0; clear hr0 hc0
 have HB := zK (Below.refl w.heap.size w)
 have H : (if a1 < 0 then (box_Bounds.j0 k l0 a1 true) else (box_Bounds.j0 k l0 a1 (decide (a1 > 64)))) = some (r1, r2, r3) := h
 clear h
 have HC3 := zK H; clear H
 go_enter Try.func38, Try.ntmps38
 go_upto_region 1 with (fail)
 go_cut [26] (fun v26 wc => ∃ (kq : Nat) (x26_2 : Bool), v26 = .bool x26_2 ∧ Aside0 (box_Bounds.j0 kq l0 a1 x26_2 = some (r1, r2, r3)) ∧ Aside0 (kq ≤ k) ∧ Aside0 (Below w.heap.size w wc))
 case first =>
  have H := HC3.out; clear HC3
  by_cases c4 : a1 < 0
  ·rw [if_pos c4] at H
   have c4b0 : decide (a1 < 0) = true := decide_eq_true c4; clear c4
   (first | rw [c4b0] | (simp only [i64_w, i32_w]; rw [c4b0]) | skip)
   have H' := zK H; clear H
   go_wp2
   repeat (go_end0; simp only []; try go_wp2)
   go_meet
   case rel => exact ⟨_, (true), (by first | rfl | (simp; done) | (simp [*]; done)), H', ⟨by first | omega | exact Nat.le_refl _⟩, ⟨zo HB⟩⟩
  ·rw [if_neg c4] at H
   have c4b0 : decide (a1 < 0) = false := decide_eq_false c4; clear c4
   (first | rw [c4b0] | (simp only [i64_w, i32_w]; rw [c4b0]) | skip)
   have H' := zK H; clear H
   go_wp2
   repeat (go_end0; simp only []; try go_wp2)
   go_meet
   case rel => exact ⟨_, (decide (a1 > 64)), (by first | rfl | (simp; done) | (simp [*]; done)), H', ⟨by first | omega | exact Nat.le_refl _⟩, ⟨zo HB⟩⟩
 case rest =>
  clear HC3; try clear p2; try clear c3; try clear c4; try clear c4b0
  obtain ⟨kq, x26_2, rfl, HA, HJ2, HB⟩ := hcut
  cases kq with
  | zero => exact absurd HA.out (by simp [box_Bounds.j0])
  | succ kj2 =>
   have H := HA.out; clear HA
   simp only [box_Bounds.j0] at H
   by_cases c5 : x26_2 = true
   ·subst c5
    have H1 : (some (([] : List Int), ([] : List Int), false)) = some (r1, r2, r3) := by rw [if_pos rfl] at H; exact H
    clear H; have H := H1; clear H1
    simp only [Option.some.injEq, Prod.mk.injEq] at H
    obtain ⟨rfl, rfl, rfl⟩ := H
    go_wp2
    go_ret3
    exact ⟨_, _, by first | rfl | (simp [errW_none, errW_some] <;> rfl) | (simp [*, errW_none, errW_some] <;> rfl), by first | exact Kd.R_nil _ _ _ _ _ | exact Kd.N_nil _ _ _ _ _ | exact Kd.V_nil _ _ _ _ _ | exact Kd.Q_nil _ _ _ _ _ | exact Kd.S_nil _ _ _ _ _, by first | exact Kd.R_nil _ _ _ _ _ | exact Kd.N_nil _ _ _ _ _ | exact Kd.V_nil _ _ _ _ _ | exact Kd.Q_nil _ _ _ _ _ | exact Kd.S_nil _ _ _ _ _, zo HB⟩
   ·replace c5 := Bool.eq_false_iff.mpr c5
    subst c5
    have H1 : (if 0 ≤ a1 then (if (a1 : Int).toNat ≤ 11728124029610 then (box_Bounds.l0 kj2 a1 (List.replicate (a1 : Int).toNat z117) l0 (l0.length : Int) 0) else (none)) else (none)) = some (r1, r2, r3) := by rw [if_neg (show ¬ (false = true) by decide)] at H; exact H
    clear H; have H := H1; clear H1
    by_cases c6 : 0 ≤ a1
    ·rw [if_pos c6] at H
     have c6b0 := eq_true c6
     have c6b1 : decide (0 ≤ a1) = true := decide_eq_true c6; clear c6
     by_cases c7 : (a1 : Int).toNat ≤ 11728124029610
     ·rw [if_pos c7] at H
      have c7b0 := eq_true c7
      have c7b1 : decide ((a1 : Int).toNat ≤ 11728124029610) = true := decide_eq_true c7
      clear c7
      obtain ⟨y220, hy220⟩ : ∃ y_ : List (S117), y_ = (List.replicate (a1 : Int).toNat z117) := ⟨_, rfl⟩
      replace H : (box_Bounds.l0 kj2 a1 y220 l0 (l0.length : Int) 0) = some (r1, r2, r3) := by first | (rw [hy220]; with_reducible exact H) | (have H2_ := (Option.bind_some _ _).symm.trans H; rw [hy220]; with_reducible exact H2_) | (have H2_ := (Option.bind_some _ _).symm.trans H; with_reducible exact H2_) | with_reducible exact H | (rw [hy220]; exact H) | exact H
      have Ny220 := zK hy220; clear hy220
      have H' := zK H; clear H
      go_wp2_with (first | ((with_reducible refine gate_dst (N := 28) rfl ?_); (try (refine zG (by rfl) ?_; dsimp only)); refine Kd.R_make k117 _ 117 rfl (N := 28) rfl 112 _ _ rfl a1 rfl rfl Try.underlying112 (.agg #[(.int .i64 0), (.int .i64 0), (.bool false), (.bool false)]) 24 info117 rfl (by decide) (by omega) z117 (ok := fun _ => True) (okp := fun _ => True) (k117_mkM _ _ _ z117 ) (fun _ hk => hk) trivial (of_decide_eq_true (by first | (with_reducible assumption) | assumption)) (Nat.le_trans (Nat.mul_le_mul_right _ (of_decide_eq_true (by first | (with_reducible assumption) | assumption) : a1.toNat ≤ 11728124029610)) (by omega)) (Below.refl _ _) (Nat.le_refl _) ?_; intro v221 w8 ho9 hb hg_ hnew_; clear hg_ hnew_; (first | rw [← Ny220.out] at ho9 | (simp only [Int.reduceToNat] at ho9; rw [← Ny220.out] at ho9)); have HO222 := zK (Kd.R_lower ho9 (below_size (zo HB))); replace HB := zK (below_step (zo HB) hb); clear hb ho9))
      go_loopg [31] kj2 (fun kq v31 w' => ∃ (x7_2 : List (S117)) (x31_2 : Int), v31 = .int .i64 x31_2 ∧ Aside0 (box_Bounds.l0 kq a1 x7_2 l0 (l0.length : Int) x31_2 = some (r1, r2, r3)) ∧ Aside0 (kq ≤ kj2) ∧ Aside0 (Kd.R k117 117 w' w.heap.size (fun _ => True) v221 x7_2) ∧ Aside0 (Below w.heap.size w w'))
      case atStart => exact ⟨(y220), (0), (by first | rfl | (simp; done) | (simp [*]; done)), H', ⟨Nat.le_refl _⟩, ⟨zr HO222⟩, ⟨zo HB⟩⟩
      case round =>
       clear H'; try clear p2; try clear c3; try clear c4
       try clear c4b0; try clear c5; try clear c6; try clear c6b0
       try clear c6b1; try clear c7; try clear c7b0; try clear c7b1; try clear p2
       obtain ⟨x7_2, x31_2, rfl, HA, HK2, HO_7, HB⟩ := hrel
       cases gk with
       | zero => exact absurd HA.out (by simp [box_Bounds.l0])
       | succ k2 =>
        have H := HA.out; clear HA
        simp only [box_Bounds.l0] at H
        by_cases c10 : x31_2 < (l0.length : Int)
        ·rw [if_pos c10] at H
         have c10b0 : decide (x31_2 < (l0.length : Int)) = true := decide_eq_true c10
         clear c10
         by_cases c11 : 0 ≤ x31_2
         ·rw [if_pos c11] at H
          have c11b0 : decide (0 ≤ x31_2) = true := decide_eq_true c11; clear c11
          by_cases c12 : x31_2 < (l0.length : Int)
          ·rw [if_pos c12] at H
           have c12b0 : decide (x31_2 < (l0.length : Int)) = true := decide_eq_true c12
           clear c12; replace H := Option.bind_eq_some_iff.mp H
           obtain ⟨⟨t225, t226, t229, t230⟩, A130, H⟩ := H
           replace H : ((ineq_Right.f k2 ((rd_T70 l0 x31_2).f0.f0) ((rd_T70 l0 x31_2).f0.f1) ((rd_T70 l0 x31_2).f1)).bind fun t232 => (if t232 = 0 then (if t230 = 0 then (box_Bounds.j2 k2 a1 x7_2 l0 (l0.length : Int) x31_2 ((t226.length : Int) != 1) t225 t226 t229) else (box_Bounds.j2 k2 a1 x7_2 l0 (l0.length : Int) x31_2 true t225 t226 t229)) else (box_Bounds.j2 k2 a1 x7_2 l0 (l0.length : Int) x31_2 true t225 t226 t229))) = some (r1, r2, r3) := H
           have A13 := zK A130; clear A130
           have HC14 := zK H; clear H
           have p223 : 0 ≤ (x31_2 : Int) := of_decide_eq_true (by first | (with_reducible assumption) | assumption)
           have q223 : x31_2 < (l0.length : Int) := of_decide_eq_true (by first | (with_reducible assumption) | assumption)
           obtain ⟨ad223, A223_1, c223_1, e223, hx223_0, hx223_1, hx223_2, hl223_1, hi223_1⟩ := at_T70 HR0.out x31_2 p223 q223
           cases e223
           replace hx223_0 := (HB.out.cell (World.block_lt_of_cell? w _ hx223_0)).trans hx223_0
           replace hx223_1 := (HB.out.cell (World.block_lt_of_cell? w _ hx223_1)).trans hx223_1
           replace hx223_2 := (HB.out.cell (World.block_lt_of_cell? w _ hx223_2)).trans hx223_2
           have HR223_1 := zK hi223_1
           have HC223_1 := zK hl223_1; clear hi223_1 hl223_1
           replace p223 := eq_true p223
           replace q223 := eq_true q223
           go_upto_region 8 with (first | ((with_reducible refine gate_dst (N := 9) rfl ?_); (try (refine zG (by rfl) ?_; dsimp only)); refine box_event ?hg (N := 9) ?hd (cs := #[.int .i64 0, .slice none 0 0, .bool false]) (t := 70) ?hr ?_; (case hd => rfl); (case hg => rfl); (case hr => first | (go_simp; done) | (go_simp; rfl)); intro gb224 hg w15 hbox hb; replace HO_7 := zK (Kd.R_below (zr HO_7) hb); have BK224 := zK (hbox); have GW224 := zK ((by rw [hg]; exact (below_size (zo HB)) : w.heap.size ≤ gb224)); have GE224 := zK ((by rw [hg]; exact (below_size (zo HB)) : w.heap.size ≤ gb224)); replace HB := zK (below_step (zo HB) hb); clear hb hbox hg; have hcz16_0 : w15.cell? ⟨gb224, 0, none⟩ = some (.int .i64 0) := (blk_cell BK224.out 0).trans rfl; have hcz16_1 : w15.cell? ⟨gb224, 1, none⟩ = some (.slice none 0 0) := (blk_cell BK224.out 1).trans rfl; have hcz16_2 : w15.cell? ⟨gb224, 2, none⟩ = some (.bool false) := (blk_cell BK224.out 2).trans rfl; have hfz16_0 := blk_frozen BK224.out 0; have hfz16_1 := blk_frozen BK224.out 1; have hfz16_2 := blk_frozen BK224.out 2) | ((with_reducible refine zC (f := 73) rfl ?_); refine goesL_ (some 37) rfl rfl Try.func73 (by kernel_rfl) rfl #[.agg #[.int .i64 ((rd_T70 l0 x31_2).f0.f0), .slice A223_1 ((rd_T70 l0 x31_2).f0.f1).length c223_1, .bool ((rd_T70 l0 x31_2).f1)]] rfl (by (try simp only [List.map_toArray, List.map_cons, List.map_nil]); first | done | rfl | (simp only [List.length_drop, List.length_take]; rfl)) ?_; (with_reducible refine (ineq_Tight.calls k2 ((rd_T70 l0 x31_2).f0.f0) _ _ ((rd_T70 l0 x31_2).f0.f1) ((rd_T70 l0 x31_2).f1) t225 t226 t229 t230 _ ?side1 ?side2 A13.out).mono ?_); (case side1 => exact Kd.C_below HR223_1.out (zo HB)); (case side2 => exact HC223_1.out); rintro e w17 ⟨v227, rfl, ho0, hb⟩; refine ⟨_, rfl, ?_⟩; replace HO_7 := zK (Kd.R_below (by (with_reducible repeat (first | apply Kd.R_alloc | apply Kd.R_drewN | apply Kd.R_drew)); exact (Kd.R_mono (Kd.R_far (p := ⟨gb224, 2, none⟩) (Kd.R_far (p := ⟨gb224, 1, none⟩) (Kd.R_far (p := ⟨gb224, 0, none⟩) (Kd.R_types HO_7.out BK224.out (by decide)) (fun _ hk => hk.2) (.int .i64 ((rd_T70 l0 x31_2).f0.f0))) (fun _ hk => hk.2) (.slice A223_1 ((rd_T70 l0 x31_2).f0.f1).length c223_1)) (fun _ hk => hk.2) (.bool ((rd_T70 l0 x31_2).f1))) (fun _ h_ => h_.1))) hb); have HO228 := zK (Kd.R_lower ho0 (below_size (zo HB))); replace BK224 := zK (blk_below (g := gb224) (o := .cells #[.int .i64 ((rd_T70 l0 x31_2).f0.f0), .slice A223_1 ((rd_T70 l0 x31_2).f0.f1).length c223_1, .bool ((rd_T70 l0 x31_2).f1)] 70 (0, 0)) (by refine zM ?_; refine blk_put (cs := #[.int .i64 ((rd_T70 l0 x31_2).f0.f0), .slice A223_1 ((rd_T70 l0 x31_2).f0.f1).length c223_1, .bool false]) ?_ 2 _ rfl; refine zM ?_; refine blk_put (cs := #[.int .i64 ((rd_T70 l0 x31_2).f0.f0), .slice none 0 0, .bool false]) ?_ 1 _ rfl; refine zM ?_; refine blk_put (cs := #[.int .i64 0, .slice none 0 0, .bool false]) ?_ 0 _ rfl; refine zM ?_; exact BK224.out) hb); replace HB := zK (below_step (zo HB) hb); (try clear hb); (try clear hb2); (try clear hk); (try clear hi); (try clear ho0)) | ((with_reducible refine gate_dst (N := 10) rfl ?_); (try (refine zG (by rfl) ?_; dsimp only)); refine box_event ?hg (N := 10) ?hd (cs := #[.int .i64 0, .slice none 0 0, .bool false]) (t := 70) ?hr ?_; (case hd => rfl); (case hg => rfl); (case hr => first | (go_simp; done) | (go_simp; rfl)); intro gb231 hg w18 hbox hb; replace HO_7 := zK (Kd.R_below (zr HO_7) hb); replace HO228 := zK (Kd.R_below (zr HO228) hb); have BK231 := zK (hbox); have GW231 := zK ((by rw [hg]; exact (below_size (zo HB)) : w.heap.size ≤ gb231)); have GE231 := zK ((by rw [hg]; exact (below_size (zo HB)) : w.heap.size ≤ gb231)); replace HB := zK (below_step (zo HB) hb); have NB224_231 := zK ((by rw [hg]; exact Nat.ne_of_lt (blk_lt (g := gb224) (o := .cells #[.int .i64 ((rd_T70 l0 x31_2).f0.f0), .slice A223_1 ((rd_T70 l0 x31_2).f0.f1).length c223_1, .bool ((rd_T70 l0 x31_2).f1)] 70 (0, 0)) (zb BK224)) : gb224 ≠ gb231)); have NB231_224 := zK ((by rw [hg]; exact Nat.ne_of_gt (blk_lt (g := gb224) (o := .cells #[.int .i64 ((rd_T70 l0 x31_2).f0.f0), .slice A223_1 ((rd_T70 l0 x31_2).f0.f1).length c223_1, .bool ((rd_T70 l0 x31_2).f1)] 70 (0, 0)) (zb BK224)) : gb231 ≠ gb224)); replace BK224 := zK (blk_below (g := gb224) (o := .cells #[.int .i64 ((rd_T70 l0 x31_2).f0.f0), .slice A223_1 ((rd_T70 l0 x31_2).f0.f1).length c223_1, .bool ((rd_T70 l0 x31_2).f1)] 70 (0, 0)) (zb BK224) hb); clear hb hbox hg; have hnb19 := NB231_224.out; have hnc19 := NB224_231.out; have hcz20_0 : w18.cell? ⟨gb231, 0, none⟩ = some (.int .i64 0) := (blk_cell BK231.out 0).trans rfl; have hcz20_1 : w18.cell? ⟨gb231, 1, none⟩ = some (.slice none 0 0) := (blk_cell BK231.out 1).trans rfl; have hcz20_2 : w18.cell? ⟨gb231, 2, none⟩ = some (.bool false) := (blk_cell BK231.out 2).trans rfl; have hfz20_0 := blk_frozen BK231.out 0; have hfz20_1 := blk_frozen BK231.out 1; have hfz20_2 := blk_frozen BK231.out 2; obtain ⟨Ao21, co21, eo21⟩ := Kd.R_slice HO228.out; subst eo21))
           (try simp only [Act.put, zt, zz, zs])
           go_cut [53] (fun v53 wc => ∃ (kq : Nat) (x53_13 : Bool), v53 = .bool x53_13 ∧ Aside0 (box_Bounds.j2 kq a1 x7_2 l0 (l0.length : Int) x31_2 x53_13 t225 t226 t229 = some (r1, r2, r3)) ∧ Aside0 (kq ≤ k2) ∧ Aside0 (Kd.R k117 117 wc w.heap.size (fun _ => True) v221 x7_2) ∧ Aside0 (Kd.R k68 68 wc w.heap.size (fun _ => True) (.slice Ao21 t226.length co21) t226) ∧ Aside0 (wc.heap[gb224]? = some (.cells #[.int .i64 ((rd_T70 l0 x31_2).f0.f0), (.slice A223_1 ((rd_T70 l0 x31_2).f0.f1).length c223_1), .bool ((rd_T70 l0 x31_2).f1)] 70 (0, 0))) ∧ Aside0 (wc.heap[gb231]? = some (.cells #[.int .i64 t225, (.slice Ao21 t226.length co21), .bool t229] 70 (0, 0))) ∧ Aside0 (Below w.heap.size w wc))
           case first =>
            have H := HC14.out; clear HC14; replace H := Option.bind_eq_some_iff.mp H
            obtain ⟨t232, A220, H⟩ := H
            replace H : (if t232 = 0 then (if t230 = 0 then (box_Bounds.j2 k2 a1 x7_2 l0 (l0.length : Int) x31_2 ((t226.length : Int) != 1) t225 t226 t229) else (box_Bounds.j2 k2 a1 x7_2 l0 (l0.length : Int) x31_2 true t225 t226 t229)) else (box_Bounds.j2 k2 a1 x7_2 l0 (l0.length : Int) x31_2 true t225 t226 t229)) = some (r1, r2, r3) := H
            have A22 := zK A220; clear A220
            by_cases c23 : t232 = 0
            ·rw [if_pos c23] at H
             have c23b0 : (t232 == 0) = true := beq_iff_eq.mpr c23
             have c23b1 : (t232 != 0) = false := bne_eq_false_iff_eq.mpr c23; clear c23
             (first | rw [c23b0] | (simp only [i64_w, i32_w]; rw [c23b0]) | skip)
             by_cases c24 : t230 = 0
             ·rw [if_pos c24] at H
              have c24b0 : (t230 == 0) = true := beq_iff_eq.mpr c24
              have c24b1 : (t230 != 0) = false := bne_eq_false_iff_eq.mpr c24; clear c24
              have H' := zK H; clear H
              have hnb25 := NB224_231.out
              have hnc25 := NB231_224.out
              have hcz26_0 : w18.cell? ⟨gb224, 0, none⟩ = some (.int .i64 ((rd_T70 l0 x31_2).f0.f0)) := (blk_cell BK224.out 0).trans rfl
              have hcz26_1 : w18.cell? ⟨gb224, 1, none⟩ = some (.slice A223_1 ((rd_T70 l0 x31_2).f0.f1).length c223_1) := (blk_cell BK224.out 1).trans rfl
              have hcz26_2 : w18.cell? ⟨gb224, 2, none⟩ = some (.bool ((rd_T70 l0 x31_2).f1)) := (blk_cell BK224.out 2).trans rfl
              have hfz26_0 := blk_frozen BK224.out 0
              have hfz26_1 := blk_frozen BK224.out 1
              have hfz26_2 := blk_frozen BK224.out 2
              go_wp2_with (first | ((with_reducible refine zC (f := 74) rfl ?_); refine goesL_ (some 41) rfl rfl Try.func74 (by kernel_rfl) rfl #[.agg #[.int .i64 ((rd_T70 l0 x31_2).f0.f0), .slice A223_1 ((rd_T70 l0 x31_2).f0.f1).length c223_1, .bool ((rd_T70 l0 x31_2).f1)]] rfl (by (try simp only [List.map_toArray, List.map_cons, List.map_nil]); first | done | rfl | (simp only [List.length_drop, List.length_take]; rfl)) ?_; (with_reducible refine (ineq_Right.calls k2 ((rd_T70 l0 x31_2).f0.f0) _ _ ((rd_T70 l0 x31_2).f0.f1) ((rd_T70 l0 x31_2).f1) t232 _ ?side1 ?side2 A22.out).mono ?_); (case side1 => exact Kd.C_below HR223_1.out (zo HB)); (case side2 => exact HC223_1.out); rintro e w27 ⟨rfl, hb⟩; refine ⟨_, rfl, ?_⟩; replace HO_7 := zK (Kd.R_below (by (with_reducible repeat (first | apply Kd.R_alloc | apply Kd.R_drewN | apply Kd.R_drew)); exact (Kd.R_mono (Kd.R_far (p := ⟨gb231, 2, none⟩) (Kd.R_far (p := ⟨gb231, 1, none⟩) (Kd.R_far (p := ⟨gb231, 0, none⟩) (Kd.R_types HO_7.out BK231.out (by decide)) (fun _ hk => hk.2) (.int .i64 t225)) (fun _ hk => hk.2) (.slice Ao21 t226.length co21)) (fun _ hk => hk.2) (.bool t229)) (fun _ h_ => h_.1))) hb); replace HO228 := zK (Kd.R_below (by (with_reducible repeat (first | apply Kd.R_alloc | apply Kd.R_drewN | apply Kd.R_drew)); exact (Kd.R_mono (Kd.R_far (p := ⟨gb231, 2, none⟩) (Kd.R_far (p := ⟨gb231, 1, none⟩) (Kd.R_far (p := ⟨gb231, 0, none⟩) (Kd.R_types HO228.out BK231.out (by decide)) (fun _ hk => hk.2) (.int .i64 t225)) (fun _ hk => hk.2) (.slice Ao21 t226.length co21)) (fun _ hk => hk.2) (.bool t229)) (fun _ h_ => h_.1))) hb); replace BK224 := zK (blk_below (g := gb224) (o := .cells #[.int .i64 ((rd_T70 l0 x31_2).f0.f0), .slice A223_1 ((rd_T70 l0 x31_2).f0.f1).length c223_1, .bool ((rd_T70 l0 x31_2).f1)] 70 (0, 0)) (zb BK224) hb); replace BK231 := zK (blk_below (g := gb231) (o := .cells #[.int .i64 t225, .slice Ao21 t226.length co21, .bool t229] 70 (0, 0)) (by refine zM ?_; refine blk_put (cs := #[.int .i64 t225, .slice Ao21 t226.length co21, .bool false]) ?_ 2 _ rfl; refine zM ?_; refine blk_put (cs := #[.int .i64 t225, .slice none 0 0, .bool false]) ?_ 1 _ rfl; refine zM ?_; refine blk_put (cs := #[.int .i64 0, .slice none 0 0, .bool false]) ?_ 0 _ rfl; refine zM ?_; exact BK231.out) hb); replace HB := zK (below_step (zo HB) hb); (try clear hb); (try clear hb2); (try clear hk); (try clear hi); have hcz28_0 : w27.cell? ⟨gb231, 0, none⟩ = some (.int .i64 t225) := (blk_cell BK231.out 0).trans rfl; have hcz28_1 : w27.cell? ⟨gb231, 1, none⟩ = some (.slice Ao21 t226.length co21) := (blk_cell BK231.out 1).trans rfl; have hcz28_2 : w27.cell? ⟨gb231, 2, none⟩ = some (.bool t229) := (blk_cell BK231.out 2).trans rfl; have hfz28_0 := blk_frozen BK231.out 0; have hfz28_1 := blk_frozen BK231.out 1; have hfz28_2 := blk_frozen BK231.out 2))
              repeat (go_end0; simp only []; try go_wp2)
              go_meet
              case rel => exact ⟨_, (((t226.length : Int) != 1)), (by first | rfl | (simp; done) | (simp [*]; done)), H', ⟨by have := HJ2.out; have := HK2.out; first | omega | exact Nat.le_refl _⟩, ⟨zr HO_7⟩, ⟨zr HO228⟩, ⟨zb BK224⟩, ⟨zb BK231⟩, ⟨zo HB⟩⟩
             ·rw [if_neg c24] at H
              have c24b0 : (t230 == 0) = false := beq_eq_false_iff_ne.mpr c24
              have c24b1 : (t230 != 0) = true := bne_iff_ne.mpr c24
              have H' := zK H; clear H
              have hnb29 := NB224_231.out
              have hnc29 := NB231_224.out
              have hcz30_0 : w18.cell? ⟨gb224, 0, none⟩ = some (.int .i64 ((rd_T70 l0 x31_2).f0.f0)) := (blk_cell BK224.out 0).trans rfl
              have hcz30_1 : w18.cell? ⟨gb224, 1, none⟩ = some (.slice A223_1 ((rd_T70 l0 x31_2).f0.f1).length c223_1) := (blk_cell BK224.out 1).trans rfl
              have hcz30_2 : w18.cell? ⟨gb224, 2, none⟩ = some (.bool ((rd_T70 l0 x31_2).f1)) := (blk_cell BK224.out 2).trans rfl
              have hfz30_0 := blk_frozen BK224.out 0
              have hfz30_1 := blk_frozen BK224.out 1
              have hfz30_2 := blk_frozen BK224.out 2
              go_wp2_with (first | ((with_reducible refine zC (f := 74) rfl ?_); refine goesL_ (some 41) rfl rfl Try.func74 (by kernel_rfl) rfl #[.agg #[.int .i64 ((rd_T70 l0 x31_2).f0.f0), .slice A223_1 ((rd_T70 l0 x31_2).f0.f1).length c223_1, .bool ((rd_T70 l0 x31_2).f1)]] rfl (by (try simp only [List.map_toArray, List.map_cons, List.map_nil]); first | done | rfl | (simp only [List.length_drop, List.length_take]; rfl)) ?_; (with_reducible refine (ineq_Right.calls k2 ((rd_T70 l0 x31_2).f0.f0) _ _ ((rd_T70 l0 x31_2).f0.f1) ((rd_T70 l0 x31_2).f1) t232 _ ?side1 ?side2 A22.out).mono ?_); (case side1 => exact Kd.C_below HR223_1.out (zo HB)); (case side2 => exact HC223_1.out); rintro e w31 ⟨rfl, hb⟩; refine ⟨_, rfl, ?_⟩; replace HO_7 := zK (Kd.R_below (by (with_reducible repeat (first | apply Kd.R_alloc | apply Kd.R_drewN | apply Kd.R_drew)); exact (Kd.R_mono (Kd.R_far (p := ⟨gb231, 2, none⟩) (Kd.R_far (p := ⟨gb231, 1, none⟩) (Kd.R_far (p := ⟨gb231, 0, none⟩) (Kd.R_types HO_7.out BK231.out (by decide)) (fun _ hk => hk.2) (.int .i64 t225)) (fun _ hk => hk.2) (.slice Ao21 t226.length co21)) (fun _ hk => hk.2) (.bool t229)) (fun _ h_ => h_.1))) hb); replace HO228 := zK (Kd.R_below (by (with_reducible repeat (first | apply Kd.R_alloc | apply Kd.R_drewN | apply Kd.R_drew)); exact (Kd.R_mono (Kd.R_far (p := ⟨gb231, 2, none⟩) (Kd.R_far (p := ⟨gb231, 1, none⟩) (Kd.R_far (p := ⟨gb231, 0, none⟩) (Kd.R_types HO228.out BK231.out (by decide)) (fun _ hk => hk.2) (.int .i64 t225)) (fun _ hk => hk.2) (.slice Ao21 t226.length co21)) (fun _ hk => hk.2) (.bool t229)) (fun _ h_ => h_.1))) hb); replace BK224 := zK (blk_below (g := gb224) (o := .cells #[.int .i64 ((rd_T70 l0 x31_2).f0.f0), .slice A223_1 ((rd_T70 l0 x31_2).f0.f1).length c223_1, .bool ((rd_T70 l0 x31_2).f1)] 70 (0, 0)) (zb BK224) hb); replace BK231 := zK (blk_below (g := gb231) (o := .cells #[.int .i64 t225, .slice Ao21 t226.length co21, .bool t229] 70 (0, 0)) (by refine zM ?_; refine blk_put (cs := #[.int .i64 t225, .slice Ao21 t226.length co21, .bool false]) ?_ 2 _ rfl; refine zM ?_; refine blk_put (cs := #[.int .i64 t225, .slice none 0 0, .bool false]) ?_ 1 _ rfl; refine zM ?_; refine blk_put (cs := #[.int .i64 0, .slice none 0 0, .bool false]) ?_ 0 _ rfl; refine zM ?_; exact BK231.out) hb); replace HB := zK (below_step (zo HB) hb); (try clear hb); (try clear hb2); (try clear hk); (try clear hi)))
              repeat (go_end0; simp only []; try go_wp2)
              go_meet
              case rel => exact ⟨_, (true), (by first | rfl | (simp; done) | (simp [*]; done)), H', ⟨by have := HJ2.out; have := HK2.out; first | omega | exact Nat.le_refl _⟩, ⟨zr HO_7⟩, ⟨zr HO228⟩, ⟨zb BK224⟩, ⟨zb BK231⟩, ⟨zo HB⟩⟩
            ·rw [if_neg c23] at H
             have c23b0 : (t232 == 0) = false := beq_eq_false_iff_ne.mpr c23
             have c23b1 : (t232 != 0) = true := bne_iff_ne.mpr c23
             (first | rw [c23b0] | (simp only [i64_w, i32_w]; rw [c23b0]) | skip)
             have H' := zK H; clear H
             have hnb32 := NB224_231.out
             have hnc32 := NB231_224.out
             have hcz33_0 : w18.cell? ⟨gb224, 0, none⟩ = some (.int .i64 ((rd_T70 l0 x31_2).f0.f0)) := (blk_cell BK224.out 0).trans rfl
             have hcz33_1 : w18.cell? ⟨gb224, 1, none⟩ = some (.slice A223_1 ((rd_T70 l0 x31_2).f0.f1).length c223_1) := (blk_cell BK224.out 1).trans rfl
             have hcz33_2 : w18.cell? ⟨gb224, 2, none⟩ = some (.bool ((rd_T70 l0 x31_2).f1)) := (blk_cell BK224.out 2).trans rfl
             have hfz33_0 := blk_frozen BK224.out 0
             have hfz33_1 := blk_frozen BK224.out 1
             have hfz33_2 := blk_frozen BK224.out 2
             go_wp2_with (first | ((with_reducible refine zC (f := 74) rfl ?_); refine goesL_ (some 41) rfl rfl Try.func74 (by kernel_rfl) rfl #[.agg #[.int .i64 ((rd_T70 l0 x31_2).f0.f0), .slice A223_1 ((rd_T70 l0 x31_2).f0.f1).length c223_1, .bool ((rd_T70 l0 x31_2).f1)]] rfl (by (try simp only [List.map_toArray, List.map_cons, List.map_nil]); first | done | rfl | (simp only [List.length_drop, List.length_take]; rfl)) ?_; (with_reducible refine (ineq_Right.calls k2 ((rd_T70 l0 x31_2).f0.f0) _ _ ((rd_T70 l0 x31_2).f0.f1) ((rd_T70 l0 x31_2).f1) t232 _ ?side1 ?side2 A22.out).mono ?_); (case side1 => exact Kd.C_below HR223_1.out (zo HB)); (case side2 => exact HC223_1.out); rintro e w34 ⟨rfl, hb⟩; refine ⟨_, rfl, ?_⟩; replace HO_7 := zK (Kd.R_below (by (with_reducible repeat (first | apply Kd.R_alloc | apply Kd.R_drewN | apply Kd.R_drew)); exact (Kd.R_mono (Kd.R_far (p := ⟨gb231, 2, none⟩) (Kd.R_far (p := ⟨gb231, 1, none⟩) (Kd.R_far (p := ⟨gb231, 0, none⟩) (Kd.R_types HO_7.out BK231.out (by decide)) (fun _ hk => hk.2) (.int .i64 t225)) (fun _ hk => hk.2) (.slice Ao21 t226.length co21)) (fun _ hk => hk.2) (.bool t229)) (fun _ h_ => h_.1))) hb); replace HO228 := zK (Kd.R_below (by (with_reducible repeat (first | apply Kd.R_alloc | apply Kd.R_drewN | apply Kd.R_drew)); exact (Kd.R_mono (Kd.R_far (p := ⟨gb231, 2, none⟩) (Kd.R_far (p := ⟨gb231, 1, none⟩) (Kd.R_far (p := ⟨gb231, 0, none⟩) (Kd.R_types HO228.out BK231.out (by decide)) (fun _ hk => hk.2) (.int .i64 t225)) (fun _ hk => hk.2) (.slice Ao21 t226.length co21)) (fun _ hk => hk.2) (.bool t229)) (fun _ h_ => h_.1))) hb); replace BK224 := zK (blk_below (g := gb224) (o := .cells #[.int .i64 ((rd_T70 l0 x31_2).f0.f0), .slice A223_1 ((rd_T70 l0 x31_2).f0.f1).length c223_1, .bool ((rd_T70 l0 x31_2).f1)] 70 (0, 0)) (zb BK224) hb); replace BK231 := zK (blk_below (g := gb231) (o := .cells #[.int .i64 t225, .slice Ao21 t226.length co21, .bool t229] 70 (0, 0)) (by refine zM ?_; refine blk_put (cs := #[.int .i64 t225, .slice Ao21 t226.length co21, .bool false]) ?_ 2 _ rfl; refine zM ?_; refine blk_put (cs := #[.int .i64 t225, .slice none 0 0, .bool false]) ?_ 1 _ rfl; refine zM ?_; refine blk_put (cs := #[.int .i64 0, .slice none 0 0, .bool false]) ?_ 0 _ rfl; refine zM ?_; exact BK231.out) hb); replace HB := zK (below_step (zo HB) hb); (try clear hb); (try clear hb2); (try clear hk); (try clear hi)))
             repeat (go_end0; simp only []; try go_wp2)
             go_meet
             case rel => exact ⟨_, (true), (by first | rfl | (simp; done) | (simp [*]; done)), H', ⟨by have := HJ2.out; have := HK2.out; first | omega | exact Nat.le_refl _⟩, ⟨zr HO_7⟩, ⟨zr HO228⟩, ⟨zb BK224⟩, ⟨zb BK231⟩, ⟨zo HB⟩⟩
           case rest =>
            clear HC14; try clear c1; try clear c2; try clear p2
            try clear q2; try clear hx2; try clear c3; try clear c4
            try clear c4b0; try clear c5; try clear c6; try clear c6b0
            try clear c6b1; try clear c7; try clear c7b0; try clear c7b1
            try clear c10; try clear c10b0; try clear c11; try clear c11b0
            try clear c12; try clear c12b0; try clear c19; try clear c22
            try clear p22; try clear q22; try clear hx22; try clear c23
            try clear c23b0; try clear c23b1; try clear c24; try clear c24b0
            try clear c24b1; try clear c25; try clear c29; try clear c32
            try clear hcz16_0; try clear hcz16_1; try clear hcz16_2; try clear hcz20_0
            try clear hcz20_1; try clear hcz20_2; try clear hcz26_0; try clear hcz26_1
            try clear hcz26_2; try clear hcz28_0; try clear hcz28_1; try clear hcz28_2
            try clear hcz30_0; try clear hcz30_1; try clear hcz30_2; try clear hcz33_0
            try clear hcz33_1; try clear hcz33_2; try clear hfz16_0; try clear hfz16_1
            try clear hfz16_2; try clear hfz20_0; try clear hfz20_1; try clear hfz20_2
            try clear hfz26_0; try clear hfz26_1; try clear hfz26_2; try clear hfz28_0
            try clear hfz28_1; try clear hfz28_2; try clear hfz30_0; try clear hfz30_1
            try clear hfz30_2; try clear hfz33_0; try clear hfz33_1; try clear hfz33_2
            try clear hx223_0; try clear hx223_1; try clear hx223_2; try clear p2; try clear p223; try clear q223
            obtain ⟨kq, x53_13, rfl, HA, HJ13, HO_7, HO_232001, BK224, BK231, HB⟩ := hcut
            cases kq with
            | zero => exact absurd HA.out (by simp [box_Bounds.j2])
            | succ kj13 =>
             have H := HA.out; clear HA
             simp only [box_Bounds.j2] at H
             by_cases c35 : x53_13 = true
             ·subst c35
              have H1 : (box_Bounds.l0 kj13 a1 x7_2 l0 (l0.length : Int) (wrap64 (x31_2 + 1))) = some (r1, r2, r3) := by rw [if_pos rfl] at H; exact H
              clear H; have H := H1; clear H1
              have H' := zK H; clear H
              go_wp2
              repeat (go_end0; simp only []; try go_wp2)
              go_roundg kj13
              case measure => have := HJ2.out; have := HK2.out; have := HJ13.out; omega
              case rel => exact ⟨(x7_2), (wrap64 (x31_2 + 1)), (by first | rfl | (simp; done) | (simp [*]; done)), H', ⟨by have := HJ2.out; have := HK2.out; have := HJ13.out; omega⟩, ⟨zr HO_7⟩, ⟨zo HB⟩⟩
             ·replace c35 := Bool.eq_false_iff.mpr c35
              subst c35
              have H1 : (if 0 < (t226.length : Int) then (if ((rd_T68 t226 0).f0) < 0 then (box_Bounds.j3 kj13 a1 x7_2 ((rd_T68 t226 0).f0) ((rd_T68 t226 0).f1) l0 (l0.length : Int) x31_2 true t225 t226 t229) else (if ((rd_T68 t226 0).f0) ≥ a1 then (box_Bounds.j3 kj13 a1 x7_2 ((rd_T68 t226 0).f0) ((rd_T68 t226 0).f1) l0 (l0.length : Int) x31_2 true t225 t226 t229) else (if ((rd_T68 t226 0).f1) = 1 then (box_Bounds.j3 kj13 a1 x7_2 ((rd_T68 t226 0).f0) ((rd_T68 t226 0).f1) l0 (l0.length : Int) x31_2 false t225 t226 t229) else (box_Bounds.j3 kj13 a1 x7_2 ((rd_T68 t226 0).f0) ((rd_T68 t226 0).f1) l0 (l0.length : Int) x31_2 (((rd_T68 t226 0).f1) != (-1)) t225 t226 t229)))) else (none)) = some (r1, r2, r3) := by rw [if_neg (show ¬ (false = true) by decide)] at H; exact H
              clear H; have H := H1; clear H1
              by_cases c36 : 0 < (t226.length : Int)
              ·rw [if_pos c36] at H
               have c36b0 : decide (0 < (t226.length : Int)) = true := decide_eq_true c36
               have c36b1 : decide (0 < t226.length) = true := decide_eq_true (by omega)
               clear c36
               have HC37 := zK H; clear H
               try go_wp2
               replace HO_7 := zK (Kd.R_drew HO_7.out)
               replace HO_232001 := zK (Kd.R_drew HO_232001.out)
               replace BK224 := zK (zD BK224.out)
               replace BK231 := zK (zD BK231.out)
               replace HB := zK (yD HB.out)
               have p233 : 0 ≤ (0 : Int) := (by omega)
               have q233 : 0 < (t226.length : Int) := of_decide_eq_true (by first | (with_reducible assumption) | assumption)
               obtain ⟨ad233, e233, hx233_0, hx233_1⟩ := at_T68 (Kd.R_reads' HO_232001.out).2.2 0 p233 q233
               cases e233
               have qi233 : (0 < t226.length) = True := eq_true (by omega)
               (try rw [show ((0 : Int)).toNat = 0 from rfl] at hx233_0)
               (try rw [show 0 * 2 = 0 from rfl] at hx233_0)
               (try rw [Addr.add_zero'] at hx233_0)
               (try rw [show ((0 : Int)).toNat = 0 from rfl] at hx233_1)
               (try rw [show 0 * 2 = 0 from rfl] at hx233_1)
               (try rw [Addr.add_zero'] at hx233_1)
               replace p233 := eq_true p233
               replace q233 := eq_true q233
               have p234 : 0 ≤ (0 : Int) := (by omega)
               have q234 : 0 < (t226.length : Int) := of_decide_eq_true (by first | (with_reducible assumption) | assumption)
               obtain ⟨ad234, e234, hx234_0, hx234_1⟩ := at_T68 (Kd.R_reads' HO_232001.out).2.2 0 p234 q234
               obtain rfl : ad233 = ad234 := (by injection e234)
               have qi234 : (0 < t226.length) = True := eq_true (by omega)
               (try rw [show ((0 : Int)).toNat = 0 from rfl] at hx234_0)
               (try rw [show 0 * 2 = 0 from rfl] at hx234_0)
               (try rw [Addr.add_zero'] at hx234_0)
               (try rw [show ((0 : Int)).toNat = 0 from rfl] at hx234_1)
               (try rw [show 0 * 2 = 0 from rfl] at hx234_1)
               (try rw [Addr.add_zero'] at hx234_1)
               replace p234 := eq_true p234
               replace q234 := eq_true q234
               refine start_ (n := 14) (S := fun w' => w'.cell? ⟨gb231, 0, none⟩ = some (.int .i64 t225) ∧ w'.cell? ⟨gb231, 1, none⟩ = some (.slice (some ad233) t226.length co21) ∧ w'.cell? ⟨gb231, 2, none⟩ = some (.bool t229) ∧ w'.cell? ad233 = some (.int .i64 ((rd_T68 t226 0).f0)) ∧ w'.cell? ⟨ad233.block, ad233.off + 1, none⟩ = some (.int .i64 ((rd_T68 t226 0).f1)) ∧ w'.cell? ad233 = some (.int .i64 ((rd_T68 t226 0).f0)) ∧ w'.cell? ⟨ad233.block, ad233.off + 1, none⟩ = some (.int .i64 ((rd_T68 t226 0).f1))) (ds := []) #[F_,F_,F_,F_,F_,F_,F_,F_,F_,F_,F_,F_,F_,F_] (by kernel_rfl) rfl rfl ⟨(blk_cell BK231.out 0).trans rfl, (blk_cell BK231.out 1).trans rfl, (blk_cell BK231.out 2).trans rfl, hx233_0, hx233_1, hx234_0, hx234_1⟩ (fun hHeld => ?_); refine with_tabW box_Bounds.tab9 box_Bounds.bits9 (fun HT_ HW_ => ?_)
               generalize wc.drew = w38 at HO_7 HO_232001 BK224 BK231 HB hx233_0 hx233_1 hx234_0 hx234_1 hHeld ⊢
               refine pure_ (i := 0) (N := some 54) (v := ?_) (a' := ?_) #[T_,F_,F_,F_,F_,F_,F_,F_,F_,F_,F_,F_,F_,F_] rfl rfl (any_of HT_.out (by kernel_rfl)) (fun _ _ _ h => h) (Or.inl ⟨by rfl, ?_⟩) ?_ ?_; rotate_left; (intro w'; go_simp; with_reducible rfl); rotate_left; (simp only [Act.put, zt, zz, zs, i64_w, i32_w]; rfl)
               refine pure_ (i := 1) (N := some 55) (v := ?_) (a' := ?_) #[T_,T_,F_,F_,F_,F_,F_,F_,F_,F_,F_,F_,F_,F_] rfl rfl (any_of HT_.out (by kernel_rfl)) (fun _ _ _ h => h) (Or.inl ⟨by rfl, ?_⟩) ?_ ?_; rotate_left; (intro w'; go_simp; with_reducible rfl); rotate_left; (simp only [Act.put, zt, zz, zs, i64_w, i32_w]; rfl)
               refine pure_ (i := 6) (N := some 60) (v := ?_) (a' := ?_) #[T_,T_,F_,F_,F_,F_,T_,F_,F_,F_,F_,F_,F_,F_] rfl rfl (any_of HT_.out (by kernel_rfl)) (fun _ _ _ h => h) (Or.inl ⟨by rfl, ?_⟩) ?_ ?_; rotate_left; (intro w'; go_simp; with_reducible rfl); rotate_left; (simp only [Act.put, zt, zz, zs, i64_w, i32_w]; rfl)
               refine pure_ (i := 7) (N := some 61) (v := ?_) (a' := ?_) #[T_,T_,F_,F_,F_,F_,T_,T_,F_,F_,F_,F_,F_,F_] rfl rfl (any_of HT_.out (by kernel_rfl)) (fun _ _ _ h => h) (Or.inl ⟨by rfl, ?_⟩) ?_ ?_; rotate_left; (intro w'; go_simp; with_reducible rfl); rotate_left; (simp only [Act.put, zt, zz, zs, i64_w, i32_w]; rfl)
               refine take_ (i := 2) (N := some 56) (v := ?_) (a' := ?_) #[T_,T_,T_,F_,F_,F_,T_,T_,F_,F_,F_,F_,F_,F_] rfl rfl (take_ofW HT_.out HW_.out (by kernel_rfl)) (fun _ _ _ h => h) (Or.inl ⟨by rfl, ?_⟩) hHeld ?_ ?_; rotate_left; (rintro w' ⟨s0, s1, s2, s3, s4, s5, s6⟩; go_simp; with_reducible rfl); rotate_left; (simp only [Act.put, zt, zz, zs, i64_w, i32_w]; rfl)
               refine pure_ (i := 3) (N := some 57) (v := ?_) (a' := ?_) #[T_,T_,T_,T_,F_,F_,T_,T_,F_,F_,F_,F_,F_,F_] rfl rfl (any_of HT_.out (by kernel_rfl)) (fun _ _ _ h => h) (Or.inl ⟨by rfl, ?_⟩) ?_ ?_; rotate_left; (intro w'; go_simp; with_reducible rfl); rotate_left; (simp only [Act.put, zt, zz, zs, i64_w, i32_w]; rfl)
               refine pure_ (i := 4) (N := some 58) (v := ?_) (a' := ?_) #[T_,T_,T_,T_,T_,F_,T_,T_,F_,F_,F_,F_,F_,F_] rfl rfl (any_of HT_.out (by kernel_rfl)) (fun _ _ _ h => h) (Or.inl ⟨by rfl, ?_⟩) ?_ ?_; rotate_left; (intro w'; go_simp; with_reducible rfl); rotate_left; (simp only [Act.put, zt, zz, zs, i64_w, i32_w]; rfl)
               refine take_ (i := 5) (N := some 59) (v := ?_) (a' := ?_) #[T_,T_,T_,T_,T_,T_,T_,T_,F_,F_,F_,F_,F_,F_] rfl rfl (take_ofW HT_.out HW_.out (by kernel_rfl)) (fun _ _ _ h => h) (Or.inl ⟨by rfl, ?_⟩) hHeld ?_ ?_; rotate_left; (rintro w' ⟨s0, s1, s2, s3, s4, s5, s6⟩; go_simp; with_reducible rfl); rotate_left; (simp only [Act.put, zt, zz, zs, i64_w, i32_w]; rfl)
               refine pure_ (i := 12) (N := some 12) (v := ?_) (a' := ?_) #[T_,T_,T_,T_,T_,T_,T_,T_,F_,F_,F_,F_,T_,F_] rfl rfl (any_of HT_.out (by kernel_rfl)) (fun _ _ _ h => h) (Or.inl ⟨by rfl, ?_⟩) ?_ ?_; rotate_left; (intro w'; go_simp; with_reducible rfl); rotate_left; (simp only [Act.put, zt, zz, zs, i64_w, i32_w]; rfl)
               refine take_ (i := 8) (N := some 62) (v := ?_) (a' := ?_) #[T_,T_,T_,T_,T_,T_,T_,T_,T_,F_,F_,F_,T_,F_] rfl rfl (take_ofW HT_.out HW_.out (by kernel_rfl)) (fun _ _ _ h => h) (Or.inl ⟨by rfl, ?_⟩) hHeld ?_ ?_; rotate_left; (rintro w' ⟨s0, s1, s2, s3, s4, s5, s6⟩; go_simp; with_reducible rfl); rotate_left; (simp only [Act.put, zt, zz, zs, i64_w, i32_w]; rfl)
               refine pure_ (i := 9) (N := some 63) (v := ?_) (a' := ?_) #[T_,T_,T_,T_,T_,T_,T_,T_,T_,T_,F_,F_,T_,F_] rfl rfl (any_of HT_.out (by kernel_rfl)) (fun _ _ _ h => h) (Or.inl ⟨by rfl, ?_⟩) ?_ ?_; rotate_left; (intro w'; go_simp; with_reducible rfl); rotate_left; (simp only [Act.put, zt, zz, zs, i64_w, i32_w]; rfl)
               refine pure_ (i := 10) (N := some 64) (v := ?_) (a' := ?_) #[T_,T_,T_,T_,T_,T_,T_,T_,T_,T_,T_,F_,T_,F_] rfl rfl (any_of HT_.out (by kernel_rfl)) (fun _ _ _ h => h) (Or.inl ⟨by rfl, ?_⟩) ?_ ?_; rotate_left; (intro w'; go_simp; with_reducible rfl); rotate_left; (simp only [Act.put, zt, zz, zs, i64_w, i32_w]; rfl)
               refine take_ (i := 11) (N := some 65) (v := ?_) (a' := ?_) #[T_,T_,T_,T_,T_,T_,T_,T_,T_,T_,T_,T_,T_,F_] rfl rfl (take_ofW HT_.out HW_.out (by kernel_rfl)) (fun _ _ _ h => h) (Or.inl ⟨by rfl, ?_⟩) hHeld ?_ ?_; rotate_left; (rintro w' ⟨s0, s1, s2, s3, s4, s5, s6⟩; go_simp; with_reducible rfl); rotate_left; (simp only [Act.put, zt, zz, zs, i64_w, i32_w]; rfl)
               refine pure_ (i := 13) (N := some 13) (v := ?_) (a' := ?_) #[T_,T_,T_,T_,T_,T_,T_,T_,T_,T_,T_,T_,T_,T_] rfl rfl (any_of HT_.out (by kernel_rfl)) (fun _ _ _ h => h) (Or.inl ⟨by rfl, ?_⟩) ?_ ?_; rotate_left; (intro w'; go_simp; with_reducible rfl); rotate_left; (simp only [Act.put, zt, zz, zs, i64_w, i32_w]; rfl)
               refine done_ (done_of HT_.out (by kernel_rfl)) ?_
               go_upto_region 10 with (fail)
               go_cut [80] (fun v80 wc => ∃ (kq : Nat) (x80_36 : Bool), v80 = .bool x80_36 ∧ Aside0 (box_Bounds.j3 kq a1 x7_2 ((rd_T68 t226 0).f0) ((rd_T68 t226 0).f1) l0 (l0.length : Int) x31_2 x80_36 t225 t226 t229 = some (r1, r2, r3)) ∧ Aside0 (kq ≤ kj13) ∧ Aside0 (Kd.R k117 117 wc w.heap.size (fun _ => True) v221 x7_2) ∧ Aside0 (Kd.R k68 68 wc w.heap.size (fun _ => True) (.slice (some ad233) t226.length co21) t226) ∧ Aside0 (wc.heap[gb224]? = some (.cells #[.int .i64 ((rd_T70 l0 x31_2).f0.f0), (.slice A223_1 ((rd_T70 l0 x31_2).f0.f1).length c223_1), .bool ((rd_T70 l0 x31_2).f1)] 70 (0, 0))) ∧ Aside0 (wc.heap[gb231]? = some (.cells #[.int .i64 t225, (.slice (some ad233) t226.length co21), .bool t229] 70 (0, 0))) ∧ Aside0 (Below w.heap.size w wc))
               case first =>
                have H := HC37.out; clear HC37
                by_cases c39 : ((rd_T68 t226 0).f0) < 0
                ·rw [if_pos c39] at H
                 have c39b0 : decide (((rd_T68 t226 0).f0) < 0) = true := decide_eq_true c39
                 clear c39
                 (first | rw [c39b0] | (simp only [i64_w, i32_w]; rw [c39b0]) | skip)
                 have H' := zK H; clear H
                 go_wp2
                 repeat (go_end0; simp only []; try go_wp2)
                 go_meet
                 case rel => exact ⟨_, (true), (by first | rfl | (simp; done) | (simp [*]; done)), H', ⟨by have := HJ2.out; have := HK2.out; have := HJ13.out; first | omega | exact Nat.le_refl _⟩, ⟨zr HO_7⟩, ⟨zr HO_232001⟩, ⟨zb BK224⟩, ⟨zb BK231⟩, ⟨zo HB⟩⟩
                ·rw [if_neg c39] at H
                 have c39b0 : decide (((rd_T68 t226 0).f0) < 0) = false := decide_eq_false c39
                 clear c39
                 (first | rw [c39b0] | (simp only [i64_w, i32_w]; rw [c39b0]) | skip)
                 by_cases c40 : ((rd_T68 t226 0).f0) ≥ a1
                 ·rw [if_pos c40] at H
                  have c40b0 : decide (a1 ≤ ((rd_T68 t226 0).f0)) = true := decide_eq_true c40
                  clear c40
                  have H' := zK H; clear H
                  go_wp2
                  repeat (go_end0; simp only []; try go_wp2)
                  go_meet
                  case rel => exact ⟨_, (true), (by first | rfl | (simp; done) | (simp [*]; done)), H', ⟨by have := HJ2.out; have := HK2.out; have := HJ13.out; first | omega | exact Nat.le_refl _⟩, ⟨zr HO_7⟩, ⟨zr HO_232001⟩, ⟨zb BK224⟩, ⟨zb BK231⟩, ⟨zo HB⟩⟩
                 ·rw [if_neg c40] at H
                  have c40b0 : decide (a1 ≤ ((rd_T68 t226 0).f0)) = false := decide_eq_false c40
                  clear c40
                  by_cases c41 : ((rd_T68 t226 0).f1) = 1
                  ·rw [if_pos c41] at H
                   have c41b0 : (((rd_T68 t226 0).f1) == 1) = true := beq_iff_eq.mpr c41
                   have c41b1 : (((rd_T68 t226 0).f1) != 1) = false := bne_eq_false_iff_eq.mpr c41
                   clear c41
                   have H' := zK H; clear H
                   go_wp2
                   repeat (go_end0; simp only []; try go_wp2)
                   go_meet
                   case rel => exact ⟨_, (false), (by first | rfl | (simp; done) | (simp [*]; done)), H', ⟨by have := HJ2.out; have := HK2.out; have := HJ13.out; first | omega | exact Nat.le_refl _⟩, ⟨zr HO_7⟩, ⟨zr HO_232001⟩, ⟨zb BK224⟩, ⟨zb BK231⟩, ⟨zo HB⟩⟩
                  ·rw [if_neg c41] at H
                   have c41b0 : (((rd_T68 t226 0).f1) == 1) = false := beq_eq_false_iff_ne.mpr c41
                   have c41b1 : (((rd_T68 t226 0).f1) != 1) = true := bne_iff_ne.mpr c41
                   have H' := zK H; clear H
                   go_wp2
                   repeat (go_end0; simp only []; try go_wp2)
                   go_meet
                   case rel => exact ⟨_, ((((rd_T68 t226 0).f1) != (-1))), (by first | rfl | (simp; done) | (simp [*]; done)), H', ⟨by have := HJ2.out; have := HK2.out; have := HJ13.out; first | omega | exact Nat.le_refl _⟩, ⟨zr HO_7⟩, ⟨zr HO_232001⟩, ⟨zb BK224⟩, ⟨zb BK231⟩, ⟨zo HB⟩⟩
               case rest =>
                clear HC37; try clear c1; try clear c2; try clear p2
                try clear q2; try clear hx2; try clear qi2; try clear c3
                try clear c4; try clear c4b0; try clear c5; try clear c6
                try clear c6b0; try clear c6b1; try clear p6; try clear c7
                try clear c7b0; try clear c7b1; try clear c10; try clear c10b0
                try clear c11; try clear c11b0; try clear c12; try clear c12b0
                try clear c19; try clear c22; try clear p22; try clear q22
                try clear hx22; try clear c23; try clear c23b0; try clear c23b1
                try clear p23; try clear q23; try clear hx23; try clear qi23
                try clear c24; try clear c24b0; try clear c24b1; try clear c25
                try clear c29; try clear c32; try clear c35; try clear c36
                try clear c36b0; try clear c36b1; try clear c38; try clear c39
                try clear c39b0; try clear c40; try clear c40b0; try clear c41
                try clear c41b0; try clear c41b1; try clear hcz16_0; try clear hcz16_1
                try clear hcz16_2; try clear hcz20_0; try clear hcz20_1; try clear hcz20_2
                try clear hcz26_0; try clear hcz26_1; try clear hcz26_2; try clear hcz28_0
                try clear hcz28_1; try clear hcz28_2; try clear hcz30_0; try clear hcz30_1
                try clear hcz30_2; try clear hcz33_0; try clear hcz33_1; try clear hcz33_2
                try clear hfz16_0; try clear hfz16_1; try clear hfz16_2; try clear hfz20_0
                try clear hfz20_1; try clear hfz20_2; try clear hfz26_0; try clear hfz26_1
                try clear hfz26_2; try clear hfz28_0; try clear hfz28_1; try clear hfz28_2
                try clear hfz30_0; try clear hfz30_1; try clear hfz30_2; try clear hfz33_0
                try clear hfz33_1; try clear hfz33_2; try clear hx223_0; try clear hx223_1
                try clear hx223_2; try clear hx233_0; try clear hx233_1; try clear hx234_0
                try clear hx234_1; try clear p2; try clear p22; try clear p223
                try clear p233; try clear p234; try clear q2; try clear q22; try clear q223; try clear q233; try clear q234
                obtain ⟨kq, x80_36, rfl, HA, HJ36, HO_7, HO_232001, BK224, BK231, HB⟩ := hcut
                cases kq with
                | zero => exact absurd HA.out (by simp [box_Bounds.j3])
                | succ kj36 =>
                 have H := HA.out; clear HA
                 simp only [box_Bounds.j3] at H
                 by_cases c42 : x80_36 = true
                 ·subst c42
                  have H1 : (box_Bounds.l0 kj36 a1 x7_2 l0 (l0.length : Int) (wrap64 (x31_2 + 1))) = some (r1, r2, r3) := by rw [if_pos rfl] at H; exact H
                  clear H; have H := H1; clear H1
                  have H' := zK H; clear H
                  go_wp2
                  repeat (go_end0; simp only []; try go_wp2)
                  go_roundg kj36
                  case measure => have := HJ2.out; have := HK2.out; have := HJ13.out; have := HJ36.out; omega
                  case rel => exact ⟨(x7_2), (wrap64 (x31_2 + 1)), (by first | rfl | (simp; done) | (simp [*]; done)), H', ⟨by have := HJ2.out; have := HK2.out; have := HJ13.out; have := HJ36.out; omega⟩, ⟨zr HO_7⟩, ⟨zo HB⟩⟩
                 ·replace c42 := Bool.eq_false_iff.mpr c42
                  subst c42
                  have H1 : ((num_Neg.f t225).bind fun bt235 => (if ((rd_T68 t226 0).f1) = 1 then (box_Bounds.j4 kj36 a1 x7_2 ((rd_T68 t226 0).f0) ((rd_T68 t226 0).f1) bt235.2 bt235.1 l0 (l0.length : Int) x31_2 t225 t226 t229) else (box_Bounds.j4 kj36 a1 x7_2 ((rd_T68 t226 0).f0) ((rd_T68 t226 0).f1) bt235.2 t225 l0 (l0.length : Int) x31_2 t225 t226 t229))) = some (r1, r2, r3) := by rw [if_neg (show ¬ (false = true) by decide)] at H; exact H
                  clear H; have H := H1
                  clear H1; replace H := Option.bind_eq_some_iff.mp H
                  obtain ⟨⟨t235, t236⟩, A430, H⟩ := H
                  replace H : (if ((rd_T68 t226 0).f1) = 1 then (box_Bounds.j4 kj36 a1 x7_2 ((rd_T68 t226 0).f0) ((rd_T68 t226 0).f1) t236 t235 l0 (l0.length : Int) x31_2 t225 t226 t229) else (box_Bounds.j4 kj36 a1 x7_2 ((rd_T68 t226 0).f0) ((rd_T68 t226 0).f1) t236 t225 l0 (l0.length : Int) x31_2 t225 t226 t229)) = some (r1, r2, r3) := H
                  have A43 := zK A430; clear A430
                  have HC44 := zK H; clear H
                  have hnb45 := NB231_224.out
                  have hnc45 := NB224_231.out
                  have hcz46_0 : wc.cell? ⟨gb231, 0, none⟩ = some (.int .i64 t225) := (blk_cell BK231.out 0).trans rfl
                  have hcz46_1 : wc.cell? ⟨gb231, 1, none⟩ = some (.slice (some ad233) t226.length co21) := (blk_cell BK231.out 1).trans rfl
                  have hcz46_2 : wc.cell? ⟨gb231, 2, none⟩ = some (.bool t229) := (blk_cell BK231.out 2).trans rfl
                  have hfz46_0 := blk_frozen BK231.out 0
                  have hfz46_1 := blk_frozen BK231.out 1
                  have hfz46_2 := blk_frozen BK231.out 2
                  go_upto_if 92 with (first | ((with_reducible refine zC (f := 61) rfl ?_); refine goesL_ (some 85) rfl rfl Try.func61 (by kernel_rfl) rfl #[.int .i64 t225] rfl (by (try simp only [List.map_toArray, List.map_cons, List.map_nil]); first | done | rfl | (simp only [List.length_drop, List.length_take]; rfl)) ?_; (with_reducible refine (num_Neg.calls t225 t235 t236 _ A43.out).mono ?_); rintro e w' ⟨rfl, ⟨nd, rfl⟩⟩; refine ⟨_, rfl, ?_⟩))
                  (try simp only [Act.put, zt, zz, zs])
                  go_cut [16] (fun v16 wc => ∃ (kq : Nat) (x16_43 : Int), v16 = .int .i64 x16_43 ∧ Aside0 (box_Bounds.j4 kq a1 x7_2 ((rd_T68 t226 0).f0) ((rd_T68 t226 0).f1) t236 x16_43 l0 (l0.length : Int) x31_2 t225 t226 t229 = some (r1, r2, r3)) ∧ Aside0 (kq ≤ kj36) ∧ Aside0 (Kd.R k117 117 wc w.heap.size (fun _ => True) v221 x7_2) ∧ Aside0 (Kd.R k68 68 wc w.heap.size (fun _ => True) (.slice (some ad233) t226.length co21) t226) ∧ Aside0 (wc.heap[gb224]? = some (.cells #[.int .i64 ((rd_T70 l0 x31_2).f0.f0), (.slice A223_1 ((rd_T70 l0 x31_2).f0.f1).length c223_1), .bool ((rd_T70 l0 x31_2).f1)] 70 (0, 0))) ∧ Aside0 (wc.heap[gb231]? = some (.cells #[.int .i64 t225, (.slice (some ad233) t226.length co21), .bool t229] 70 (0, 0))) ∧ Aside0 (Below w.heap.size w wc))
                  case first =>
                   have H := HC44.out; clear HC44
                   by_cases c47 : ((rd_T68 t226 0).f1) = 1
                   ·rw [if_pos c47] at H
                    have c47b0 : (((rd_T68 t226 0).f1) == 1) = true := beq_iff_eq.mpr c47
                    have c47b1 : (((rd_T68 t226 0).f1) != 1) = false := bne_eq_false_iff_eq.mpr c47
                    clear c47
                    (first | rw [c47b0] | (simp only [i64_w, i32_w]; rw [c47b0]) | skip)
                    have H' := zK H; clear H
                    go_wp2
                    repeat (go_end0; simp only []; try go_wp2)
                    go_meet
                    case rel => exact ⟨_, (t235), (by first | rfl | (simp; done) | (simp [*]; done)), H', ⟨by have := HJ2.out; have := HK2.out; have := HJ13.out; have := HJ36.out; first | omega | exact Nat.le_refl _⟩, ⟨zr HO_7⟩, ⟨zr HO_232001⟩, ⟨zb BK224⟩, ⟨zb BK231⟩, ⟨zo HB⟩⟩
                   ·rw [if_neg c47] at H
                    have c47b0 : (((rd_T68 t226 0).f1) == 1) = false := beq_eq_false_iff_ne.mpr c47
                    have c47b1 : (((rd_T68 t226 0).f1) != 1) = true := bne_iff_ne.mpr c47
                    (first | rw [c47b0] | (simp only [i64_w, i32_w]; rw [c47b0]) | skip)
                    have H' := zK H; clear H
                    go_wp2
                    repeat (go_end0; simp only []; try go_wp2)
                    go_meet
                    case rel => exact ⟨_, (t225), (by first | rfl | (simp; done) | (simp [*]; done)), H', ⟨by have := HJ2.out; have := HK2.out; have := HJ13.out; have := HJ36.out; first | omega | exact Nat.le_refl _⟩, ⟨zr HO_7⟩, ⟨zr HO_232001⟩, ⟨zb BK224⟩, ⟨zb BK231⟩, ⟨zo HB⟩⟩
                  case rest =>
                   clear HC44; try clear c1; try clear c2; try clear p2
                   try clear q2; try clear hx2; try clear qi2; try clear c3
                   try clear c4; try clear c4b0; try clear c5; try clear c6
                   try clear c6b0; try clear c6b1; try clear p6; try clear c7
                   try clear c7b0; try clear c7b1; try clear c10; try clear c10b0
                   try clear c11; try clear c11b0; try clear c12; try clear c12b0
                   try clear c19; try clear c22; try clear p22; try clear q22
                   try clear hx22; try clear c23; try clear c23b0; try clear c23b1
                   try clear p23; try clear q23; try clear hx23; try clear qi23
                   try clear c24; try clear c24b0; try clear c24b1; try clear c25
                   try clear c29; try clear c32; try clear c35; try clear c36
                   try clear c36b0; try clear c36b1; try clear c38; try clear c39
                   try clear c39b0; try clear c40; try clear c40b0; try clear c41
                   try clear c41b0; try clear c41b1; try clear c42; try clear c45
                   try clear c47; try clear c47b0; try clear c47b1; try clear hcz16_0
                   try clear hcz16_1; try clear hcz16_2; try clear hcz20_0; try clear hcz20_1
                   try clear hcz20_2; try clear hcz26_0; try clear hcz26_1; try clear hcz26_2
                   try clear hcz28_0; try clear hcz28_1; try clear hcz28_2; try clear hcz30_0
                   try clear hcz30_1; try clear hcz30_2; try clear hcz33_0; try clear hcz33_1
                   try clear hcz33_2; try clear hcz46_0; try clear hcz46_1; try clear hcz46_2
                   try clear hfz16_0; try clear hfz16_1; try clear hfz16_2; try clear hfz20_0
                   try clear hfz20_1; try clear hfz20_2; try clear hfz26_0; try clear hfz26_1
                   try clear hfz26_2; try clear hfz28_0; try clear hfz28_1; try clear hfz28_2
                   try clear hfz30_0; try clear hfz30_1; try clear hfz30_2; try clear hfz33_0
                   try clear hfz33_1; try clear hfz33_2; try clear hfz46_0; try clear hfz46_1
                   try clear hfz46_2; try clear hx223_0; try clear hx223_1; try clear hx223_2
                   try clear hx233_0; try clear hx233_1; try clear hx234_0; try clear hx234_1
                   try clear p2; try clear p22; try clear p223; try clear p23
                   try clear p233; try clear p234; try clear p6; try clear q2
                   try clear q22; try clear q223; try clear q23; try clear q233; try clear q234
                   obtain ⟨kq, x16_43, rfl, HA, HJ43, HO_7, HO_232001, BK224, BK231, HB⟩ := hcut
                   cases kq with
                   | zero => exact absurd HA.out (by simp [box_Bounds.j4])
                   | succ kj43 =>
                    have H := HA.out; clear HA
                    simp only [box_Bounds.j4] at H
                    have HC48 := zK H; clear H
                    go_upto_region 15 with (fail)
                    go_cut [99] (fun v99 wc => ∃ (kq : Nat) (x99_47 : Bool), v99 = .bool x99_47 ∧ Aside0 (box_Bounds.j5 kq a1 x7_2 ((rd_T68 t226 0).f0) ((rd_T68 t226 0).f1) x16_43 l0 (l0.length : Int) x31_2 x99_47 t225 t226 t229 = some (r1, r2, r3)) ∧ Aside0 (kq ≤ kj43) ∧ Aside0 (Kd.R k117 117 wc w.heap.size (fun _ => True) v221 x7_2) ∧ Aside0 (Kd.R k68 68 wc w.heap.size (fun _ => True) (.slice (some ad233) t226.length co21) t226) ∧ Aside0 (wc.heap[gb224]? = some (.cells #[.int .i64 ((rd_T70 l0 x31_2).f0.f0), (.slice A223_1 ((rd_T70 l0 x31_2).f0.f1).length c223_1), .bool ((rd_T70 l0 x31_2).f1)] 70 (0, 0))) ∧ Aside0 (wc.heap[gb231]? = some (.cells #[.int .i64 t225, (.slice (some ad233) t226.length co21), .bool t229] 70 (0, 0))) ∧ Aside0 (Below w.heap.size w wc))
                    case first =>
                     have H := HC48.out; clear HC48
                     by_cases c49 : ((rd_T68 t226 0).f1) = 1
                     ·rw [if_pos c49] at H
                      have c49b0 : (((rd_T68 t226 0).f1) == 1) = true := beq_iff_eq.mpr c49
                      have c49b1 : (((rd_T68 t226 0).f1) != 1) = false := bne_eq_false_iff_eq.mpr c49
                      clear c49
                      (first | rw [c49b0] | (simp only [i64_w, i32_w]; rw [c49b0]) | skip)
                      have H' := zK H; clear H
                      go_wp2
                      repeat (go_end0; simp only []; try go_wp2)
                      go_meet
                      case rel => exact ⟨_, (!t236), (by first | rfl | (simp; done) | (simp [*]; done)), H', ⟨by have := HJ2.out; have := HK2.out; have := HJ13.out; have := HJ36.out; have := HJ43.out; first | omega | exact Nat.le_refl _⟩, ⟨zr HO_7⟩, ⟨zr HO_232001⟩, ⟨zb BK224⟩, ⟨zb BK231⟩, ⟨zo HB⟩⟩
                     ·rw [if_neg c49] at H
                      have c49b0 : (((rd_T68 t226 0).f1) == 1) = false := beq_eq_false_iff_ne.mpr c49
                      have c49b1 : (((rd_T68 t226 0).f1) != 1) = true := bne_iff_ne.mpr c49
                      (first | rw [c49b0] | (simp only [i64_w, i32_w]; rw [c49b0]) | skip)
                      have H' := zK H; clear H
                      go_wp2
                      repeat (go_end0; simp only []; try go_wp2)
                      go_meet
                      case rel => exact ⟨_, (false), (by first | rfl | (simp; done) | (simp [*]; done)), H', ⟨by have := HJ2.out; have := HK2.out; have := HJ13.out; have := HJ36.out; have := HJ43.out; first | omega | exact Nat.le_refl _⟩, ⟨zr HO_7⟩, ⟨zr HO_232001⟩, ⟨zb BK224⟩, ⟨zb BK231⟩, ⟨zo HB⟩⟩
                    case rest =>
                     clear HC48; try clear c1; try clear c2; try clear p2
                     try clear q2; try clear hx2; try clear qi2; try clear c3
                     try clear c4; try clear c4b0; try clear c5; try clear c6
                     try clear c6b0; try clear c6b1; try clear p6; try clear c7
                     try clear c7b0; try clear c7b1; try clear c10; try clear c10b0
                     try clear c11; try clear c11b0; try clear c12; try clear c12b0
                     try clear c19; try clear c22; try clear p22; try clear q22
                     try clear hx22; try clear c23; try clear c23b0; try clear c23b1
                     try clear p23; try clear q23; try clear hx23; try clear qi23
                     try clear c24; try clear c24b0; try clear c24b1; try clear c25
                     try clear c29; try clear c32; try clear c35; try clear c36
                     try clear c36b0; try clear c36b1; try clear c38; try clear c39
                     try clear c39b0; try clear c40; try clear c40b0; try clear c41
                     try clear c41b0; try clear c41b1; try clear c42; try clear c45
                     try clear c47; try clear c47b0; try clear c47b1; try clear c49
                     try clear c49b0; try clear c49b1; try clear hcz16_0; try clear hcz16_1
                     try clear hcz16_2; try clear hcz20_0; try clear hcz20_1; try clear hcz20_2
                     try clear hcz26_0; try clear hcz26_1; try clear hcz26_2; try clear hcz28_0
                     try clear hcz28_1; try clear hcz28_2; try clear hcz30_0; try clear hcz30_1
                     try clear hcz30_2; try clear hcz33_0; try clear hcz33_1; try clear hcz33_2
                     try clear hcz46_0; try clear hcz46_1; try clear hcz46_2; try clear hfz16_0
                     try clear hfz16_1; try clear hfz16_2; try clear hfz20_0; try clear hfz20_1
                     try clear hfz20_2; try clear hfz26_0; try clear hfz26_1; try clear hfz26_2
                     try clear hfz28_0; try clear hfz28_1; try clear hfz28_2; try clear hfz30_0
                     try clear hfz30_1; try clear hfz30_2; try clear hfz33_0; try clear hfz33_1
                     try clear hfz33_2; try clear hfz46_0; try clear hfz46_1; try clear hfz46_2
                     try clear hx223_0; try clear hx223_1; try clear hx223_2; try clear hx233_0
                     try clear hx233_1; try clear hx234_0; try clear hx234_1; try clear p2
                     try clear p22; try clear p223; try clear p23; try clear p233
                     try clear p234; try clear p6; try clear q2; try clear q22
                     try clear q223; try clear q23; try clear q233; try clear q234
                     obtain ⟨kq, x99_47, rfl, HA, HJ47, HO_7, HO_232001, BK224, BK231, HB⟩ := hcut
                     cases kq with
                     | zero => exact absurd HA.out (by simp [box_Bounds.j5])
                     | succ kj47 =>
                      have H := HA.out; clear HA
                      simp only [box_Bounds.j5] at H
                      by_cases c50 : x99_47 = true
                      ·subst c50
                       have H1 : (box_Bounds.l0 kj47 a1 x7_2 l0 (l0.length : Int) (wrap64 (x31_2 + 1))) = some (r1, r2, r3) := by rw [if_pos rfl] at H; exact H
                       clear H; have H := H1; clear H1
                       have H' := zK H; clear H
                       go_wp2
                       repeat (go_end0; simp only []; try go_wp2)
                       go_roundg kj47
                       case measure => have := HJ2.out; have := HK2.out; have := HJ13.out; have := HJ36.out; have := HJ43.out; have := HJ47.out; omega
                       case rel => exact ⟨(x7_2), (wrap64 (x31_2 + 1)), (by first | rfl | (simp; done) | (simp [*]; done)), H', ⟨by have := HJ2.out; have := HK2.out; have := HJ13.out; have := HJ36.out; have := HJ43.out; have := HJ47.out; omega⟩, ⟨zr HO_7⟩, ⟨zo HB⟩⟩
                      ·replace c50 := Bool.eq_false_iff.mpr c50
                       subst c50
                       have H1 : (if t229 = true then (box_Bounds.j6 kj47 a1 x7_2 ((rd_T68 t226 0).f0) ((rd_T68 t226 0).f1) x16_43 l0 (l0.length : Int) x31_2 true t225 t226 t229) else (box_Bounds.j6 kj47 a1 x7_2 ((rd_T68 t226 0).f0) ((rd_T68 t226 0).f1) x16_43 l0 (l0.length : Int) x31_2 (((rd_T68 t226 0).f1) == 1) t225 t226 t229)) = some (r1, r2, r3) := by rw [if_neg (show ¬ (false = true) by decide)] at H; exact H
                       clear H; have H := H1; clear H1
                       have HC51 := zK H; clear H
                       go_upto_region 16 with (fail)
                       go_cut [105] (fun v105 wc => ∃ (kq : Nat) (x105_50 : Bool), v105 = .bool x105_50 ∧ Aside0 (box_Bounds.j6 kq a1 x7_2 ((rd_T68 t226 0).f0) ((rd_T68 t226 0).f1) x16_43 l0 (l0.length : Int) x31_2 x105_50 t225 t226 t229 = some (r1, r2, r3)) ∧ Aside0 (kq ≤ kj47) ∧ Aside0 (Kd.R k117 117 wc w.heap.size (fun _ => True) v221 x7_2) ∧ Aside0 (Kd.R k68 68 wc w.heap.size (fun _ => True) (.slice (some ad233) t226.length co21) t226) ∧ Aside0 (wc.heap[gb224]? = some (.cells #[.int .i64 ((rd_T70 l0 x31_2).f0.f0), (.slice A223_1 ((rd_T70 l0 x31_2).f0.f1).length c223_1), .bool ((rd_T70 l0 x31_2).f1)] 70 (0, 0))) ∧ Aside0 (wc.heap[gb231]? = some (.cells #[.int .i64 t225, (.slice (some ad233) t226.length co21), .bool t229] 70 (0, 0))) ∧ Aside0 (Below w.heap.size w wc))
                       case first =>
                        have H := HC51.out; clear HC51
                        by_cases c52 : t229 = true
                        ·subst c52
                         have H1 : (box_Bounds.j6 kj47 a1 x7_2 ((rd_T68 t226 0).f0) ((rd_T68 t226 0).f1) x16_43 l0 (l0.length : Int) x31_2 true t225 t226 true) = some (r1, r2, r3) := by rw [if_pos rfl] at H; exact H
                         clear H; have H := H1; clear H1
                         have H' := zK H; clear H
                         have hnb53 := NB231_224.out
                         have hnc53 := NB224_231.out
                         have hcz54_0 : wc.cell? ⟨gb231, 0, none⟩ = some (.int .i64 t225) := (blk_cell BK231.out 0).trans rfl
                         have hcz54_1 : wc.cell? ⟨gb231, 1, none⟩ = some (.slice (some ad233) t226.length co21) := (blk_cell BK231.out 1).trans rfl
                         have hcz54_2 : wc.cell? ⟨gb231, 2, none⟩ = some (.bool true) := (blk_cell BK231.out 2).trans rfl
                         have hfz54_0 := blk_frozen BK231.out 0
                         have hfz54_1 := blk_frozen BK231.out 1
                         have hfz54_2 := blk_frozen BK231.out 2
                         go_wp2
                         repeat (go_end0; simp only []; try go_wp2)
                         go_meet
                         case rel => exact ⟨_, (true), (by first | rfl | (simp; done) | (simp [*]; done)), H', ⟨by have := HJ2.out; have := HK2.out; have := HJ13.out; have := HJ36.out; have := HJ43.out; have := HJ47.out; first | omega | exact Nat.le_refl _⟩, ⟨zr HO_7⟩, ⟨zr HO_232001⟩, ⟨zb BK224⟩, ⟨zb BK231⟩, ⟨zo HB⟩⟩
                        ·replace c52 := Bool.eq_false_iff.mpr c52
                         subst c52
                         have H1 : (box_Bounds.j6 kj47 a1 x7_2 ((rd_T68 t226 0).f0) ((rd_T68 t226 0).f1) x16_43 l0 (l0.length : Int) x31_2 (((rd_T68 t226 0).f1) == 1) t225 t226 false) = some (r1, r2, r3) := by rw [if_neg (show ¬ (false = true) by decide)] at H; exact H
                         clear H; have H := H1; clear H1
                         have H' := zK H; clear H
                         have hnb55 := NB231_224.out
                         have hnc55 := NB224_231.out
                         have hcz56_0 : wc.cell? ⟨gb231, 0, none⟩ = some (.int .i64 t225) := (blk_cell BK231.out 0).trans rfl
                         have hcz56_1 : wc.cell? ⟨gb231, 1, none⟩ = some (.slice (some ad233) t226.length co21) := (blk_cell BK231.out 1).trans rfl
                         have hcz56_2 : wc.cell? ⟨gb231, 2, none⟩ = some (.bool false) := (blk_cell BK231.out 2).trans rfl
                         have hfz56_0 := blk_frozen BK231.out 0
                         have hfz56_1 := blk_frozen BK231.out 1
                         have hfz56_2 := blk_frozen BK231.out 2
                         go_wp2
                         repeat (go_end0; simp only []; try go_wp2)
                         go_meet
                         case rel => exact ⟨_, ((((rd_T68 t226 0).f1) == 1)), (by first | rfl | (simp; done) | (simp [*]; done)), H', ⟨by have := HJ2.out; have := HK2.out; have := HJ13.out; have := HJ36.out; have := HJ43.out; have := HJ47.out; first | omega | exact Nat.le_refl _⟩, ⟨zr HO_7⟩, ⟨zr HO_232001⟩, ⟨zb BK224⟩, ⟨zb BK231⟩, ⟨zo HB⟩⟩
                       case rest =>
                        clear HC51; try clear c1; try clear c2; try clear p2
                        try clear q2; try clear hx2; try clear qi2; try clear c3
                        try clear c4; try clear c4b0; try clear c5; try clear c6
                        try clear c6b0; try clear c6b1; try clear p6; try clear c7
                        try clear c7b0; try clear c7b1; try clear c10; try clear c10b0
                        try clear c11; try clear c11b0; try clear c12; try clear c12b0
                        try clear c19; try clear c22; try clear p22; try clear q22
                        try clear hx22; try clear c23; try clear c23b0; try clear c23b1
                        try clear p23; try clear q23; try clear hx23; try clear qi23
                        try clear c24; try clear c24b0; try clear c24b1; try clear c25
                        try clear c29; try clear c32; try clear c35; try clear c36
                        try clear c36b0; try clear c36b1; try clear c38; try clear c39
                        try clear c39b0; try clear c40; try clear c40b0; try clear c41
                        try clear c41b0; try clear c41b1; try clear c42; try clear c45
                        try clear c47; try clear c47b0; try clear c47b1; try clear c49
                        try clear c49b0; try clear c49b1; try clear c50; try clear c52
                        try clear c53; try clear c55; try clear hcz16_0; try clear hcz16_1
                        try clear hcz16_2; try clear hcz20_0; try clear hcz20_1; try clear hcz20_2
                        try clear hcz26_0; try clear hcz26_1; try clear hcz26_2; try clear hcz28_0
                        try clear hcz28_1; try clear hcz28_2; try clear hcz30_0; try clear hcz30_1
                        try clear hcz30_2; try clear hcz33_0; try clear hcz33_1; try clear hcz33_2
                        try clear hcz46_0; try clear hcz46_1; try clear hcz46_2; try clear hcz54_0
                        try clear hcz54_1; try clear hcz54_2; try clear hcz56_0; try clear hcz56_1
                        try clear hcz56_2; try clear hfz16_0; try clear hfz16_1; try clear hfz16_2
                        try clear hfz20_0; try clear hfz20_1; try clear hfz20_2; try clear hfz26_0
                        try clear hfz26_1; try clear hfz26_2; try clear hfz28_0; try clear hfz28_1
                        try clear hfz28_2; try clear hfz30_0; try clear hfz30_1; try clear hfz30_2
                        try clear hfz33_0; try clear hfz33_1; try clear hfz33_2; try clear hfz46_0
                        try clear hfz46_1; try clear hfz46_2; try clear hfz54_0; try clear hfz54_1
                        try clear hfz54_2; try clear hfz56_0; try clear hfz56_1; try clear hfz56_2
                        try clear hx223_0; try clear hx223_1; try clear hx223_2; try clear hx233_0
                        try clear hx233_1; try clear hx234_0; try clear hx234_1; try clear p2
                        try clear p22; try clear p223; try clear p23; try clear p233
                        try clear p234; try clear p6; try clear q2; try clear q22
                        try clear q223; try clear q23; try clear q233; try clear q234
                        obtain ⟨kq, x105_50, rfl, HA, HJ50, HO_7, HO_232001, BK224, BK231, HB⟩ := hcut
                        cases kq with
                        | zero => exact absurd HA.out (by simp [box_Bounds.j6])
                        | succ kj50 =>
                         have H := HA.out; clear HA
                         simp only [box_Bounds.j6] at H
                         have HC57 := zK H; clear H
                         go_upto_if 105 with (fail)
                         go_cut [] (fun wc => ∃ (kq : Nat) (x7_56 : List (S117)), Aside0 (box_Bounds.j7 kq a1 x7_56 ((rd_T68 t226 0).f0) ((rd_T68 t226 0).f1) x16_43 l0 (l0.length : Int) x31_2 t225 t226 t229 = some (r1, r2, r3)) ∧ Aside0 (kq ≤ kj50) ∧ Aside0 (Kd.R k117 117 wc w.heap.size (fun _ => True) v221 x7_56) ∧ Aside0 (Kd.R k68 68 wc w.heap.size (fun _ => True) (.slice (some ad233) t226.length co21) t226) ∧ Aside0 (wc.heap[gb224]? = some (.cells #[.int .i64 ((rd_T70 l0 x31_2).f0.f0), (.slice A223_1 ((rd_T70 l0 x31_2).f0.f1).length c223_1), .bool ((rd_T70 l0 x31_2).f1)] 70 (0, 0))) ∧ Aside0 (wc.heap[gb231]? = some (.cells #[.int .i64 t225, (.slice (some ad233) t226.length co21), .bool t229] 70 (0, 0))) ∧ Aside0 (Below w.heap.size w wc))
                         case first =>
                          have H := HC57.out; clear HC57
                          by_cases c58 : x105_50 = true
                          ·subst c58
                           have H1 : (if 0 ≤ ((rd_T68 t226 0).f0) then (if ((rd_T68 t226 0).f0) < (x7_2.length : Int) then (if ((rd_T117 x7_2 ((rd_T68 t226 0).f0)).f3 = true) then (if x16_43 < ((rd_T117 x7_2 ((rd_T68 t226 0).f0)).f1) then ((some (x7_2.set (((rd_T68 t226 0).f0) : Int).toNat (⟨(rd_T117 x7_2 ((rd_T68 t226 0).f0)).f0, x16_43, (rd_T117 x7_2 ((rd_T68 t226 0).f0)).f2, (rd_T117 x7_2 ((rd_T68 t226 0).f0)).f3⟩ : S117) : List (S117))).bind fun y238 => (box_Bounds.j7 kj50 a1 (y238.set (((rd_T68 t226 0).f0) : Int).toNat (⟨(rd_T117 y238 ((rd_T68 t226 0).f0)).f0, (rd_T117 y238 ((rd_T68 t226 0).f0)).f1, (rd_T117 y238 ((rd_T68 t226 0).f0)).f2, true⟩ : S117)) ((rd_T68 t226 0).f0) ((rd_T68 t226 0).f1) x16_43 l0 (l0.length : Int) x31_2 t225 t226 t229)) else (box_Bounds.j7 kj50 a1 x7_2 ((rd_T68 t226 0).f0) ((rd_T68 t226 0).f1) x16_43 l0 (l0.length : Int) x31_2 t225 t226 t229)) else ((some (x7_2.set (((rd_T68 t226 0).f0) : Int).toNat (⟨(rd_T117 x7_2 ((rd_T68 t226 0).f0)).f0, x16_43, (rd_T117 x7_2 ((rd_T68 t226 0).f0)).f2, (rd_T117 x7_2 ((rd_T68 t226 0).f0)).f3⟩ : S117) : List (S117))).bind fun y240 => (box_Bounds.j7 kj50 a1 (y240.set (((rd_T68 t226 0).f0) : Int).toNat (⟨(rd_T117 y240 ((rd_T68 t226 0).f0)).f0, (rd_T117 y240 ((rd_T68 t226 0).f0)).f1, (rd_T117 y240 ((rd_T68 t226 0).f0)).f2, true⟩ : S117)) ((rd_T68 t226 0).f0) ((rd_T68 t226 0).f1) x16_43 l0 (l0.length : Int) x31_2 t225 t226 t229))) else (none)) else (none)) = some (r1, r2, r3) := by rw [if_pos rfl] at H; exact H
                           clear H; have H := H1; clear H1
                           by_cases c59 : 0 ≤ ((rd_T68 t226 0).f0)
                           ·rw [if_pos c59] at H
                            have c59b0 : decide (0 ≤ ((rd_T68 t226 0).f0)) = true := decide_eq_true c59
                            clear c59
                            (first | rw [c59b0] | (simp only [i64_w, i32_w]; rw [c59b0]) | skip)
                            by_cases c60 : ((rd_T68 t226 0).f0) < (x7_2.length : Int)
                            ·rw [if_pos c60] at H
                             have c60b0 : decide (((rd_T68 t226 0).f0) < (x7_2.length : Int)) = true := decide_eq_true c60
                             clear c60
                             obtain ⟨bq61, hbq61⟩ : ∃ b_ : Bool, b_ = ((rd_T117 x7_2 ((rd_T68 t226 0).f0)).f3) := ⟨_, rfl⟩
                             replace H : (if (bq61 = true) then (if x16_43 < ((rd_T117 x7_2 ((rd_T68 t226 0).f0)).f1) then ((some (x7_2.set (((rd_T68 t226 0).f0) : Int).toNat (⟨(rd_T117 x7_2 ((rd_T68 t226 0).f0)).f0, x16_43, (rd_T117 x7_2 ((rd_T68 t226 0).f0)).f2, bq61⟩ : S117) : List (S117))).bind fun y238 => (box_Bounds.j7 kj50 a1 (y238.set (((rd_T68 t226 0).f0) : Int).toNat (⟨(rd_T117 y238 ((rd_T68 t226 0).f0)).f0, (rd_T117 y238 ((rd_T68 t226 0).f0)).f1, (rd_T117 y238 ((rd_T68 t226 0).f0)).f2, true⟩ : S117)) ((rd_T68 t226 0).f0) ((rd_T68 t226 0).f1) x16_43 l0 (l0.length : Int) x31_2 t225 t226 t229)) else (box_Bounds.j7 kj50 a1 x7_2 ((rd_T68 t226 0).f0) ((rd_T68 t226 0).f1) x16_43 l0 (l0.length : Int) x31_2 t225 t226 t229)) else ((some (x7_2.set (((rd_T68 t226 0).f0) : Int).toNat (⟨(rd_T117 x7_2 ((rd_T68 t226 0).f0)).f0, x16_43, (rd_T117 x7_2 ((rd_T68 t226 0).f0)).f2, bq61⟩ : S117) : List (S117))).bind fun y240 => (box_Bounds.j7 kj50 a1 (y240.set (((rd_T68 t226 0).f0) : Int).toNat (⟨(rd_T117 y240 ((rd_T68 t226 0).f0)).f0, (rd_T117 y240 ((rd_T68 t226 0).f0)).f1, (rd_T117 y240 ((rd_T68 t226 0).f0)).f2, true⟩ : S117)) ((rd_T68 t226 0).f0) ((rd_T68 t226 0).f1) x16_43 l0 (l0.length : Int) x31_2 t225 t226 t229))) = some (r1, r2, r3) := by rw [← hbq61] at H; exact H
                             have Nbq61 := zK hbq61; clear hbq61
                             by_cases c62 : (bq61 = true)
                             ·subst c62
                              have H1 : (if x16_43 < ((rd_T117 x7_2 ((rd_T68 t226 0).f0)).f1) then ((some (x7_2.set (((rd_T68 t226 0).f0) : Int).toNat (⟨(rd_T117 x7_2 ((rd_T68 t226 0).f0)).f0, x16_43, (rd_T117 x7_2 ((rd_T68 t226 0).f0)).f2, true⟩ : S117) : List (S117))).bind fun y238 => (box_Bounds.j7 kj50 a1 (y238.set (((rd_T68 t226 0).f0) : Int).toNat (⟨(rd_T117 y238 ((rd_T68 t226 0).f0)).f0, (rd_T117 y238 ((rd_T68 t226 0).f0)).f1, (rd_T117 y238 ((rd_T68 t226 0).f0)).f2, true⟩ : S117)) ((rd_T68 t226 0).f0) ((rd_T68 t226 0).f1) x16_43 l0 (l0.length : Int) x31_2 t225 t226 t229)) else (box_Bounds.j7 kj50 a1 x7_2 ((rd_T68 t226 0).f0) ((rd_T68 t226 0).f1) x16_43 l0 (l0.length : Int) x31_2 t225 t226 t229)) = some (r1, r2, r3) := by rw [if_pos rfl] at H; exact H
                              clear H; have H := H1; clear H1
                              by_cases c63 : x16_43 < ((rd_T117 x7_2 ((rd_T68 t226 0).f0)).f1)
                              ·rw [if_pos c63] at H
                               have c63b0 : decide (x16_43 < ((rd_T117 x7_2 ((rd_T68 t226 0).f0)).f1)) = true := decide_eq_true c63
                               clear c63
                               obtain ⟨y238, hy238⟩ : ∃ y_ : List (S117), y_ = (x7_2.set (((rd_T68 t226 0).f0) : Int).toNat (⟨(rd_T117 x7_2 ((rd_T68 t226 0).f0)).f0, x16_43, (rd_T117 x7_2 ((rd_T68 t226 0).f0)).f2, true⟩ : S117)) := ⟨_, rfl⟩
                               replace H : (box_Bounds.j7 kj50 a1 (y238.set (((rd_T68 t226 0).f0) : Int).toNat (⟨(rd_T117 y238 ((rd_T68 t226 0).f0)).f0, (rd_T117 y238 ((rd_T68 t226 0).f0)).f1, (rd_T117 y238 ((rd_T68 t226 0).f0)).f2, true⟩ : S117)) ((rd_T68 t226 0).f0) ((rd_T68 t226 0).f1) x16_43 l0 (l0.length : Int) x31_2 t225 t226 t229) = some (r1, r2, r3) := by first | (rw [hy238]; with_reducible exact H) | (have H2_ := (Option.bind_some _ _).symm.trans H; rw [hy238]; with_reducible exact H2_) | (have H2_ := (Option.bind_some _ _).symm.trans H; with_reducible exact H2_) | with_reducible exact H | (rw [hy238]; exact H) | exact H
                               have Ny238 := zK hy238; clear hy238
                               obtain ⟨y239, hy239⟩ : ∃ y_ : List (S117), y_ = (y238.set (((rd_T68 t226 0).f0) : Int).toNat (⟨(rd_T117 y238 ((rd_T68 t226 0).f0)).f0, (rd_T117 y238 ((rd_T68 t226 0).f0)).f1, (rd_T117 y238 ((rd_T68 t226 0).f0)).f2, true⟩ : S117)) := ⟨_, rfl⟩
                               replace H : (box_Bounds.j7 kj50 a1 y239 ((rd_T68 t226 0).f0) ((rd_T68 t226 0).f1) x16_43 l0 (l0.length : Int) x31_2 t225 t226 t229) = some (r1, r2, r3) := by first | (rw [hy239]; with_reducible exact H) | (have H2_ := (Option.bind_some _ _).symm.trans H; rw [hy239]; with_reducible exact H2_) | (have H2_ := (Option.bind_some _ _).symm.trans H; with_reducible exact H2_) | with_reducible exact H | (rw [hy239]; exact H) | exact H
                               have Ny239 := zK hy239; clear hy239
                               have H' := zK H; clear H
                               obtain ⟨Ao65, co65, eo65⟩ := Kd.R_slice HO_7.out
                               subst eo65
                               have p237 : 0 ≤ (((rd_T68 t226 0).f0) : Int) := of_decide_eq_true (by first | (with_reducible assumption) | assumption)
                               have q237 : ((rd_T68 t226 0).f0) < (x7_2.length : Int) := of_decide_eq_true (by first | (with_reducible assumption) | assumption)
                               obtain ⟨ad237, e237, hx237_0, hx237_1, hx237_2, hx237_3⟩ := at_T117 (Kd.R_reads' HO_7.out).2.2 ((rd_T68 t226 0).f0) p237 q237
                               (try rw [← Nbq61.out] at hx237_2)
                               (try rw [← Nbq61.out] at A13)
                               (try rw [← Nbq61.out] at A22)
                               (try rw [← Nbq61.out] at A43)
                               (try rw [← Nbq61.out] at hx237_3)
                               (try rw [← Nbq61.out] at A13)
                               (try rw [← Nbq61.out] at A22)
                               (try rw [← Nbq61.out] at A43)
                               cases e237
                               replace p237 := eq_true p237
                               replace q237 := eq_true q237
                               have p64 : 0 ≤ (((rd_T68 t226 0).f0) : Int) := of_decide_eq_true (by first | (with_reducible assumption) | assumption)
                               have q64 : (((rd_T68 t226 0).f0) : Int) < ((x7_2.length : Int) : Int) := of_decide_eq_true (by first | (with_reducible assumption) | assumption)
                               obtain ⟨go64, co64, eo64, gb64, gl64, cl64, HG64⟩ := Kd.R_form HO_7.out (by omega)
                               (first | cases eo64 | (injection eo64 with ea_ en_ ec_; (first | subst ea_ | (injection ea_ with ea_; subst ea_)); subst ec_; clear en_))
                               have GB64 := zK gb64
                               have GG64 := zK HG64; clear gb64 gl64 HG64
                               (first | simp only [add_plain] at hx237_0 | skip)
                               (first | simp only [add_plain] at hx237_1 | skip)
                               (first | simp only [add_plain] at hx237_2 | skip)
                               (first | simp only [add_plain] at hx237_3 | skip)
                               obtain ⟨ce64, hcl64, hM64, hcc64, hfr64⟩ := Kd.R_elem HO_7.out z117 (((rd_T68 t226 0).f0) : Int) p64 q64
                               obtain rfl := k117_openM hM64
                               have hx64_0 : wc.cell? ⟨go64, (((rd_T68 t226 0).f0) : Int).toNat * 4, none⟩ = some (.int .i64 ((rd_T117 x7_2 ((rd_T68 t226 0).f0)).f0)) := hcc64 0 _ rfl
                               have hx64_1 : wc.cell? ⟨go64, (((rd_T68 t226 0).f0) : Int).toNat * 4 + 1, none⟩ = some (.int .i64 ((rd_T117 x7_2 ((rd_T68 t226 0).f0)).f1)) := hcc64 1 _ rfl
                               have hx64_2 : wc.cell? ⟨go64, (((rd_T68 t226 0).f0) : Int).toNat * 4 + 2, none⟩ = some (.bool ((rd_T117 x7_2 ((rd_T68 t226 0).f0)).f2)) := hcc64 2 _ rfl
                               have hx64_3 : wc.cell? ⟨go64, (((rd_T68 t226 0).f0) : Int).toNat * 4 + 3, none⟩ = some (.bool ((rd_T117 x7_2 ((rd_T68 t226 0).f0)).f3)) := hcc64 3 _ rfl
                               have hf64_0 : wc.frozen? ⟨go64, (((rd_T68 t226 0).f0) : Int).toNat * 4, none⟩ = false := hfr64 0
                               have hf64_1 : wc.frozen? ⟨go64, (((rd_T68 t226 0).f0) : Int).toNat * 4 + 1, none⟩ = false := hfr64 1
                               have hf64_2 : wc.frozen? ⟨go64, (((rd_T68 t226 0).f0) : Int).toNat * 4 + 2, none⟩ = false := hfr64 2
                               have hf64_3 : wc.frozen? ⟨go64, (((rd_T68 t226 0).f0) : Int).toNat * 4 + 3, none⟩ = false := hfr64 3
                               clear hcl64 hcc64 hfr64 hM64
                               replace p64 := eq_true p64
                               replace q64 := eq_true q64
                               have HX66 := zK (show Kd.R k117 117 wc w.heap.size (fun _ => True) (.slice (some ⟨go64, 0, none⟩) x7_2.length co65) x7_2 from (zr HO_7))
                               obtain ⟨ce66, hcl66, hM66, hcc66, hfr66⟩ := Kd.R_elem HX66.out z117 (((rd_T68 t226 0).f0) : Int) (of_decide_eq_true (by first | (with_reducible assumption) | assumption)) (by have h_ : (((rd_T68 t226 0).f0) : Int) < ((x7_2.length : Int) : Int) := of_decide_eq_true (by first | (with_reducible assumption) | assumption); first | exact h_ | (have e_ := (Kd.R_reads' HO_7.out).1; omega) | simpa using h_)
                               obtain rfl := k117_openM hM66
                               have HP66 := Kd.R_seg HX66.out (((rd_T68 t226 0).f0) : Int) (of_decide_eq_true (by first | (with_reducible assumption) | assumption)) (by have h_ : (((rd_T68 t226 0).f0) : Int) < ((x7_2.length : Int) : Int) := of_decide_eq_true (by first | (with_reducible assumption) | assumption); first | exact h_ | (have e_ := (Kd.R_reads' HO_7.out).1; omega) | simpa using h_) (seg := [.int .i64 x16_43]) (j := 1) hcl66 hcc66 (show 2 ≤ 4 from by decide) (x' := (⟨(rd_T117 x7_2 ((rd_T68 t226 0).f0)).f0, x16_43, (rd_T117 x7_2 ((rd_T68 t226 0).f0)).f2, true⟩ : S117)) (by first | exact k117_mkM _ _ _ (⟨(rd_T117 x7_2 ((rd_T68 t226 0).f0)).f0, x16_43, (rd_T117 x7_2 ((rd_T68 t226 0).f0)).f2, true⟩ : S117) | (have e_ := Nbq61.out; unfold rd_T117 at e_; rw [← e_]; exact k117_mkM _ _ _ (⟨(rd_T117 x7_2 ((rd_T68 t226 0).f0)).f0, x16_43, (rd_T117 x7_2 ((rd_T68 t226 0).f0)).f2, true⟩ : S117))) (fun _ hk => hk)
                               have hx66_1 := hcc66 1 _ rfl
                               (try simp only [show (k117).sz = 4 from rfl, Nat.mul_one, Nat.add_zero] at hx66_1)
                               have hf66_1 := hfr66 1
                               (try simp only [show (k117).sz = 4 from rfl, Nat.mul_one, Nat.add_zero] at hf66_1)
                               clear hcl66 hcc66 hfr66 hM66
                               go_wp2_with (first | (go_at_call 75; go_enter Try.func75, Try.ntmps75) | (go_at_call 76; go_enter Try.func76, Try.ntmps76) | ((with_reducible refine gate_store (t := 2) (p := 21) rfl ?_); refine store_event (t := 2) (p := 21) (v := ?vo_w67) (w1 := (wc.setCell ⟨go64, (((rd_T68 t226 0).f0) : Int).toNat * 4 + 1, none⟩ (.int .i64 x16_43))) ?hg ?ho ?hn ?hr ?_; (case ho => rfl); (case hg => rfl); (case hn => rfl); (case hr => first | (go_simp; done) | (go_simp; rfl)); intro w67 hw; have hg : wc.grownBy w67 (some go64) := (by rw [hw]; exact HP66.2); have hp_ : Kd.R k117 117 w67 w.heap.size (fun _ => True) (.slice (some ⟨go64, 0, none⟩) x7_2.length co65) y238 := (by rw [hw, Ny238.out]; exact HP66.1); clear HP66; replace HO_232001 := zK (Kd.R_over' (v := (.slice (some ⟨go64, 0, none⟩) x7_2.length co65)) (zr HO_232001) (Kd.R_typed HO_7.out) (by decide) hg); replace BK224 := zK (blk_grown (g := gb224) (o := .cells #[.int .i64 ((rd_T70 l0 x31_2).f0.f0), .slice A223_1 ((rd_T70 l0 x31_2).f0.f1).length c223_1, .bool ((rd_T70 l0 x31_2).f1)] 70 (0, 0)) (zb BK224) hg (Kd.R_ne HO_7.out BK224.out (by decide))); replace BK231 := zK (blk_grown (g := gb231) (o := .cells #[.int .i64 t225, .slice (some ad233) t226.length co21, .bool t229] 70 (0, 0)) (zb BK231) hg (Kd.R_ne HO_7.out BK231.out (by decide))); replace HO_7 := zK (hp_); replace HB := zK ((by rw [hw]; exact yS (HB.out) GB64.out : Below w.heap.size w w67)); clear hg hw hp_; have HX68 := zK (show Kd.R k117 117 w67 w.heap.size (fun _ => True) (.slice (some ⟨go64, 0, none⟩) x7_2.length co65) y238 from (zr HO_7)); obtain ⟨ce68, hcl68, hM68, hcc68, hfr68⟩ := Kd.R_elem HX68.out z117 (((rd_T68 t226 0).f0) : Int) (of_decide_eq_true (by first | (with_reducible assumption) | assumption)) (by have h_ : (((rd_T68 t226 0).f0) : Int) < ((x7_2.length : Int) : Int) := of_decide_eq_true (by first | (with_reducible assumption) | assumption); first | exact h_ | (have e_ := (Kd.R_reads' HO_7.out).1; omega) | simpa using h_); obtain rfl := k117_openM hM68; have HP68 := Kd.R_seg HX68.out (((rd_T68 t226 0).f0) : Int) (of_decide_eq_true (by first | (with_reducible assumption) | assumption)) (by have h_ : (((rd_T68 t226 0).f0) : Int) < ((x7_2.length : Int) : Int) := of_decide_eq_true (by first | (with_reducible assumption) | assumption); first | exact h_ | (have e_ := (Kd.R_reads' HO_7.out).1; omega) | simpa using h_) (seg := [.bool true]) (j := 3) hcl68 hcc68 (show 4 ≤ 4 from by decide) (x' := (⟨(rd_T117 y238 ((rd_T68 t226 0).f0)).f0, (rd_T117 y238 ((rd_T68 t226 0).f0)).f1, (rd_T117 y238 ((rd_T68 t226 0).f0)).f2, true⟩ : S117)) (k117_mkM _ _ _ (⟨(rd_T117 y238 ((rd_T68 t226 0).f0)).f0, (rd_T117 y238 ((rd_T68 t226 0).f0)).f1, (rd_T117 y238 ((rd_T68 t226 0).f0)).f2, true⟩ : S117) ) (fun _ hk => hk); have hx68_3 := hcc68 3 _ rfl; (try simp only [show (k117).sz = 4 from rfl, Nat.mul_one, Nat.add_zero] at hx68_3); have hf68_3 := hfr68 3; (try simp only [show (k117).sz = 4 from rfl, Nat.mul_one, Nat.add_zero] at hf68_3); clear hcl68 hcc68 hfr68 hM68) | ((with_reducible refine gate_store (t := 4) (p := 23) rfl ?_); refine store_event (t := 4) (p := 23) (v := ?vo_w69) (w1 := (w67.setCell ⟨go64, (((rd_T68 t226 0).f0) : Int).toNat * 4 + 3, none⟩ (.bool true))) ?hg ?ho ?hn ?hr ?_; (case ho => rfl); (case hg => rfl); (case hn => rfl); (case hr => first | (go_simp; done) | (go_simp; rfl)); intro w69 hw; have hg : w67.grownBy w69 (some go64) := (by rw [hw]; exact HP68.2); have hp_ : Kd.R k117 117 w69 w.heap.size (fun _ => True) (.slice (some ⟨go64, 0, none⟩) x7_2.length co65) y239 := (by rw [hw, Ny239.out]; exact HP68.1); clear HP68; replace HO_232001 := zK (Kd.R_over' (v := (.slice (some ⟨go64, 0, none⟩) x7_2.length co65)) (zr HO_232001) (Kd.R_typed HO_7.out) (by decide) hg); replace BK224 := zK (blk_grown (g := gb224) (o := .cells #[.int .i64 ((rd_T70 l0 x31_2).f0.f0), .slice A223_1 ((rd_T70 l0 x31_2).f0.f1).length c223_1, .bool ((rd_T70 l0 x31_2).f1)] 70 (0, 0)) (zb BK224) hg (Kd.R_ne HO_7.out BK224.out (by decide))); replace BK231 := zK (blk_grown (g := gb231) (o := .cells #[.int .i64 t225, .slice (some ad233) t226.length co21, .bool t229] 70 (0, 0)) (zb BK231) hg (Kd.R_ne HO_7.out BK231.out (by decide))); replace HO_7 := zK (hp_); replace HB := zK ((by rw [hw]; exact yS (HB.out) GB64.out : Below w.heap.size w w69)); clear hg hw hp_))
                               repeat (go_end0; simp only []; try go_wp2)
                               go_meet
                               case rel => (try rw [← Nbq61.out]); exact ⟨_, (y239), H', ⟨by have := HJ2.out; have := HK2.out; have := HJ13.out; have := HJ36.out; have := HJ43.out; have := HJ47.out; have := HJ50.out; first | omega | exact Nat.le_refl _⟩, ⟨zr HO_7⟩, ⟨zr HO_232001⟩, ⟨zb BK224⟩, ⟨zb BK231⟩, ⟨zo HB⟩⟩
                              ·rw [if_neg c63] at H
                               have c63b0 : decide (x16_43 < ((rd_T117 x7_2 ((rd_T68 t226 0).f0)).f1)) = false := decide_eq_false c63
                               clear c63
                               have H' := zK H; clear H
                               obtain ⟨Ao70, co70, eo70⟩ := Kd.R_slice HO_7.out
                               subst eo70
                               have p237 : 0 ≤ (((rd_T68 t226 0).f0) : Int) := of_decide_eq_true (by first | (with_reducible assumption) | assumption)
                               have q237 : ((rd_T68 t226 0).f0) < (x7_2.length : Int) := of_decide_eq_true (by first | (with_reducible assumption) | assumption)
                               obtain ⟨ad237, e237, hx237_0, hx237_1, hx237_2, hx237_3⟩ := at_T117 (Kd.R_reads' HO_7.out).2.2 ((rd_T68 t226 0).f0) p237 q237
                               (try rw [← Nbq61.out] at hx237_2)
                               (try rw [← Nbq61.out] at A13)
                               (try rw [← Nbq61.out] at A22)
                               (try rw [← Nbq61.out] at A43)
                               (try rw [← Nbq61.out] at hx237_3)
                               (try rw [← Nbq61.out] at A13)
                               (try rw [← Nbq61.out] at A22)
                               (try rw [← Nbq61.out] at A43)
                               cases e237
                               replace p237 := eq_true p237
                               replace q237 := eq_true q237
                               go_wp2
                               repeat (go_end0; simp only []; try go_wp2)
                               go_meet
                               case rel => (try rw [← Nbq61.out]); exact ⟨_, (x7_2), H', ⟨by have := HJ2.out; have := HK2.out; have := HJ13.out; have := HJ36.out; have := HJ43.out; have := HJ47.out; have := HJ50.out; first | omega | exact Nat.le_refl _⟩, ⟨zr HO_7⟩, ⟨zr HO_232001⟩, ⟨zb BK224⟩, ⟨zb BK231⟩, ⟨zo HB⟩⟩
                             ·replace c62 := Bool.eq_false_iff.mpr c62
                              subst c62
                              have H1 : ((some (x7_2.set (((rd_T68 t226 0).f0) : Int).toNat (⟨(rd_T117 x7_2 ((rd_T68 t226 0).f0)).f0, x16_43, (rd_T117 x7_2 ((rd_T68 t226 0).f0)).f2, false⟩ : S117) : List (S117))).bind fun y240 => (box_Bounds.j7 kj50 a1 (y240.set (((rd_T68 t226 0).f0) : Int).toNat (⟨(rd_T117 y240 ((rd_T68 t226 0).f0)).f0, (rd_T117 y240 ((rd_T68 t226 0).f0)).f1, (rd_T117 y240 ((rd_T68 t226 0).f0)).f2, true⟩ : S117)) ((rd_T68 t226 0).f0) ((rd_T68 t226 0).f1) x16_43 l0 (l0.length : Int) x31_2 t225 t226 t229)) = some (r1, r2, r3) := by rw [if_neg (show ¬ (false = true) by decide)] at H; exact H
                              clear H; have H := H1; clear H1
                              obtain ⟨y240, hy240⟩ : ∃ y_ : List (S117), y_ = (x7_2.set (((rd_T68 t226 0).f0) : Int).toNat (⟨(rd_T117 x7_2 ((rd_T68 t226 0).f0)).f0, x16_43, (rd_T117 x7_2 ((rd_T68 t226 0).f0)).f2, false⟩ : S117)) := ⟨_, rfl⟩
                              replace H : (box_Bounds.j7 kj50 a1 (y240.set (((rd_T68 t226 0).f0) : Int).toNat (⟨(rd_T117 y240 ((rd_T68 t226 0).f0)).f0, (rd_T117 y240 ((rd_T68 t226 0).f0)).f1, (rd_T117 y240 ((rd_T68 t226 0).f0)).f2, true⟩ : S117)) ((rd_T68 t226 0).f0) ((rd_T68 t226 0).f1) x16_43 l0 (l0.length : Int) x31_2 t225 t226 t229) = some (r1, r2, r3) := by first | (rw [hy240]; with_reducible exact H) | (have H2_ := (Option.bind_some _ _).symm.trans H; rw [hy240]; with_reducible exact H2_) | (have H2_ := (Option.bind_some _ _).symm.trans H; with_reducible exact H2_) | with_reducible exact H | (rw [hy240]; exact H) | exact H
                              have Ny240 := zK hy240; clear hy240
                              obtain ⟨y241, hy241⟩ : ∃ y_ : List (S117), y_ = (y240.set (((rd_T68 t226 0).f0) : Int).toNat (⟨(rd_T117 y240 ((rd_T68 t226 0).f0)).f0, (rd_T117 y240 ((rd_T68 t226 0).f0)).f1, (rd_T117 y240 ((rd_T68 t226 0).f0)).f2, true⟩ : S117)) := ⟨_, rfl⟩
                              replace H : (box_Bounds.j7 kj50 a1 y241 ((rd_T68 t226 0).f0) ((rd_T68 t226 0).f1) x16_43 l0 (l0.length : Int) x31_2 t225 t226 t229) = some (r1, r2, r3) := by first | (rw [hy241]; with_reducible exact H) | (have H2_ := (Option.bind_some _ _).symm.trans H; rw [hy241]; with_reducible exact H2_) | (have H2_ := (Option.bind_some _ _).symm.trans H; with_reducible exact H2_) | with_reducible exact H | (rw [hy241]; exact H) | exact H
                              have Ny241 := zK hy241; clear hy241
                              have H' := zK H; clear H
                              obtain ⟨Ao72, co72, eo72⟩ := Kd.R_slice HO_7.out
                              subst eo72
                              have p237 : 0 ≤ (((rd_T68 t226 0).f0) : Int) := of_decide_eq_true (by first | (with_reducible assumption) | assumption)
                              have q237 : ((rd_T68 t226 0).f0) < (x7_2.length : Int) := of_decide_eq_true (by first | (with_reducible assumption) | assumption)
                              obtain ⟨ad237, e237, hx237_0, hx237_1, hx237_2, hx237_3⟩ := at_T117 (Kd.R_reads' HO_7.out).2.2 ((rd_T68 t226 0).f0) p237 q237
                              (try rw [← Nbq61.out] at hx237_2)
                              (try rw [← Nbq61.out] at A13)
                              (try rw [← Nbq61.out] at A22)
                              (try rw [← Nbq61.out] at A43)
                              (try rw [← Nbq61.out] at hx237_3)
                              (try rw [← Nbq61.out] at A13)
                              (try rw [← Nbq61.out] at A22)
                              (try rw [← Nbq61.out] at A43)
                              cases e237
                              replace p237 := eq_true p237
                              replace q237 := eq_true q237
                              have p71 : 0 ≤ (((rd_T68 t226 0).f0) : Int) := of_decide_eq_true (by first | (with_reducible assumption) | assumption)
                              have q71 : (((rd_T68 t226 0).f0) : Int) < ((x7_2.length : Int) : Int) := of_decide_eq_true (by first | (with_reducible assumption) | assumption)
                              obtain ⟨go71, co71, eo71, gb71, gl71, cl71, HG71⟩ := Kd.R_form HO_7.out (by omega)
                              (first | cases eo71 | (injection eo71 with ea_ en_ ec_; (first | subst ea_ | (injection ea_ with ea_; subst ea_)); subst ec_; clear en_))
                              have GB71 := zK gb71
                              have GG71 := zK HG71; clear gb71 gl71 HG71
                              (first | simp only [add_plain] at hx237_0 | skip)
                              (first | simp only [add_plain] at hx237_1 | skip)
                              (first | simp only [add_plain] at hx237_2 | skip)
                              (first | simp only [add_plain] at hx237_3 | skip)
                              obtain ⟨ce71, hcl71, hM71, hcc71, hfr71⟩ := Kd.R_elem HO_7.out z117 (((rd_T68 t226 0).f0) : Int) p71 q71
                              obtain rfl := k117_openM hM71
                              have hx71_0 : wc.cell? ⟨go71, (((rd_T68 t226 0).f0) : Int).toNat * 4, none⟩ = some (.int .i64 ((rd_T117 x7_2 ((rd_T68 t226 0).f0)).f0)) := hcc71 0 _ rfl
                              have hx71_1 : wc.cell? ⟨go71, (((rd_T68 t226 0).f0) : Int).toNat * 4 + 1, none⟩ = some (.int .i64 ((rd_T117 x7_2 ((rd_T68 t226 0).f0)).f1)) := hcc71 1 _ rfl
                              have hx71_2 : wc.cell? ⟨go71, (((rd_T68 t226 0).f0) : Int).toNat * 4 + 2, none⟩ = some (.bool ((rd_T117 x7_2 ((rd_T68 t226 0).f0)).f2)) := hcc71 2 _ rfl
                              have hx71_3 : wc.cell? ⟨go71, (((rd_T68 t226 0).f0) : Int).toNat * 4 + 3, none⟩ = some (.bool ((rd_T117 x7_2 ((rd_T68 t226 0).f0)).f3)) := hcc71 3 _ rfl
                              have hf71_0 : wc.frozen? ⟨go71, (((rd_T68 t226 0).f0) : Int).toNat * 4, none⟩ = false := hfr71 0
                              have hf71_1 : wc.frozen? ⟨go71, (((rd_T68 t226 0).f0) : Int).toNat * 4 + 1, none⟩ = false := hfr71 1
                              have hf71_2 : wc.frozen? ⟨go71, (((rd_T68 t226 0).f0) : Int).toNat * 4 + 2, none⟩ = false := hfr71 2
                              have hf71_3 : wc.frozen? ⟨go71, (((rd_T68 t226 0).f0) : Int).toNat * 4 + 3, none⟩ = false := hfr71 3
                              clear hcl71 hcc71 hfr71 hM71
                              replace p71 := eq_true p71
                              replace q71 := eq_true q71
                              have HX73 := zK (show Kd.R k117 117 wc w.heap.size (fun _ => True) (.slice (some ⟨go71, 0, none⟩) x7_2.length co72) x7_2 from (zr HO_7))
                              obtain ⟨ce73, hcl73, hM73, hcc73, hfr73⟩ := Kd.R_elem HX73.out z117 (((rd_T68 t226 0).f0) : Int) (of_decide_eq_true (by first | (with_reducible assumption) | assumption)) (by have h_ : (((rd_T68 t226 0).f0) : Int) < ((x7_2.length : Int) : Int) := of_decide_eq_true (by first | (with_reducible assumption) | assumption); first | exact h_ | (have e_ := (Kd.R_reads' HO_7.out).1; omega) | simpa using h_)
                              obtain rfl := k117_openM hM73
                              have HP73 := Kd.R_seg HX73.out (((rd_T68 t226 0).f0) : Int) (of_decide_eq_true (by first | (with_reducible assumption) | assumption)) (by have h_ : (((rd_T68 t226 0).f0) : Int) < ((x7_2.length : Int) : Int) := of_decide_eq_true (by first | (with_reducible assumption) | assumption); first | exact h_ | (have e_ := (Kd.R_reads' HO_7.out).1; omega) | simpa using h_) (seg := [.int .i64 x16_43]) (j := 1) hcl73 hcc73 (show 2 ≤ 4 from by decide) (x' := (⟨(rd_T117 x7_2 ((rd_T68 t226 0).f0)).f0, x16_43, (rd_T117 x7_2 ((rd_T68 t226 0).f0)).f2, false⟩ : S117)) (by first | exact k117_mkM _ _ _ (⟨(rd_T117 x7_2 ((rd_T68 t226 0).f0)).f0, x16_43, (rd_T117 x7_2 ((rd_T68 t226 0).f0)).f2, false⟩ : S117) | (have e_ := Nbq61.out; unfold rd_T117 at e_; rw [← e_]; exact k117_mkM _ _ _ (⟨(rd_T117 x7_2 ((rd_T68 t226 0).f0)).f0, x16_43, (rd_T117 x7_2 ((rd_T68 t226 0).f0)).f2, false⟩ : S117))) (fun _ hk => hk)
                              have hx73_1 := hcc73 1 _ rfl
                              (try simp only [show (k117).sz = 4 from rfl, Nat.mul_one, Nat.add_zero] at hx73_1)
                              have hf73_1 := hfr73 1
                              (try simp only [show (k117).sz = 4 from rfl, Nat.mul_one, Nat.add_zero] at hf73_1)
                              clear hcl73 hcc73 hfr73 hM73
                              go_wp2_with (first | (go_at_call 75; go_enter Try.func75, Try.ntmps75) | (go_at_call 76; go_enter Try.func76, Try.ntmps76) | ((with_reducible refine gate_store (t := 2) (p := 21) rfl ?_); refine store_event (t := 2) (p := 21) (v := ?vo_w74) (w1 := (wc.setCell ⟨go71, (((rd_T68 t226 0).f0) : Int).toNat * 4 + 1, none⟩ (.int .i64 x16_43))) ?hg ?ho ?hn ?hr ?_; (case ho => rfl); (case hg => rfl); (case hn => rfl); (case hr => first | (go_simp; done) | (go_simp; rfl)); intro w74 hw; have hg : wc.grownBy w74 (some go71) := (by rw [hw]; exact HP73.2); have hp_ : Kd.R k117 117 w74 w.heap.size (fun _ => True) (.slice (some ⟨go71, 0, none⟩) x7_2.length co72) y240 := (by rw [hw, Ny240.out]; exact HP73.1); clear HP73; replace HO_232001 := zK (Kd.R_over' (v := (.slice (some ⟨go71, 0, none⟩) x7_2.length co72)) (zr HO_232001) (Kd.R_typed HO_7.out) (by decide) hg); replace BK224 := zK (blk_grown (g := gb224) (o := .cells #[.int .i64 ((rd_T70 l0 x31_2).f0.f0), .slice A223_1 ((rd_T70 l0 x31_2).f0.f1).length c223_1, .bool ((rd_T70 l0 x31_2).f1)] 70 (0, 0)) (zb BK224) hg (Kd.R_ne HO_7.out BK224.out (by decide))); replace BK231 := zK (blk_grown (g := gb231) (o := .cells #[.int .i64 t225, .slice (some ad233) t226.length co21, .bool t229] 70 (0, 0)) (zb BK231) hg (Kd.R_ne HO_7.out BK231.out (by decide))); replace HO_7 := zK (hp_); replace HB := zK ((by rw [hw]; exact yS (HB.out) GB71.out : Below w.heap.size w w74)); clear hg hw hp_; have HX75 := zK (show Kd.R k117 117 w74 w.heap.size (fun _ => True) (.slice (some ⟨go71, 0, none⟩) x7_2.length co72) y240 from (zr HO_7)); obtain ⟨ce75, hcl75, hM75, hcc75, hfr75⟩ := Kd.R_elem HX75.out z117 (((rd_T68 t226 0).f0) : Int) (of_decide_eq_true (by first | (with_reducible assumption) | assumption)) (by have h_ : (((rd_T68 t226 0).f0) : Int) < ((x7_2.length : Int) : Int) := of_decide_eq_true (by first | (with_reducible assumption) | assumption); first | exact h_ | (have e_ := (Kd.R_reads' HO_7.out).1; omega) | simpa using h_); obtain rfl := k117_openM hM75; have HP75 := Kd.R_seg HX75.out (((rd_T68 t226 0).f0) : Int) (of_decide_eq_true (by first | (with_reducible assumption) | assumption)) (by have h_ : (((rd_T68 t226 0).f0) : Int) < ((x7_2.length : Int) : Int) := of_decide_eq_true (by first | (with_reducible assumption) | assumption); first | exact h_ | (have e_ := (Kd.R_reads' HO_7.out).1; omega) | simpa using h_) (seg := [.bool true]) (j := 3) hcl75 hcc75 (show 4 ≤ 4 from by decide) (x' := (⟨(rd_T117 y240 ((rd_T68 t226 0).f0)).f0, (rd_T117 y240 ((rd_T68 t226 0).f0)).f1, (rd_T117 y240 ((rd_T68 t226 0).f0)).f2, true⟩ : S117)) (k117_mkM _ _ _ (⟨(rd_T117 y240 ((rd_T68 t226 0).f0)).f0, (rd_T117 y240 ((rd_T68 t226 0).f0)).f1, (rd_T117 y240 ((rd_T68 t226 0).f0)).f2, true⟩ : S117) ) (fun _ hk => hk); have hx75_3 := hcc75 3 _ rfl; (try simp only [show (k117).sz = 4 from rfl, Nat.mul_one, Nat.add_zero] at hx75_3); have hf75_3 := hfr75 3; (try simp only [show (k117).sz = 4 from rfl, Nat.mul_one, Nat.add_zero] at hf75_3); clear hcl75 hcc75 hfr75 hM75) | ((with_reducible refine gate_store (t := 4) (p := 23) rfl ?_); refine store_event (t := 4) (p := 23) (v := ?vo_w76) (w1 := (w74.setCell ⟨go71, (((rd_T68 t226 0).f0) : Int).toNat * 4 + 3, none⟩ (.bool true))) ?hg ?ho ?hn ?hr ?_; (case ho => rfl); (case hg => rfl); (case hn => rfl); (case hr => first | (go_simp; done) | (go_simp; rfl)); intro w76 hw; have hg : w74.grownBy w76 (some go71) := (by rw [hw]; exact HP75.2); have hp_ : Kd.R k117 117 w76 w.heap.size (fun _ => True) (.slice (some ⟨go71, 0, none⟩) x7_2.length co72) y241 := (by rw [hw, Ny241.out]; exact HP75.1); clear HP75; replace HO_232001 := zK (Kd.R_over' (v := (.slice (some ⟨go71, 0, none⟩) x7_2.length co72)) (zr HO_232001) (Kd.R_typed HO_7.out) (by decide) hg); replace BK224 := zK (blk_grown (g := gb224) (o := .cells #[.int .i64 ((rd_T70 l0 x31_2).f0.f0), .slice A223_1 ((rd_T70 l0 x31_2).f0.f1).length c223_1, .bool ((rd_T70 l0 x31_2).f1)] 70 (0, 0)) (zb BK224) hg (Kd.R_ne HO_7.out BK224.out (by decide))); replace BK231 := zK (blk_grown (g := gb231) (o := .cells #[.int .i64 t225, .slice (some ad233) t226.length co21, .bool t229] 70 (0, 0)) (zb BK231) hg (Kd.R_ne HO_7.out BK231.out (by decide))); replace HO_7 := zK (hp_); replace HB := zK ((by rw [hw]; exact yS (HB.out) GB71.out : Below w.heap.size w w76)); clear hg hw hp_))
                              repeat (go_end0; simp only []; try go_wp2)
                              go_meet
                              case rel => (try rw [← Nbq61.out]); exact ⟨_, (y241), H', ⟨by have := HJ2.out; have := HK2.out; have := HJ13.out; have := HJ36.out; have := HJ43.out; have := HJ47.out; have := HJ50.out; first | omega | exact Nat.le_refl _⟩, ⟨zr HO_7⟩, ⟨zr HO_232001⟩, ⟨zb BK224⟩, ⟨zb BK231⟩, ⟨zo HB⟩⟩
                            ·rw [if_neg c60] at H
                             exact absurd H (by simp)
                           ·rw [if_neg c59] at H
                            exact absurd H (by simp)
                          ·replace c58 := Bool.eq_false_iff.mpr c58
                           subst c58
                           have H1 : (box_Bounds.j7 kj50 a1 x7_2 ((rd_T68 t226 0).f0) ((rd_T68 t226 0).f1) x16_43 l0 (l0.length : Int) x31_2 t225 t226 t229) = some (r1, r2, r3) := by rw [if_neg (show ¬ (false = true) by decide)] at H; exact H
                           clear H; have H := H1; clear H1
                           have H' := zK H; clear H
                           go_wp2
                           repeat (go_end0; simp only []; try go_wp2)
                           go_meet
                           case rel => exact ⟨_, (x7_2), H', ⟨by have := HJ2.out; have := HK2.out; have := HJ13.out; have := HJ36.out; have := HJ43.out; have := HJ47.out; have := HJ50.out; first | omega | exact Nat.le_refl _⟩, ⟨zr HO_7⟩, ⟨zr HO_232001⟩, ⟨zb BK224⟩, ⟨zb BK231⟩, ⟨zo HB⟩⟩
                         case rest =>
                          clear HC57; try clear c1; try clear c2; try clear p2
                          try clear q2; try clear hx2; try clear qi2; try clear c3
                          try clear c4; try clear c4b0; try clear c5; try clear c6
                          try clear c6b0; try clear c6b1; try clear p6; try clear q6
                          try clear hx6; try clear hf6; try clear c7; try clear c7b0
                          try clear c7b1; try clear p7; try clear q7; try clear hx7
                          try clear hf7; try clear c10; try clear c10b0; try clear c11
                          try clear c11b0; try clear c12; try clear c12b0; try clear c19
                          try clear c22; try clear p22; try clear q22; try clear hx22
                          try clear c23; try clear c23b0; try clear c23b1; try clear p23
                          try clear q23; try clear hx23; try clear qi23; try clear c24
                          try clear c24b0; try clear c24b1; try clear c25; try clear c29
                          try clear c32; try clear c35; try clear c36; try clear c36b0
                          try clear c36b1; try clear c38; try clear c39; try clear c39b0
                          try clear c40; try clear c40b0; try clear c41; try clear c41b0
                          try clear c41b1; try clear c42; try clear c45; try clear c47
                          try clear c47b0; try clear c47b1; try clear c49; try clear c49b0
                          try clear c49b1; try clear c50; try clear c52; try clear c53
                          try clear c55; try clear c58; try clear c59; try clear c59b0
                          try clear c60; try clear c60b0; try clear q61; try clear c62
                          try clear c63; try clear c63b0; try clear c64; try clear p64
                          try clear q64; try clear hx64; try clear hf64; try clear c66
                          try clear hx66; try clear hf66; try clear c68; try clear hx68
                          try clear hf68; try clear c71; try clear p71; try clear q71
                          try clear hx71; try clear hf71; try clear c73; try clear hx73
                          try clear hf73; try clear c75; try clear hx75; try clear hf75
                          try clear hcz16_0; try clear hcz16_1; try clear hcz16_2; try clear hcz20_0
                          try clear hcz20_1; try clear hcz20_2; try clear hcz26_0; try clear hcz26_1
                          try clear hcz26_2; try clear hcz28_0; try clear hcz28_1; try clear hcz28_2
                          try clear hcz30_0; try clear hcz30_1; try clear hcz30_2; try clear hcz33_0
                          try clear hcz33_1; try clear hcz33_2; try clear hcz46_0; try clear hcz46_1
                          try clear hcz46_2; try clear hcz54_0; try clear hcz54_1; try clear hcz54_2
                          try clear hcz56_0; try clear hcz56_1; try clear hcz56_2; try clear hfz16_0
                          try clear hfz16_1; try clear hfz16_2; try clear hfz20_0; try clear hfz20_1
                          try clear hfz20_2; try clear hfz26_0; try clear hfz26_1; try clear hfz26_2
                          try clear hfz28_0; try clear hfz28_1; try clear hfz28_2; try clear hfz30_0
                          try clear hfz30_1; try clear hfz30_2; try clear hfz33_0; try clear hfz33_1
                          try clear hfz33_2; try clear hfz46_0; try clear hfz46_1; try clear hfz46_2
                          try clear hfz54_0; try clear hfz54_1; try clear hfz54_2; try clear hfz56_0
                          try clear hfz56_1; try clear hfz56_2; try clear hx223_0; try clear hx223_1
                          try clear hx223_2; try clear hx233_0; try clear hx233_1; try clear hx234_0
                          try clear hx234_1; try clear hx237_0; try clear hx237_1; try clear hx237_2
                          try clear hx237_3; try clear hx64_0; try clear hx64_1; try clear hx64_2
                          try clear hx64_3; try clear hx66_1; try clear hx68_3; try clear hx71_0
                          try clear hx71_1; try clear hx71_2; try clear hx71_3; try clear hx73_1
                          try clear hx75_3; try clear p2; try clear p22; try clear p223
                          try clear p23; try clear p233; try clear p234; try clear p237
                          try clear p6; try clear p64; try clear p71; try clear q2
                          try clear q22; try clear q223; try clear q23; try clear q233
                          try clear q234; try clear q237; try clear q64; try clear q71
                          obtain ⟨kq, x7_56, HA, HJ56, HO_7, HO_232001, BK224, BK231, HB⟩ := hcut
                          cases kq with
                          | zero => exact absurd HA.out (by simp [box_Bounds.j7])
                          | succ kj56 =>
                           have H := HA.out; clear HA
                           simp only [box_Bounds.j7] at H
                           have HC77 := zK H; clear H
                           go_upto_region 18 with (fail)
                           go_cut [116] (fun v116 wc => ∃ (kq : Nat) (x116_76 : Bool), v116 = .bool x116_76 ∧ Aside0 (box_Bounds.j8 kq a1 x7_56 ((rd_T68 t226 0).f0) x16_43 l0 (l0.length : Int) x31_2 x116_76 = some (r1, r2, r3)) ∧ Aside0 (kq ≤ kj56) ∧ Aside0 (Kd.R k117 117 wc w.heap.size (fun _ => True) v221 x7_56) ∧ Aside0 (Kd.R k68 68 wc w.heap.size (fun _ => True) (.slice (some ad233) t226.length co21) t226) ∧ Aside0 (wc.heap[gb224]? = some (.cells #[.int .i64 ((rd_T70 l0 x31_2).f0.f0), (.slice A223_1 ((rd_T70 l0 x31_2).f0.f1).length c223_1), .bool ((rd_T70 l0 x31_2).f1)] 70 (0, 0))) ∧ Aside0 (wc.heap[gb231]? = some (.cells #[.int .i64 t225, (.slice (some ad233) t226.length co21), .bool t229] 70 (0, 0))) ∧ Aside0 (Below w.heap.size w wc))
                           case first =>
                            have H := HC77.out; clear HC77
                            by_cases c78 : t229 = true
                            ·subst c78
                             have H1 : (box_Bounds.j8 kj56 a1 x7_56 ((rd_T68 t226 0).f0) x16_43 l0 (l0.length : Int) x31_2 true) = some (r1, r2, r3) := by rw [if_pos rfl] at H; exact H
                             clear H; have H := H1; clear H1
                             have H' := zK H; clear H
                             have hnb79 := NB231_224.out
                             have hnc79 := NB224_231.out
                             have hcz80_0 : wc.cell? ⟨gb231, 0, none⟩ = some (.int .i64 t225) := (blk_cell BK231.out 0).trans rfl
                             have hcz80_1 : wc.cell? ⟨gb231, 1, none⟩ = some (.slice (some ad233) t226.length co21) := (blk_cell BK231.out 1).trans rfl
                             have hcz80_2 : wc.cell? ⟨gb231, 2, none⟩ = some (.bool true) := (blk_cell BK231.out 2).trans rfl
                             have hfz80_0 := blk_frozen BK231.out 0
                             have hfz80_1 := blk_frozen BK231.out 1
                             have hfz80_2 := blk_frozen BK231.out 2
                             go_wp2
                             repeat (go_end0; simp only []; try go_wp2)
                             go_meet
                             case rel => exact ⟨_, (true), (by first | rfl | (simp; done) | (simp [*]; done)), H', ⟨by have := HJ2.out; have := HK2.out; have := HJ13.out; have := HJ36.out; have := HJ43.out; have := HJ47.out; have := HJ50.out; have := HJ56.out; first | omega | exact Nat.le_refl _⟩, ⟨zr HO_7⟩, ⟨zr HO_232001⟩, ⟨zb BK224⟩, ⟨zb BK231⟩, ⟨zo HB⟩⟩
                            ·replace c78 := Bool.eq_false_iff.mpr c78
                             subst c78
                             have H1 : (box_Bounds.j8 kj56 a1 x7_56 ((rd_T68 t226 0).f0) x16_43 l0 (l0.length : Int) x31_2 (((rd_T68 t226 0).f1) == (-1))) = some (r1, r2, r3) := by rw [if_neg (show ¬ (false = true) by decide)] at H; exact H
                             clear H; have H := H1; clear H1
                             have H' := zK H; clear H
                             have hnb81 := NB231_224.out
                             have hnc81 := NB224_231.out
                             have hcz82_0 : wc.cell? ⟨gb231, 0, none⟩ = some (.int .i64 t225) := (blk_cell BK231.out 0).trans rfl
                             have hcz82_1 : wc.cell? ⟨gb231, 1, none⟩ = some (.slice (some ad233) t226.length co21) := (blk_cell BK231.out 1).trans rfl
                             have hcz82_2 : wc.cell? ⟨gb231, 2, none⟩ = some (.bool false) := (blk_cell BK231.out 2).trans rfl
                             have hfz82_0 := blk_frozen BK231.out 0
                             have hfz82_1 := blk_frozen BK231.out 1
                             have hfz82_2 := blk_frozen BK231.out 2
                             go_wp2
                             repeat (go_end0; simp only []; try go_wp2)
                             go_meet
                             case rel => exact ⟨_, ((((rd_T68 t226 0).f1) == (-1))), (by first | rfl | (simp; done) | (simp [*]; done)), H', ⟨by have := HJ2.out; have := HK2.out; have := HJ13.out; have := HJ36.out; have := HJ43.out; have := HJ47.out; have := HJ50.out; have := HJ56.out; first | omega | exact Nat.le_refl _⟩, ⟨zr HO_7⟩, ⟨zr HO_232001⟩, ⟨zb BK224⟩, ⟨zb BK231⟩, ⟨zo HB⟩⟩
                           case rest =>
                            clear HC77; try clear c1; try clear c2; try clear p2
                            try clear q2; try clear hx2; try clear qi2; try clear c3
                            try clear c4; try clear c4b0; try clear c5; try clear c6
                            try clear c6b0; try clear c6b1; try clear p6; try clear q6
                            try clear hx6; try clear hf6; try clear c7; try clear c7b0
                            try clear c7b1; try clear p7; try clear q7; try clear hx7
                            try clear hf7; try clear c8; try clear c10; try clear c10b0
                            try clear c11; try clear c11b0; try clear c12; try clear c12b0
                            try clear c19; try clear c22; try clear p22; try clear q22
                            try clear hx22; try clear c23; try clear c23b0; try clear c23b1
                            try clear p23; try clear q23; try clear hx23; try clear qi23
                            try clear c24; try clear c24b0; try clear c24b1; try clear c25
                            try clear c29; try clear c32; try clear c35; try clear c36
                            try clear c36b0; try clear c36b1; try clear c38; try clear c39
                            try clear c39b0; try clear c40; try clear c40b0; try clear c41
                            try clear c41b0; try clear c41b1; try clear c42; try clear c45
                            try clear c47; try clear c47b0; try clear c47b1; try clear c49
                            try clear c49b0; try clear c49b1; try clear c50; try clear c52
                            try clear c53; try clear c55; try clear c58; try clear c59
                            try clear c59b0; try clear c60; try clear c60b0; try clear q61
                            try clear c62; try clear c63; try clear c63b0; try clear c64
                            try clear p64; try clear q64; try clear hx64; try clear hf64
                            try clear c66; try clear hx66; try clear hf66; try clear c68
                            try clear hx68; try clear hf68; try clear c71; try clear p71
                            try clear q71; try clear hx71; try clear hf71; try clear c73
                            try clear hx73; try clear hf73; try clear c75; try clear hx75
                            try clear hf75; try clear c78; try clear c79; try clear c81
                            try clear hcz16_0; try clear hcz16_1; try clear hcz16_2; try clear hcz20_0
                            try clear hcz20_1; try clear hcz20_2; try clear hcz26_0; try clear hcz26_1
                            try clear hcz26_2; try clear hcz28_0; try clear hcz28_1; try clear hcz28_2
                            try clear hcz30_0; try clear hcz30_1; try clear hcz30_2; try clear hcz33_0
                            try clear hcz33_1; try clear hcz33_2; try clear hcz46_0; try clear hcz46_1
                            try clear hcz46_2; try clear hcz54_0; try clear hcz54_1; try clear hcz54_2
                            try clear hcz56_0; try clear hcz56_1; try clear hcz56_2; try clear hcz80_0
                            try clear hcz80_1; try clear hcz80_2; try clear hcz82_0; try clear hcz82_1
                            try clear hcz82_2; try clear hfz16_0; try clear hfz16_1; try clear hfz16_2
                            try clear hfz20_0; try clear hfz20_1; try clear hfz20_2; try clear hfz26_0
                            try clear hfz26_1; try clear hfz26_2; try clear hfz28_0; try clear hfz28_1
                            try clear hfz28_2; try clear hfz30_0; try clear hfz30_1; try clear hfz30_2
                            try clear hfz33_0; try clear hfz33_1; try clear hfz33_2; try clear hfz46_0
                            try clear hfz46_1; try clear hfz46_2; try clear hfz54_0; try clear hfz54_1
                            try clear hfz54_2; try clear hfz56_0; try clear hfz56_1; try clear hfz56_2
                            try clear hfz80_0; try clear hfz80_1; try clear hfz80_2; try clear hfz82_0
                            try clear hfz82_1; try clear hfz82_2; try clear hx223_0; try clear hx223_1
                            try clear hx223_2; try clear hx233_0; try clear hx233_1; try clear hx234_0
                            try clear hx234_1; try clear hx237_0; try clear hx237_1; try clear hx237_2
                            try clear hx237_3; try clear hx64_0; try clear hx64_1; try clear hx64_2
                            try clear hx64_3; try clear hx66_1; try clear hx68_3; try clear hx71_0
                            try clear hx71_1; try clear hx71_2; try clear hx71_3; try clear hx73_1
                            try clear hx75_3; try clear p2; try clear p22; try clear p223
                            try clear p23; try clear p233; try clear p234; try clear p237
                            try clear p6; try clear p64; try clear p7; try clear p71
                            try clear q2; try clear q22; try clear q223; try clear q23
                            try clear q233; try clear q234; try clear q237; try clear q6
                            try clear q61; try clear q64; try clear q7; try clear q71
                            obtain ⟨kq, x116_76, rfl, HA, HJ76, HO_7, HO_232001, BK224, BK231, HB⟩ := hcut
                            cases kq with
                            | zero => exact absurd HA.out (by simp [box_Bounds.j8])
                            | succ kj76 =>
                             have H := HA.out; clear HA
                             simp only [box_Bounds.j8] at H
                             by_cases c83 : x116_76 = true
                             ·subst c83
                              have H1 : (if 0 ≤ ((rd_T68 t226 0).f0) then (if ((rd_T68 t226 0).f0) < (x7_56.length : Int) then (if ((rd_T117 x7_56 ((rd_T68 t226 0).f0)).f2 = true) then (if x16_43 > ((rd_T117 x7_56 ((rd_T68 t226 0).f0)).f0) then ((some (x7_56.set (((rd_T68 t226 0).f0) : Int).toNat (⟨x16_43, (rd_T117 x7_56 ((rd_T68 t226 0).f0)).f1, (rd_T117 x7_56 ((rd_T68 t226 0).f0)).f2, (rd_T117 x7_56 ((rd_T68 t226 0).f0)).f3⟩ : S117) : List (S117))).bind fun y243 => (box_Bounds.l0 kj76 a1 (y243.set (((rd_T68 t226 0).f0) : Int).toNat (⟨(rd_T117 y243 ((rd_T68 t226 0).f0)).f0, (rd_T117 y243 ((rd_T68 t226 0).f0)).f1, true, (rd_T117 y243 ((rd_T68 t226 0).f0)).f3⟩ : S117)) l0 (l0.length : Int) (wrap64 (x31_2 + 1)))) else (box_Bounds.l0 kj76 a1 x7_56 l0 (l0.length : Int) (wrap64 (x31_2 + 1)))) else ((some (x7_56.set (((rd_T68 t226 0).f0) : Int).toNat (⟨x16_43, (rd_T117 x7_56 ((rd_T68 t226 0).f0)).f1, (rd_T117 x7_56 ((rd_T68 t226 0).f0)).f2, (rd_T117 x7_56 ((rd_T68 t226 0).f0)).f3⟩ : S117) : List (S117))).bind fun y245 => (box_Bounds.l0 kj76 a1 (y245.set (((rd_T68 t226 0).f0) : Int).toNat (⟨(rd_T117 y245 ((rd_T68 t226 0).f0)).f0, (rd_T117 y245 ((rd_T68 t226 0).f0)).f1, true, (rd_T117 y245 ((rd_T68 t226 0).f0)).f3⟩ : S117)) l0 (l0.length : Int) (wrap64 (x31_2 + 1))))) else (none)) else (none)) = some (r1, r2, r3) := by rw [if_pos rfl] at H; exact H
                              clear H; have H := H1; clear H1
                              by_cases c84 : 0 ≤ ((rd_T68 t226 0).f0)
                              ·rw [if_pos c84] at H
                               have c84b0 : decide (0 ≤ ((rd_T68 t226 0).f0)) = true := decide_eq_true c84
                               clear c84
                               by_cases c85 : ((rd_T68 t226 0).f0) < (x7_56.length : Int)
                               ·rw [if_pos c85] at H
                                have c85b0 : decide (((rd_T68 t226 0).f0) < (x7_56.length : Int)) = true := decide_eq_true c85
                                clear c85
                                obtain ⟨bq86, hbq86⟩ : ∃ b_ : Bool, b_ = ((rd_T117 x7_56 ((rd_T68 t226 0).f0)).f2) := ⟨_, rfl⟩
                                replace H : (if (bq86 = true) then (if x16_43 > ((rd_T117 x7_56 ((rd_T68 t226 0).f0)).f0) then ((some (x7_56.set (((rd_T68 t226 0).f0) : Int).toNat (⟨x16_43, (rd_T117 x7_56 ((rd_T68 t226 0).f0)).f1, bq86, (rd_T117 x7_56 ((rd_T68 t226 0).f0)).f3⟩ : S117) : List (S117))).bind fun y243 => (box_Bounds.l0 kj76 a1 (y243.set (((rd_T68 t226 0).f0) : Int).toNat (⟨(rd_T117 y243 ((rd_T68 t226 0).f0)).f0, (rd_T117 y243 ((rd_T68 t226 0).f0)).f1, true, (rd_T117 y243 ((rd_T68 t226 0).f0)).f3⟩ : S117)) l0 (l0.length : Int) (wrap64 (x31_2 + 1)))) else (box_Bounds.l0 kj76 a1 x7_56 l0 (l0.length : Int) (wrap64 (x31_2 + 1)))) else ((some (x7_56.set (((rd_T68 t226 0).f0) : Int).toNat (⟨x16_43, (rd_T117 x7_56 ((rd_T68 t226 0).f0)).f1, bq86, (rd_T117 x7_56 ((rd_T68 t226 0).f0)).f3⟩ : S117) : List (S117))).bind fun y245 => (box_Bounds.l0 kj76 a1 (y245.set (((rd_T68 t226 0).f0) : Int).toNat (⟨(rd_T117 y245 ((rd_T68 t226 0).f0)).f0, (rd_T117 y245 ((rd_T68 t226 0).f0)).f1, true, (rd_T117 y245 ((rd_T68 t226 0).f0)).f3⟩ : S117)) l0 (l0.length : Int) (wrap64 (x31_2 + 1))))) = some (r1, r2, r3) := by rw [← hbq86] at H; exact H
                                have Nbq86 := zK hbq86; clear hbq86
                                by_cases c87 : (bq86 = true)
                                ·subst c87
                                 have H1 : (if x16_43 > ((rd_T117 x7_56 ((rd_T68 t226 0).f0)).f0) then ((some (x7_56.set (((rd_T68 t226 0).f0) : Int).toNat (⟨x16_43, (rd_T117 x7_56 ((rd_T68 t226 0).f0)).f1, true, (rd_T117 x7_56 ((rd_T68 t226 0).f0)).f3⟩ : S117) : List (S117))).bind fun y243 => (box_Bounds.l0 kj76 a1 (y243.set (((rd_T68 t226 0).f0) : Int).toNat (⟨(rd_T117 y243 ((rd_T68 t226 0).f0)).f0, (rd_T117 y243 ((rd_T68 t226 0).f0)).f1, true, (rd_T117 y243 ((rd_T68 t226 0).f0)).f3⟩ : S117)) l0 (l0.length : Int) (wrap64 (x31_2 + 1)))) else (box_Bounds.l0 kj76 a1 x7_56 l0 (l0.length : Int) (wrap64 (x31_2 + 1)))) = some (r1, r2, r3) := by rw [if_pos rfl] at H; exact H
                                 clear H; have H := H1; clear H1
                                 by_cases c88 : x16_43 > ((rd_T117 x7_56 ((rd_T68 t226 0).f0)).f0)
                                 ·rw [if_pos c88] at H
                                  have c88b0 : decide (((rd_T117 x7_56 ((rd_T68 t226 0).f0)).f0) < x16_43) = true := decide_eq_true c88
                                  clear c88
                                  obtain ⟨y243, hy243⟩ : ∃ y_ : List (S117), y_ = (x7_56.set (((rd_T68 t226 0).f0) : Int).toNat (⟨x16_43, (rd_T117 x7_56 ((rd_T68 t226 0).f0)).f1, true, (rd_T117 x7_56 ((rd_T68 t226 0).f0)).f3⟩ : S117)) := ⟨_, rfl⟩
                                  replace H : (box_Bounds.l0 kj76 a1 (y243.set (((rd_T68 t226 0).f0) : Int).toNat (⟨(rd_T117 y243 ((rd_T68 t226 0).f0)).f0, (rd_T117 y243 ((rd_T68 t226 0).f0)).f1, true, (rd_T117 y243 ((rd_T68 t226 0).f0)).f3⟩ : S117)) l0 (l0.length : Int) (wrap64 (x31_2 + 1))) = some (r1, r2, r3) := by first | (rw [hy243]; with_reducible exact H) | (have H2_ := (Option.bind_some _ _).symm.trans H; rw [hy243]; with_reducible exact H2_) | (have H2_ := (Option.bind_some _ _).symm.trans H; with_reducible exact H2_) | with_reducible exact H | (rw [hy243]; exact H) | exact H
                                  have Ny243 := zK hy243; clear hy243
                                  obtain ⟨y244, hy244⟩ : ∃ y_ : List (S117), y_ = (y243.set (((rd_T68 t226 0).f0) : Int).toNat (⟨(rd_T117 y243 ((rd_T68 t226 0).f0)).f0, (rd_T117 y243 ((rd_T68 t226 0).f0)).f1, true, (rd_T117 y243 ((rd_T68 t226 0).f0)).f3⟩ : S117)) := ⟨_, rfl⟩
                                  replace H : (box_Bounds.l0 kj76 a1 y244 l0 (l0.length : Int) (wrap64 (x31_2 + 1))) = some (r1, r2, r3) := by first | (rw [hy244]; with_reducible exact H) | (have H2_ := (Option.bind_some _ _).symm.trans H; rw [hy244]; with_reducible exact H2_) | (have H2_ := (Option.bind_some _ _).symm.trans H; with_reducible exact H2_) | with_reducible exact H | (rw [hy244]; exact H) | exact H
                                  have Ny244 := zK hy244; clear hy244
                                  have H' := zK H; clear H
                                  obtain ⟨Ao90, co90, eo90⟩ := Kd.R_slice HO_7.out
                                  subst eo90
                                  have p242 : 0 ≤ (((rd_T68 t226 0).f0) : Int) := of_decide_eq_true (by first | (with_reducible assumption) | assumption)
                                  have q242 : ((rd_T68 t226 0).f0) < (x7_56.length : Int) := of_decide_eq_true (by first | (with_reducible assumption) | assumption)
                                  obtain ⟨ad242, e242, hx242_0, hx242_1, hx242_2, hx242_3⟩ := at_T117 (Kd.R_reads' HO_7.out).2.2 ((rd_T68 t226 0).f0) p242 q242
                                  (try rw [← Nbq86.out] at hx242_2)
                                  (try rw [← Nbq86.out] at A13)
                                  (try rw [← Nbq86.out] at A22)
                                  (try rw [← Nbq86.out] at A43)
                                  (try rw [← Nbq86.out] at hx242_3)
                                  (try rw [← Nbq86.out] at A13)
                                  (try rw [← Nbq86.out] at A22)
                                  (try rw [← Nbq86.out] at A43)
                                  cases e242
                                  replace p242 := eq_true p242
                                  replace q242 := eq_true q242
                                  have p89 : 0 ≤ (((rd_T68 t226 0).f0) : Int) := of_decide_eq_true (by first | (with_reducible assumption) | assumption)
                                  have q89 : (((rd_T68 t226 0).f0) : Int) < ((x7_56.length : Int) : Int) := of_decide_eq_true (by first | (with_reducible assumption) | assumption)
                                  obtain ⟨go89, co89, eo89, gb89, gl89, cl89, HG89⟩ := Kd.R_form HO_7.out (by omega)
                                  (first | cases eo89 | (injection eo89 with ea_ en_ ec_; (first | subst ea_ | (injection ea_ with ea_; subst ea_)); subst ec_; clear en_))
                                  have GB89 := zK gb89
                                  have GG89 := zK HG89; clear gb89 gl89 HG89
                                  (first | simp only [add_plain] at hx242_0 | skip)
                                  (first | simp only [add_plain] at hx242_1 | skip)
                                  (first | simp only [add_plain] at hx242_2 | skip)
                                  (first | simp only [add_plain] at hx242_3 | skip)
                                  obtain ⟨ce89, hcl89, hM89, hcc89, hfr89⟩ := Kd.R_elem HO_7.out z117 (((rd_T68 t226 0).f0) : Int) p89 q89
                                  obtain rfl := k117_openM hM89
                                  have hx89_0 : wc.cell? ⟨go89, (((rd_T68 t226 0).f0) : Int).toNat * 4, none⟩ = some (.int .i64 ((rd_T117 x7_56 ((rd_T68 t226 0).f0)).f0)) := hcc89 0 _ rfl
                                  have hx89_1 : wc.cell? ⟨go89, (((rd_T68 t226 0).f0) : Int).toNat * 4 + 1, none⟩ = some (.int .i64 ((rd_T117 x7_56 ((rd_T68 t226 0).f0)).f1)) := hcc89 1 _ rfl
                                  have hx89_2 : wc.cell? ⟨go89, (((rd_T68 t226 0).f0) : Int).toNat * 4 + 2, none⟩ = some (.bool ((rd_T117 x7_56 ((rd_T68 t226 0).f0)).f2)) := hcc89 2 _ rfl
                                  have hx89_3 : wc.cell? ⟨go89, (((rd_T68 t226 0).f0) : Int).toNat * 4 + 3, none⟩ = some (.bool ((rd_T117 x7_56 ((rd_T68 t226 0).f0)).f3)) := hcc89 3 _ rfl
                                  have hf89_0 : wc.frozen? ⟨go89, (((rd_T68 t226 0).f0) : Int).toNat * 4, none⟩ = false := hfr89 0
                                  have hf89_1 : wc.frozen? ⟨go89, (((rd_T68 t226 0).f0) : Int).toNat * 4 + 1, none⟩ = false := hfr89 1
                                  have hf89_2 : wc.frozen? ⟨go89, (((rd_T68 t226 0).f0) : Int).toNat * 4 + 2, none⟩ = false := hfr89 2
                                  have hf89_3 : wc.frozen? ⟨go89, (((rd_T68 t226 0).f0) : Int).toNat * 4 + 3, none⟩ = false := hfr89 3
                                  clear hcl89 hcc89 hfr89 hM89
                                  replace p89 := eq_true p89
                                  replace q89 := eq_true q89
                                  have HX91 := zK (show Kd.R k117 117 wc w.heap.size (fun _ => True) (.slice (some ⟨go89, 0, none⟩) x7_56.length co90) x7_56 from (zr HO_7))
                                  obtain ⟨ce91, hcl91, hM91, hcc91, hfr91⟩ := Kd.R_elem HX91.out z117 (((rd_T68 t226 0).f0) : Int) (of_decide_eq_true (by first | (with_reducible assumption) | assumption)) (by have h_ : (((rd_T68 t226 0).f0) : Int) < ((x7_56.length : Int) : Int) := of_decide_eq_true (by first | (with_reducible assumption) | assumption); first | exact h_ | (have e_ := (Kd.R_reads' HO_7.out).1; omega) | simpa using h_)
                                  obtain rfl := k117_openM hM91
                                  have HP91 := Kd.R_seg HX91.out (((rd_T68 t226 0).f0) : Int) (of_decide_eq_true (by first | (with_reducible assumption) | assumption)) (by have h_ : (((rd_T68 t226 0).f0) : Int) < ((x7_56.length : Int) : Int) := of_decide_eq_true (by first | (with_reducible assumption) | assumption); first | exact h_ | (have e_ := (Kd.R_reads' HO_7.out).1; omega) | simpa using h_) (seg := [.int .i64 x16_43]) (j := 0) hcl91 hcc91 (show 1 ≤ 4 from by decide) (x' := (⟨x16_43, (rd_T117 x7_56 ((rd_T68 t226 0).f0)).f1, true, (rd_T117 x7_56 ((rd_T68 t226 0).f0)).f3⟩ : S117)) (by first | exact k117_mkM _ _ _ (⟨x16_43, (rd_T117 x7_56 ((rd_T68 t226 0).f0)).f1, true, (rd_T117 x7_56 ((rd_T68 t226 0).f0)).f3⟩ : S117) | (have e_ := Nbq86.out; unfold rd_T117 at e_; rw [← e_]; exact k117_mkM _ _ _ (⟨x16_43, (rd_T117 x7_56 ((rd_T68 t226 0).f0)).f1, true, (rd_T117 x7_56 ((rd_T68 t226 0).f0)).f3⟩ : S117))) (fun _ hk => hk)
                                  have hx91_0 := hcc91 0 _ rfl
                                  (try simp only [show (k117).sz = 4 from rfl, Nat.mul_one, Nat.add_zero] at hx91_0)
                                  have hf91_0 := hfr91 0
                                  (try simp only [show (k117).sz = 4 from rfl, Nat.mul_one, Nat.add_zero] at hf91_0)
                                  clear hcl91 hcc91 hfr91 hM91
                                  go_wp2_with (first | (go_at_call 75; go_enter Try.func75, Try.ntmps75) | (go_at_call 76; go_enter Try.func76, Try.ntmps76) | ((with_reducible refine gate_store (t := 2) (p := 21) rfl ?_); refine store_event (t := 2) (p := 21) (v := ?vo_w92) (w1 := (wc.setCell ⟨go89, (((rd_T68 t226 0).f0) : Int).toNat * 4, none⟩ (.int .i64 x16_43))) ?hg ?ho ?hn ?hr ?_; (case ho => rfl); (case hg => rfl); (case hn => rfl); (case hr => first | (go_simp; done) | (go_simp; rfl)); intro w92 hw; have hg : wc.grownBy w92 (some go89) := (by rw [hw]; exact HP91.2); have hp_ : Kd.R k117 117 w92 w.heap.size (fun _ => True) (.slice (some ⟨go89, 0, none⟩) x7_56.length co90) y243 := (by rw [hw, Ny243.out]; exact HP91.1); clear HP91; replace HO_232001 := zK (Kd.R_over' (v := (.slice (some ⟨go89, 0, none⟩) x7_56.length co90)) (zr HO_232001) (Kd.R_typed HO_7.out) (by decide) hg); replace BK224 := zK (blk_grown (g := gb224) (o := .cells #[.int .i64 ((rd_T70 l0 x31_2).f0.f0), .slice A223_1 ((rd_T70 l0 x31_2).f0.f1).length c223_1, .bool ((rd_T70 l0 x31_2).f1)] 70 (0, 0)) (zb BK224) hg (Kd.R_ne HO_7.out BK224.out (by decide))); replace BK231 := zK (blk_grown (g := gb231) (o := .cells #[.int .i64 t225, .slice (some ad233) t226.length co21, .bool t229] 70 (0, 0)) (zb BK231) hg (Kd.R_ne HO_7.out BK231.out (by decide))); replace HO_7 := zK (hp_); replace HB := zK ((by rw [hw]; exact yS (HB.out) GB89.out : Below w.heap.size w w92)); clear hg hw hp_; have HX93 := zK (show Kd.R k117 117 w92 w.heap.size (fun _ => True) (.slice (some ⟨go89, 0, none⟩) x7_56.length co90) y243 from (zr HO_7)); obtain ⟨ce93, hcl93, hM93, hcc93, hfr93⟩ := Kd.R_elem HX93.out z117 (((rd_T68 t226 0).f0) : Int) (of_decide_eq_true (by first | (with_reducible assumption) | assumption)) (by have h_ : (((rd_T68 t226 0).f0) : Int) < ((x7_56.length : Int) : Int) := of_decide_eq_true (by first | (with_reducible assumption) | assumption); first | exact h_ | (have e_ := (Kd.R_reads' HO_7.out).1; omega) | simpa using h_); obtain rfl := k117_openM hM93; have HP93 := Kd.R_seg HX93.out (((rd_T68 t226 0).f0) : Int) (of_decide_eq_true (by first | (with_reducible assumption) | assumption)) (by have h_ : (((rd_T68 t226 0).f0) : Int) < ((x7_56.length : Int) : Int) := of_decide_eq_true (by first | (with_reducible assumption) | assumption); first | exact h_ | (have e_ := (Kd.R_reads' HO_7.out).1; omega) | simpa using h_) (seg := [.bool true]) (j := 2) hcl93 hcc93 (show 3 ≤ 4 from by decide) (x' := (⟨(rd_T117 y243 ((rd_T68 t226 0).f0)).f0, (rd_T117 y243 ((rd_T68 t226 0).f0)).f1, true, (rd_T117 y243 ((rd_T68 t226 0).f0)).f3⟩ : S117)) (k117_mkM _ _ _ (⟨(rd_T117 y243 ((rd_T68 t226 0).f0)).f0, (rd_T117 y243 ((rd_T68 t226 0).f0)).f1, true, (rd_T117 y243 ((rd_T68 t226 0).f0)).f3⟩ : S117) ) (fun _ hk => hk); have hx93_2 := hcc93 2 _ rfl; (try simp only [show (k117).sz = 4 from rfl, Nat.mul_one, Nat.add_zero] at hx93_2); have hf93_2 := hfr93 2; (try simp only [show (k117).sz = 4 from rfl, Nat.mul_one, Nat.add_zero] at hf93_2); clear hcl93 hcc93 hfr93 hM93) | ((with_reducible refine gate_store (t := 4) (p := 23) rfl ?_); refine store_event (t := 4) (p := 23) (v := ?vo_w94) (w1 := (w92.setCell ⟨go89, (((rd_T68 t226 0).f0) : Int).toNat * 4 + 2, none⟩ (.bool true))) ?hg ?ho ?hn ?hr ?_; (case ho => rfl); (case hg => rfl); (case hn => rfl); (case hr => first | (go_simp; done) | (go_simp; rfl)); intro w94 hw; have hg : w92.grownBy w94 (some go89) := (by rw [hw]; exact HP93.2); have hp_ : Kd.R k117 117 w94 w.heap.size (fun _ => True) (.slice (some ⟨go89, 0, none⟩) x7_56.length co90) y244 := (by rw [hw, Ny244.out]; exact HP93.1); clear HP93; replace HO_232001 := zK (Kd.R_over' (v := (.slice (some ⟨go89, 0, none⟩) x7_56.length co90)) (zr HO_232001) (Kd.R_typed HO_7.out) (by decide) hg); replace BK224 := zK (blk_grown (g := gb224) (o := .cells #[.int .i64 ((rd_T70 l0 x31_2).f0.f0), .slice A223_1 ((rd_T70 l0 x31_2).f0.f1).length c223_1, .bool ((rd_T70 l0 x31_2).f1)] 70 (0, 0)) (zb BK224) hg (Kd.R_ne HO_7.out BK224.out (by decide))); replace BK231 := zK (blk_grown (g := gb231) (o := .cells #[.int .i64 t225, .slice (some ad233) t226.length co21, .bool t229] 70 (0, 0)) (zb BK231) hg (Kd.R_ne HO_7.out BK231.out (by decide))); replace HO_7 := zK (hp_); replace HB := zK ((by rw [hw]; exact yS (HB.out) GB89.out : Below w.heap.size w w94)); clear hg hw hp_))
                                  repeat (go_end0; simp only []; try go_wp2)
                                  go_roundg kj76
                                  case measure => have := HJ2.out; have := HK2.out; have := HJ13.out; have := HJ36.out; have := HJ43.out; have := HJ47.out; have := HJ50.out; have := HJ56.out; have := HJ76.out; omega
                                  case rel => exact ⟨(y244), (wrap64 (x31_2 + 1)), (by first | rfl | (simp; done) | (simp [*]; done)), H', ⟨by have := HJ2.out; have := HK2.out; have := HJ13.out; have := HJ36.out; have := HJ43.out; have := HJ47.out; have := HJ50.out; have := HJ56.out; have := HJ76.out; omega⟩, ⟨zr HO_7⟩, ⟨zo HB⟩⟩
                                 ·rw [if_neg c88] at H
                                  have c88b0 : decide (((rd_T117 x7_56 ((rd_T68 t226 0).f0)).f0) < x16_43) = false := decide_eq_false c88
                                  clear c88
                                  have H' := zK H; clear H
                                  obtain ⟨Ao95, co95, eo95⟩ := Kd.R_slice HO_7.out
                                  subst eo95
                                  have p242 : 0 ≤ (((rd_T68 t226 0).f0) : Int) := of_decide_eq_true (by first | (with_reducible assumption) | assumption)
                                  have q242 : ((rd_T68 t226 0).f0) < (x7_56.length : Int) := of_decide_eq_true (by first | (with_reducible assumption) | assumption)
                                  obtain ⟨ad242, e242, hx242_0, hx242_1, hx242_2, hx242_3⟩ := at_T117 (Kd.R_reads' HO_7.out).2.2 ((rd_T68 t226 0).f0) p242 q242
                                  (try rw [← Nbq86.out] at hx242_2)
                                  (try rw [← Nbq86.out] at A13)
                                  (try rw [← Nbq86.out] at A22)
                                  (try rw [← Nbq86.out] at A43)
                                  (try rw [← Nbq86.out] at hx242_3)
                                  (try rw [← Nbq86.out] at A13)
                                  (try rw [← Nbq86.out] at A22)
                                  (try rw [← Nbq86.out] at A43)
                                  cases e242
                                  replace p242 := eq_true p242
                                  replace q242 := eq_true q242
                                  go_wp2
                                  repeat (go_end0; simp only []; try go_wp2)
                                  go_roundg kj76
                                  case measure => have := HJ2.out; have := HK2.out; have := HJ13.out; have := HJ36.out; have := HJ43.out; have := HJ47.out; have := HJ50.out; have := HJ56.out; have := HJ76.out; omega
                                  case rel => exact ⟨(x7_56), (wrap64 (x31_2 + 1)), (by first | rfl | (simp; done) | (simp [*]; done)), H', ⟨by have := HJ2.out; have := HK2.out; have := HJ13.out; have := HJ36.out; have := HJ43.out; have := HJ47.out; have := HJ50.out; have := HJ56.out; have := HJ76.out; omega⟩, ⟨zr HO_7⟩, ⟨zo HB⟩⟩
                                ·replace c87 := Bool.eq_false_iff.mpr c87
                                 subst c87
                                 have H1 : ((some (x7_56.set (((rd_T68 t226 0).f0) : Int).toNat (⟨x16_43, (rd_T117 x7_56 ((rd_T68 t226 0).f0)).f1, false, (rd_T117 x7_56 ((rd_T68 t226 0).f0)).f3⟩ : S117) : List (S117))).bind fun y245 => (box_Bounds.l0 kj76 a1 (y245.set (((rd_T68 t226 0).f0) : Int).toNat (⟨(rd_T117 y245 ((rd_T68 t226 0).f0)).f0, (rd_T117 y245 ((rd_T68 t226 0).f0)).f1, true, (rd_T117 y245 ((rd_T68 t226 0).f0)).f3⟩ : S117)) l0 (l0.length : Int) (wrap64 (x31_2 + 1)))) = some (r1, r2, r3) := by rw [if_neg (show ¬ (false = true) by decide)] at H; exact H
                                 clear H; have H := H1; clear H1
                                 obtain ⟨y245, hy245⟩ : ∃ y_ : List (S117), y_ = (x7_56.set (((rd_T68 t226 0).f0) : Int).toNat (⟨x16_43, (rd_T117 x7_56 ((rd_T68 t226 0).f0)).f1, false, (rd_T117 x7_56 ((rd_T68 t226 0).f0)).f3⟩ : S117)) := ⟨_, rfl⟩
                                 replace H : (box_Bounds.l0 kj76 a1 (y245.set (((rd_T68 t226 0).f0) : Int).toNat (⟨(rd_T117 y245 ((rd_T68 t226 0).f0)).f0, (rd_T117 y245 ((rd_T68 t226 0).f0)).f1, true, (rd_T117 y245 ((rd_T68 t226 0).f0)).f3⟩ : S117)) l0 (l0.length : Int) (wrap64 (x31_2 + 1))) = some (r1, r2, r3) := by first | (rw [hy245]; with_reducible exact H) | (have H2_ := (Option.bind_some _ _).symm.trans H; rw [hy245]; with_reducible exact H2_) | (have H2_ := (Option.bind_some _ _).symm.trans H; with_reducible exact H2_) | with_reducible exact H | (rw [hy245]; exact H) | exact H
                                 have Ny245 := zK hy245; clear hy245
                                 obtain ⟨y246, hy246⟩ : ∃ y_ : List (S117), y_ = (y245.set (((rd_T68 t226 0).f0) : Int).toNat (⟨(rd_T117 y245 ((rd_T68 t226 0).f0)).f0, (rd_T117 y245 ((rd_T68 t226 0).f0)).f1, true, (rd_T117 y245 ((rd_T68 t226 0).f0)).f3⟩ : S117)) := ⟨_, rfl⟩
                                 replace H : (box_Bounds.l0 kj76 a1 y246 l0 (l0.length : Int) (wrap64 (x31_2 + 1))) = some (r1, r2, r3) := by first | (rw [hy246]; with_reducible exact H) | (have H2_ := (Option.bind_some _ _).symm.trans H; rw [hy246]; with_reducible exact H2_) | (have H2_ := (Option.bind_some _ _).symm.trans H; with_reducible exact H2_) | with_reducible exact H | (rw [hy246]; exact H) | exact H
                                 have Ny246 := zK hy246; clear hy246
                                 have H' := zK H; clear H
                                 obtain ⟨Ao97, co97, eo97⟩ := Kd.R_slice HO_7.out
                                 subst eo97
                                 have p242 : 0 ≤ (((rd_T68 t226 0).f0) : Int) := of_decide_eq_true (by first | (with_reducible assumption) | assumption)
                                 have q242 : ((rd_T68 t226 0).f0) < (x7_56.length : Int) := of_decide_eq_true (by first | (with_reducible assumption) | assumption)
                                 obtain ⟨ad242, e242, hx242_0, hx242_1, hx242_2, hx242_3⟩ := at_T117 (Kd.R_reads' HO_7.out).2.2 ((rd_T68 t226 0).f0) p242 q242
                                 (try rw [← Nbq86.out] at hx242_2)
                                 (try rw [← Nbq86.out] at A13)
                                 (try rw [← Nbq86.out] at A22)
                                 (try rw [← Nbq86.out] at A43)
                                 (try rw [← Nbq86.out] at hx242_3)
                                 (try rw [← Nbq86.out] at A13)
                                 (try rw [← Nbq86.out] at A22)
                                 (try rw [← Nbq86.out] at A43)
                                 cases e242
                                 replace p242 := eq_true p242
                                 replace q242 := eq_true q242
                                 have p96 : 0 ≤ (((rd_T68 t226 0).f0) : Int) := of_decide_eq_true (by first | (with_reducible assumption) | assumption)
                                 have q96 : (((rd_T68 t226 0).f0) : Int) < ((x7_56.length : Int) : Int) := of_decide_eq_true (by first | (with_reducible assumption) | assumption)
                                 obtain ⟨go96, co96, eo96, gb96, gl96, cl96, HG96⟩ := Kd.R_form HO_7.out (by omega)
                                 (first | cases eo96 | (injection eo96 with ea_ en_ ec_; (first | subst ea_ | (injection ea_ with ea_; subst ea_)); subst ec_; clear en_))
                                 have GB96 := zK gb96
                                 have GG96 := zK HG96; clear gb96 gl96 HG96
                                 (first | simp only [add_plain] at hx242_0 | skip)
                                 (first | simp only [add_plain] at hx242_1 | skip)
                                 (first | simp only [add_plain] at hx242_2 | skip)
                                 (first | simp only [add_plain] at hx242_3 | skip)
                                 obtain ⟨ce96, hcl96, hM96, hcc96, hfr96⟩ := Kd.R_elem HO_7.out z117 (((rd_T68 t226 0).f0) : Int) p96 q96
                                 obtain rfl := k117_openM hM96
                                 have hx96_0 : wc.cell? ⟨go96, (((rd_T68 t226 0).f0) : Int).toNat * 4, none⟩ = some (.int .i64 ((rd_T117 x7_56 ((rd_T68 t226 0).f0)).f0)) := hcc96 0 _ rfl
                                 have hx96_1 : wc.cell? ⟨go96, (((rd_T68 t226 0).f0) : Int).toNat * 4 + 1, none⟩ = some (.int .i64 ((rd_T117 x7_56 ((rd_T68 t226 0).f0)).f1)) := hcc96 1 _ rfl
                                 have hx96_2 : wc.cell? ⟨go96, (((rd_T68 t226 0).f0) : Int).toNat * 4 + 2, none⟩ = some (.bool ((rd_T117 x7_56 ((rd_T68 t226 0).f0)).f2)) := hcc96 2 _ rfl
                                 have hx96_3 : wc.cell? ⟨go96, (((rd_T68 t226 0).f0) : Int).toNat * 4 + 3, none⟩ = some (.bool ((rd_T117 x7_56 ((rd_T68 t226 0).f0)).f3)) := hcc96 3 _ rfl
                                 have hf96_0 : wc.frozen? ⟨go96, (((rd_T68 t226 0).f0) : Int).toNat * 4, none⟩ = false := hfr96 0
                                 have hf96_1 : wc.frozen? ⟨go96, (((rd_T68 t226 0).f0) : Int).toNat * 4 + 1, none⟩ = false := hfr96 1
                                 have hf96_2 : wc.frozen? ⟨go96, (((rd_T68 t226 0).f0) : Int).toNat * 4 + 2, none⟩ = false := hfr96 2
                                 have hf96_3 : wc.frozen? ⟨go96, (((rd_T68 t226 0).f0) : Int).toNat * 4 + 3, none⟩ = false := hfr96 3
                                 clear hcl96 hcc96 hfr96 hM96
                                 replace p96 := eq_true p96
                                 replace q96 := eq_true q96
                                 have HX98 := zK (show Kd.R k117 117 wc w.heap.size (fun _ => True) (.slice (some ⟨go96, 0, none⟩) x7_56.length co97) x7_56 from (zr HO_7))
                                 obtain ⟨ce98, hcl98, hM98, hcc98, hfr98⟩ := Kd.R_elem HX98.out z117 (((rd_T68 t226 0).f0) : Int) (of_decide_eq_true (by first | (with_reducible assumption) | assumption)) (by have h_ : (((rd_T68 t226 0).f0) : Int) < ((x7_56.length : Int) : Int) := of_decide_eq_true (by first | (with_reducible assumption) | assumption); first | exact h_ | (have e_ := (Kd.R_reads' HO_7.out).1; omega) | simpa using h_)
                                 obtain rfl := k117_openM hM98
                                 have HP98 := Kd.R_seg HX98.out (((rd_T68 t226 0).f0) : Int) (of_decide_eq_true (by first | (with_reducible assumption) | assumption)) (by have h_ : (((rd_T68 t226 0).f0) : Int) < ((x7_56.length : Int) : Int) := of_decide_eq_true (by first | (with_reducible assumption) | assumption); first | exact h_ | (have e_ := (Kd.R_reads' HO_7.out).1; omega) | simpa using h_) (seg := [.int .i64 x16_43]) (j := 0) hcl98 hcc98 (show 1 ≤ 4 from by decide) (x' := (⟨x16_43, (rd_T117 x7_56 ((rd_T68 t226 0).f0)).f1, false, (rd_T117 x7_56 ((rd_T68 t226 0).f0)).f3⟩ : S117)) (by first | exact k117_mkM _ _ _ (⟨x16_43, (rd_T117 x7_56 ((rd_T68 t226 0).f0)).f1, false, (rd_T117 x7_56 ((rd_T68 t226 0).f0)).f3⟩ : S117) | (have e_ := Nbq86.out; unfold rd_T117 at e_; rw [← e_]; exact k117_mkM _ _ _ (⟨x16_43, (rd_T117 x7_56 ((rd_T68 t226 0).f0)).f1, false, (rd_T117 x7_56 ((rd_T68 t226 0).f0)).f3⟩ : S117))) (fun _ hk => hk)
                                 have hx98_0 := hcc98 0 _ rfl
                                 (try simp only [show (k117).sz = 4 from rfl, Nat.mul_one, Nat.add_zero] at hx98_0)
                                 have hf98_0 := hfr98 0
                                 (try simp only [show (k117).sz = 4 from rfl, Nat.mul_one, Nat.add_zero] at hf98_0)
                                 clear hcl98 hcc98 hfr98 hM98
                                 go_wp2_with (first | (go_at_call 75; go_enter Try.func75, Try.ntmps75) | (go_at_call 76; go_enter Try.func76, Try.ntmps76) | ((with_reducible refine gate_store (t := 2) (p := 21) rfl ?_); refine store_event (t := 2) (p := 21) (v := ?vo_w99) (w1 := (wc.setCell ⟨go96, (((rd_T68 t226 0).f0) : Int).toNat * 4, none⟩ (.int .i64 x16_43))) ?hg ?ho ?hn ?hr ?_; (case ho => rfl); (case hg => rfl); (case hn => rfl); (case hr => first | (go_simp; done) | (go_simp; rfl)); intro w99 hw; have hg : wc.grownBy w99 (some go96) := (by rw [hw]; exact HP98.2); have hp_ : Kd.R k117 117 w99 w.heap.size (fun _ => True) (.slice (some ⟨go96, 0, none⟩) x7_56.length co97) y245 := (by rw [hw, Ny245.out]; exact HP98.1); clear HP98; replace HO_232001 := zK (Kd.R_over' (v := (.slice (some ⟨go96, 0, none⟩) x7_56.length co97)) (zr HO_232001) (Kd.R_typed HO_7.out) (by decide) hg); replace BK224 := zK (blk_grown (g := gb224) (o := .cells #[.int .i64 ((rd_T70 l0 x31_2).f0.f0), .slice A223_1 ((rd_T70 l0 x31_2).f0.f1).length c223_1, .bool ((rd_T70 l0 x31_2).f1)] 70 (0, 0)) (zb BK224) hg (Kd.R_ne HO_7.out BK224.out (by decide))); replace BK231 := zK (blk_grown (g := gb231) (o := .cells #[.int .i64 t225, .slice (some ad233) t226.length co21, .bool t229] 70 (0, 0)) (zb BK231) hg (Kd.R_ne HO_7.out BK231.out (by decide))); replace HO_7 := zK (hp_); replace HB := zK ((by rw [hw]; exact yS (HB.out) GB96.out : Below w.heap.size w w99)); clear hg hw hp_; have HX100 := zK (show Kd.R k117 117 w99 w.heap.size (fun _ => True) (.slice (some ⟨go96, 0, none⟩) x7_56.length co97) y245 from (zr HO_7)); obtain ⟨ce100, hcl100, hM100, hcc100, hfr100⟩ := Kd.R_elem HX100.out z117 (((rd_T68 t226 0).f0) : Int) (of_decide_eq_true (by first | (with_reducible assumption) | assumption)) (by have h_ : (((rd_T68 t226 0).f0) : Int) < ((x7_56.length : Int) : Int) := of_decide_eq_true (by first | (with_reducible assumption) | assumption); first | exact h_ | (have e_ := (Kd.R_reads' HO_7.out).1; omega) | simpa using h_); obtain rfl := k117_openM hM100; have HP100 := Kd.R_seg HX100.out (((rd_T68 t226 0).f0) : Int) (of_decide_eq_true (by first | (with_reducible assumption) | assumption)) (by have h_ : (((rd_T68 t226 0).f0) : Int) < ((x7_56.length : Int) : Int) := of_decide_eq_true (by first | (with_reducible assumption) | assumption); first | exact h_ | (have e_ := (Kd.R_reads' HO_7.out).1; omega) | simpa using h_) (seg := [.bool true]) (j := 2) hcl100 hcc100 (show 3 ≤ 4 from by decide) (x' := (⟨(rd_T117 y245 ((rd_T68 t226 0).f0)).f0, (rd_T117 y245 ((rd_T68 t226 0).f0)).f1, true, (rd_T117 y245 ((rd_T68 t226 0).f0)).f3⟩ : S117)) (k117_mkM _ _ _ (⟨(rd_T117 y245 ((rd_T68 t226 0).f0)).f0, (rd_T117 y245 ((rd_T68 t226 0).f0)).f1, true, (rd_T117 y245 ((rd_T68 t226 0).f0)).f3⟩ : S117) ) (fun _ hk => hk); have hx100_2 := hcc100 2 _ rfl; (try simp only [show (k117).sz = 4 from rfl, Nat.mul_one, Nat.add_zero] at hx100_2); have hf100_2 := hfr100 2; (try simp only [show (k117).sz = 4 from rfl, Nat.mul_one, Nat.add_zero] at hf100_2); clear hcl100 hcc100 hfr100 hM100) | ((with_reducible refine gate_store (t := 4) (p := 23) rfl ?_); refine store_event (t := 4) (p := 23) (v := ?vo_w101) (w1 := (w99.setCell ⟨go96, (((rd_T68 t226 0).f0) : Int).toNat * 4 + 2, none⟩ (.bool true))) ?hg ?ho ?hn ?hr ?_; (case ho => rfl); (case hg => rfl); (case hn => rfl); (case hr => first | (go_simp; done) | (go_simp; rfl)); intro w101 hw; have hg : w99.grownBy w101 (some go96) := (by rw [hw]; exact HP100.2); have hp_ : Kd.R k117 117 w101 w.heap.size (fun _ => True) (.slice (some ⟨go96, 0, none⟩) x7_56.length co97) y246 := (by rw [hw, Ny246.out]; exact HP100.1); clear HP100; replace HO_232001 := zK (Kd.R_over' (v := (.slice (some ⟨go96, 0, none⟩) x7_56.length co97)) (zr HO_232001) (Kd.R_typed HO_7.out) (by decide) hg); replace BK224 := zK (blk_grown (g := gb224) (o := .cells #[.int .i64 ((rd_T70 l0 x31_2).f0.f0), .slice A223_1 ((rd_T70 l0 x31_2).f0.f1).length c223_1, .bool ((rd_T70 l0 x31_2).f1)] 70 (0, 0)) (zb BK224) hg (Kd.R_ne HO_7.out BK224.out (by decide))); replace BK231 := zK (blk_grown (g := gb231) (o := .cells #[.int .i64 t225, .slice (some ad233) t226.length co21, .bool t229] 70 (0, 0)) (zb BK231) hg (Kd.R_ne HO_7.out BK231.out (by decide))); replace HO_7 := zK (hp_); replace HB := zK ((by rw [hw]; exact yS (HB.out) GB96.out : Below w.heap.size w w101)); clear hg hw hp_))
                                 repeat (go_end0; simp only []; try go_wp2)
                                 go_roundg kj76
                                 case measure => have := HJ2.out; have := HK2.out; have := HJ13.out; have := HJ36.out; have := HJ43.out; have := HJ47.out; have := HJ50.out; have := HJ56.out; have := HJ76.out; omega
                                 case rel => exact ⟨(y246), (wrap64 (x31_2 + 1)), (by first | rfl | (simp; done) | (simp [*]; done)), H', ⟨by have := HJ2.out; have := HK2.out; have := HJ13.out; have := HJ36.out; have := HJ43.out; have := HJ47.out; have := HJ50.out; have := HJ56.out; have := HJ76.out; omega⟩, ⟨zr HO_7⟩, ⟨zo HB⟩⟩
                               ·rw [if_neg c85] at H
                                exact absurd H (by simp)
                              ·rw [if_neg c84] at H
                               exact absurd H (by simp)
                             ·replace c83 := Bool.eq_false_iff.mpr c83
                              subst c83
                              have H1 : (box_Bounds.l0 kj76 a1 x7_56 l0 (l0.length : Int) (wrap64 (x31_2 + 1))) = some (r1, r2, r3) := by rw [if_neg (show ¬ (false = true) by decide)] at H; exact H
                              clear H; have H := H1; clear H1
                              have H' := zK H; clear H
                              go_wp2
                              repeat (go_end0; simp only []; try go_wp2)
                              go_roundg kj76
                              case measure => have := HJ2.out; have := HK2.out; have := HJ13.out; have := HJ36.out; have := HJ43.out; have := HJ47.out; have := HJ50.out; have := HJ56.out; have := HJ76.out; omega
                              case rel => exact ⟨(x7_56), (wrap64 (x31_2 + 1)), (by first | rfl | (simp; done) | (simp [*]; done)), H', ⟨by have := HJ2.out; have := HK2.out; have := HJ13.out; have := HJ36.out; have := HJ43.out; have := HJ47.out; have := HJ50.out; have := HJ56.out; have := HJ76.out; omega⟩, ⟨zr HO_7⟩, ⟨zo HB⟩⟩
              ·rw [if_neg c36] at H
               exact absurd H (by simp)
          ·rw [if_neg c12] at H
           exact absurd H (by simp)
         ·rw [if_neg c11] at H
          exact absurd H (by simp)
        ·rw [if_neg c10] at H
         have c10b0 : decide (x31_2 < (l0.length : Int)) = false := decide_eq_false c10
         clear c10
         have H' := zK H; clear H
         obtain ⟨Ao102, co102, eo102⟩ := Kd.R_slice HO_7.out
         subst eo102
         go_wp2
         go_loopg [17, 18, 125] k2 (fun kq v17 v18 v125 w' => ∃ (x17_3 : List Int) (x18_3 : List Int) (x125_3 : Int), v125 = .int .i64 x125_3 ∧ Aside0 (box_Bounds.l1 kq x17_3 x18_3 x7_2 (x7_2.length : Int) x125_3 = some (r1, r2, r3)) ∧ Aside0 (kq ≤ k2) ∧ Aside0 (Kd.R (Kd.int .i64) 2 w' w.heap.size (fun k_ => some k_ ≠ (v18 : Value).ownBlock) v17 x17_3) ∧ Aside0 (Kd.R (Kd.int .i64) 2 w' w.heap.size (fun k_ => some k_ ≠ (v17 : Value).ownBlock) v18 x18_3) ∧ Aside0 (Kd.R k117 117 w' w.heap.size (fun _ => True) (.slice Ao102 x7_2.length co102) x7_2) ∧ Aside0 (Below w.heap.size w w'))
         case atStart => exact ⟨(([] : List Int)), (([] : List Int)), (0), (by first | rfl | (simp; done) | (simp [*]; done)), H', ⟨Nat.le_refl _⟩, ⟨by first | exact Kd.R_nil _ _ _ _ _ | exact Kd.N_nil _ _ _ _ _ | exact Kd.V_nil _ _ _ _ _ | exact Kd.Q_nil _ _ _ _ _ | exact Kd.S_nil _ _ _ _ _⟩, ⟨by first | exact Kd.R_nil _ _ _ _ _ | exact Kd.N_nil _ _ _ _ _ | exact Kd.V_nil _ _ _ _ _ | exact Kd.Q_nil _ _ _ _ _ | exact Kd.S_nil _ _ _ _ _⟩, ⟨zr HO_7⟩, ⟨zo HB⟩⟩
         case round =>
          clear H'; try clear c1; try clear hx1; try clear c2
          try clear p2; try clear q2; try clear hx2; try clear qi2
          try clear c3; try clear c4; try clear c4b0; try clear c5
          try clear c6; try clear c6b0; try clear c6b1; try clear p6
          try clear q6; try clear hx6; try clear hf6; try clear c7
          try clear c7b0; try clear c7b1; try clear p7; try clear q7
          try clear hx7; try clear hf7; try clear c8; try clear p8
          try clear q8; try clear hx8; try clear hf8; try clear c9
          try clear p9; try clear q9; try clear hx9; try clear hf9
          try clear c10; try clear c10b0; try clear hx10; try clear hf10
          try clear c11; try clear c11b0; try clear c12; try clear c12b0
          try clear c19; try clear c22; try clear p22; try clear q22
          try clear hx22; try clear c23; try clear c23b0; try clear c23b1
          try clear p23; try clear q23; try clear hx23; try clear qi23
          try clear c24; try clear c24b0; try clear c24b1; try clear p24
          try clear q24; try clear hx24; try clear c25; try clear c29
          try clear c32; try clear c35; try clear c36; try clear c36b0
          try clear c36b1; try clear c38; try clear c39; try clear c39b0
          try clear c40; try clear c40b0; try clear c41; try clear c41b0
          try clear c41b1; try clear c42; try clear c45; try clear c47
          try clear c47b0; try clear c47b1; try clear c49; try clear c49b0
          try clear c49b1; try clear c50; try clear c52; try clear c53
          try clear c55; try clear c58; try clear c59; try clear c59b0
          try clear c60; try clear c60b0; try clear q61; try clear c62
          try clear c63; try clear c63b0; try clear c64; try clear p64
          try clear q64; try clear hx64; try clear hf64; try clear c66
          try clear hx66; try clear hf66; try clear c68; try clear hx68
          try clear hf68; try clear c71; try clear p71; try clear q71
          try clear hx71; try clear hf71; try clear c73; try clear hx73
          try clear hf73; try clear c75; try clear hx75; try clear hf75
          try clear c78; try clear c79; try clear c81; try clear c83
          try clear c84; try clear c84b0; try clear c85; try clear c85b0
          try clear q86; try clear c87; try clear c88; try clear c88b0
          try clear c89; try clear p89; try clear q89; try clear hx89
          try clear hf89; try clear c91; try clear hx91; try clear hf91
          try clear c93; try clear hx93; try clear hf93; try clear c96
          try clear p96; try clear q96; try clear hx96; try clear hf96
          try clear c98; try clear hx98; try clear hf98; try clear c100
          try clear hx100; try clear hf100; try clear hcz16_0; try clear hcz16_1
          try clear hcz16_2; try clear hcz20_0; try clear hcz20_1; try clear hcz20_2
          try clear hcz26_0; try clear hcz26_1; try clear hcz26_2; try clear hcz28_0
          try clear hcz28_1; try clear hcz28_2; try clear hcz30_0; try clear hcz30_1
          try clear hcz30_2; try clear hcz33_0; try clear hcz33_1; try clear hcz33_2
          try clear hcz46_0; try clear hcz46_1; try clear hcz46_2; try clear hcz54_0
          try clear hcz54_1; try clear hcz54_2; try clear hcz56_0; try clear hcz56_1
          try clear hcz56_2; try clear hcz80_0; try clear hcz80_1; try clear hcz80_2
          try clear hcz82_0; try clear hcz82_1; try clear hcz82_2; try clear hfz16_0
          try clear hfz16_1; try clear hfz16_2; try clear hfz20_0; try clear hfz20_1
          try clear hfz20_2; try clear hfz26_0; try clear hfz26_1; try clear hfz26_2
          try clear hfz28_0; try clear hfz28_1; try clear hfz28_2; try clear hfz30_0
          try clear hfz30_1; try clear hfz30_2; try clear hfz33_0; try clear hfz33_1
          try clear hfz33_2; try clear hfz46_0; try clear hfz46_1; try clear hfz46_2
          try clear hfz54_0; try clear hfz54_1; try clear hfz54_2; try clear hfz56_0
          try clear hfz56_1; try clear hfz56_2; try clear hfz80_0; try clear hfz80_1
          try clear hfz80_2; try clear hfz82_0; try clear hfz82_1; try clear hfz82_2
          try clear hx100_2; try clear hx223_0; try clear hx223_1; try clear hx223_2
          try clear hx233_0; try clear hx233_1; try clear hx234_0; try clear hx234_1
          try clear hx237_0; try clear hx237_1; try clear hx237_2; try clear hx237_3
          try clear hx242_0; try clear hx242_1; try clear hx242_2; try clear hx242_3
          try clear hx64_0; try clear hx64_1; try clear hx64_2; try clear hx64_3
          try clear hx66_1; try clear hx68_3; try clear hx71_0; try clear hx71_1
          try clear hx71_2; try clear hx71_3; try clear hx73_1; try clear hx75_3
          try clear hx89_0; try clear hx89_1; try clear hx89_2; try clear hx89_3
          try clear hx91_0; try clear hx93_2; try clear hx96_0; try clear hx96_1
          try clear hx96_2; try clear hx96_3; try clear hx98_0; try clear p2
          try clear p22; try clear p223; try clear p23; try clear p233
          try clear p234; try clear p237; try clear p242; try clear p6
          try clear p64; try clear p7; try clear p71; try clear p89
          try clear p96; try clear q2; try clear q22; try clear q223
          try clear q23; try clear q233; try clear q234; try clear q237
          try clear q242; try clear q6; try clear q61; try clear q64
          try clear q7; try clear q71; try clear q89; try clear q96
          obtain ⟨x17_3, x18_3, x125_3, rfl, HA, HK3, HO_17, HO_18, HO_123, HB⟩ := hrel
          cases gk with
          | zero => exact absurd HA.out (by simp [box_Bounds.l1])
          | succ k3 =>
           have H := HA.out; clear HA
           simp only [box_Bounds.l1] at H
           by_cases c103 : x125_3 < (x7_2.length : Int)
           ·rw [if_pos c103] at H
            have c103b0 : decide (x125_3 < (x7_2.length : Int)) = true := decide_eq_true c103
            clear c103
            by_cases c104 : 0 ≤ x125_3
            ·rw [if_pos c104] at H
             have c104b0 : decide (0 ≤ x125_3) = true := decide_eq_true c104; clear c104
             by_cases c105 : x125_3 < (x7_2.length : Int)
             ·rw [if_pos c105] at H
              have c105b0 : decide (x125_3 < (x7_2.length : Int)) = true := decide_eq_true c105
              clear c105
              obtain ⟨bq106, hbq106⟩ : ∃ b_ : Bool, b_ = ((rd_T117 x7_2 x125_3).f2) := ⟨_, rfl⟩
              replace H : (if (bq106 = true) then (if ((rd_T117 x7_2 x125_3).f3 = true) then ((some (([(rd_T117 x7_2 x125_3).f0] : List Int) : List Int)).bind fun y249 => (if x17_3.length + y249.length < 17592186044416 then ((some (([(rd_T117 x7_2 x125_3).f1] : List Int) : List Int)).bind fun y255 => (if x18_3.length + y255.length < 17592186044416 then (box_Bounds.l1 k3 (x17_3 ++ y249) (x18_3 ++ y255) x7_2 (x7_2.length : Int) (wrap64 (x125_3 + 1))) else (none))) else (none))) else (some (([] : List Int), ([] : List Int), false))) else (some (([] : List Int), ([] : List Int), false))) = some (r1, r2, r3) := by rw [← hbq106] at H; exact H
              have Nbq106 := zK hbq106; clear hbq106
              by_cases c107 : (bq106 = true)
              ·subst c107
               have H1 : (if ((rd_T117 x7_2 x125_3).f3 = true) then ((some (([(rd_T117 x7_2 x125_3).f0] : List Int) : List Int)).bind fun y249 => (if x17_3.length + y249.length < 17592186044416 then ((some (([(rd_T117 x7_2 x125_3).f1] : List Int) : List Int)).bind fun y255 => (if x18_3.length + y255.length < 17592186044416 then (box_Bounds.l1 k3 (x17_3 ++ y249) (x18_3 ++ y255) x7_2 (x7_2.length : Int) (wrap64 (x125_3 + 1))) else (none))) else (none))) else (some (([] : List Int), ([] : List Int), false))) = some (r1, r2, r3) := by rw [if_pos rfl] at H; exact H
               clear H; have H := H1; clear H1
               obtain ⟨bq108, hbq108⟩ : ∃ b_ : Bool, b_ = ((rd_T117 x7_2 x125_3).f3) := ⟨_, rfl⟩
               replace H : (if (bq108 = true) then ((some (([(rd_T117 x7_2 x125_3).f0] : List Int) : List Int)).bind fun y249 => (if x17_3.length + y249.length < 17592186044416 then ((some (([(rd_T117 x7_2 x125_3).f1] : List Int) : List Int)).bind fun y255 => (if x18_3.length + y255.length < 17592186044416 then (box_Bounds.l1 k3 (x17_3 ++ y249) (x18_3 ++ y255) x7_2 (x7_2.length : Int) (wrap64 (x125_3 + 1))) else (none))) else (none))) else (some (([] : List Int), ([] : List Int), false))) = some (r1, r2, r3) := by rw [← hbq108] at H; exact H
               have Nbq108 := zK hbq108; clear hbq108
               by_cases c109 : (bq108 = true)
               ·subst c109
                have H1 : ((some (([(rd_T117 x7_2 x125_3).f0] : List Int) : List Int)).bind fun y249 => (if x17_3.length + y249.length < 17592186044416 then ((some (([(rd_T117 x7_2 x125_3).f1] : List Int) : List Int)).bind fun y255 => (if x18_3.length + y255.length < 17592186044416 then (box_Bounds.l1 k3 (x17_3 ++ y249) (x18_3 ++ y255) x7_2 (x7_2.length : Int) (wrap64 (x125_3 + 1))) else (none))) else (none))) = some (r1, r2, r3) := by rw [if_pos rfl] at H; exact H
                clear H; have H := H1; clear H1
                obtain ⟨y249, hy249⟩ : ∃ y_ : List Int, y_ = (([(rd_T117 x7_2 x125_3).f0] : List Int)) := ⟨_, rfl⟩
                replace H : (if x17_3.length + y249.length < 17592186044416 then ((some (([(rd_T117 x7_2 x125_3).f1] : List Int) : List Int)).bind fun y255 => (if x18_3.length + y255.length < 17592186044416 then (box_Bounds.l1 k3 (x17_3 ++ y249) (x18_3 ++ y255) x7_2 (x7_2.length : Int) (wrap64 (x125_3 + 1))) else (none))) else (none)) = some (r1, r2, r3) := by first | (rw [hy249]; with_reducible exact H) | (have H2_ := (Option.bind_some _ _).symm.trans H; rw [hy249]; with_reducible exact H2_) | (have H2_ := (Option.bind_some _ _).symm.trans H; with_reducible exact H2_) | with_reducible exact H | (rw [hy249]; exact H) | exact H
                have Ny249 := zK hy249; clear hy249
                by_cases c110 : x17_3.length + y249.length < 17592186044416
                ·rw [if_pos c110] at H
                 have LMc110 := zK c110; clear c110
                 obtain ⟨y252, hy252⟩ : ∃ y_ : List Int, y_ = (x17_3 ++ y249) := ⟨_, rfl⟩
                 replace H : ((some (([(rd_T117 x7_2 x125_3).f1] : List Int) : List Int)).bind fun y255 => (if x18_3.length + y255.length < 17592186044416 then (box_Bounds.l1 k3 y252 (x18_3 ++ y255) x7_2 (x7_2.length : Int) (wrap64 (x125_3 + 1))) else (none))) = some (r1, r2, r3) := by first | (rw [hy252]; with_reducible exact H) | (have H2_ := (Option.bind_some _ _).symm.trans H; rw [hy252]; with_reducible exact H2_) | (have H2_ := (Option.bind_some _ _).symm.trans H; with_reducible exact H2_) | with_reducible exact H | (rw [hy252]; exact H) | exact H
                 have Ny252 := zK hy252; clear hy252
                 obtain ⟨y255, hy255⟩ : ∃ y_ : List Int, y_ = (([(rd_T117 x7_2 x125_3).f1] : List Int)) := ⟨_, rfl⟩
                 replace H : (if x18_3.length + y255.length < 17592186044416 then (box_Bounds.l1 k3 y252 (x18_3 ++ y255) x7_2 (x7_2.length : Int) (wrap64 (x125_3 + 1))) else (none)) = some (r1, r2, r3) := by first | (rw [hy255]; with_reducible exact H) | (have H2_ := (Option.bind_some _ _).symm.trans H; rw [hy255]; with_reducible exact H2_) | (have H2_ := (Option.bind_some _ _).symm.trans H; with_reducible exact H2_) | with_reducible exact H | (rw [hy255]; exact H) | exact H
                 have Ny255 := zK hy255; clear hy255
                 by_cases c111 : x18_3.length + y255.length < 17592186044416
                 ·rw [if_pos c111] at H
                  have LMc111 := zK c111; clear c111
                  obtain ⟨y258, hy258⟩ : ∃ y_ : List Int, y_ = (x18_3 ++ y255) := ⟨_, rfl⟩
                  replace H : (box_Bounds.l1 k3 y252 y258 x7_2 (x7_2.length : Int) (wrap64 (x125_3 + 1))) = some (r1, r2, r3) := by first | (rw [hy258]; with_reducible exact H) | (have H2_ := (Option.bind_some _ _).symm.trans H; rw [hy258]; with_reducible exact H2_) | (have H2_ := (Option.bind_some _ _).symm.trans H; with_reducible exact H2_) | with_reducible exact H | (rw [hy258]; exact H) | exact H
                  have Ny258 := zK hy258; clear hy258
                  have H' := zK H; clear H
                  have p247 : 0 ≤ (x125_3 : Int) := of_decide_eq_true (by first | (with_reducible assumption) | assumption)
                  have q247 : x125_3 < (x7_2.length : Int) := of_decide_eq_true (by first | (with_reducible assumption) | assumption)
                  obtain ⟨ad247, e247, hx247_0, hx247_1, hx247_2, hx247_3⟩ := at_T117 (Kd.R_reads' HO_123.out).2.2 x125_3 p247 q247
                  (try rw [← Nbq106.out] at hx247_2)
                  (try rw [← Nbq106.out] at A13)
                  (try rw [← Nbq106.out] at A22)
                  (try rw [← Nbq106.out] at A43)
                  (try rw [← Nbq108.out] at hx247_2)
                  (try rw [← Nbq108.out] at A13)
                  (try rw [← Nbq108.out] at A22)
                  (try rw [← Nbq108.out] at A43)
                  (try rw [← Nbq106.out] at hx247_3)
                  (try rw [← Nbq106.out] at A13)
                  (try rw [← Nbq106.out] at A22)
                  (try rw [← Nbq106.out] at A43)
                  (try rw [← Nbq108.out] at hx247_3)
                  (try rw [← Nbq108.out] at A13)
                  (try rw [← Nbq108.out] at A22)
                  (try rw [← Nbq108.out] at A43)
                  cases e247
                  replace p247 := eq_true p247
                  replace q247 := eq_true q247
                  try go_wp2_with (first | ((with_reducible refine gate_dst (N := 20) rfl ?_); (try (refine zG (by rfl) ?_; dsimp only)); refine box_event ?hg (N := 20) ?hd (cs := #[.int .i64 0, .int .i64 0, .bool false, .bool false]) (t := 117) ?hr ?_; (case hd => rfl); (case hg => rfl); (case hr => first | (go_simp; done) | (go_simp; rfl)); intro gb248 hg w112 hbox hb; replace HO_17 := zK (Kd.R_below (zr HO_17) hb); replace HO_18 := zK (Kd.R_below (zr HO_18) hb); replace HO_123 := zK (Kd.R_below (Kd.R_elderB (zr HO_123) gb248 (Nat.le_of_eq hg.symm)) hb); have BK248 := zK (hbox); have GW248 := zK ((by rw [hg]; exact (below_size (zo HB)) : w.heap.size ≤ gb248)); have GE248 := zK ((by rw [hg]; exact (below_size (zo HB)) : w.heap.size ≤ gb248)); replace HB := zK (below_step (zo HB) hb); clear hb hbox hg; have hcz113_0 : w112.cell? ⟨gb248, 0, none⟩ = some (.int .i64 0) := (blk_cell BK248.out 0).trans rfl; have hcz113_1 : w112.cell? ⟨gb248, 1, none⟩ = some (.int .i64 0) := (blk_cell BK248.out 1).trans rfl; have hcz113_2 : w112.cell? ⟨gb248, 2, none⟩ = some (.bool false) := (blk_cell BK248.out 2).trans rfl; have hcz113_3 : w112.cell? ⟨gb248, 3, none⟩ = some (.bool false) := (blk_cell BK248.out 3).trans rfl; have hfz113_0 := blk_frozen BK248.out 0; have hfz113_1 := blk_frozen BK248.out 1; have hfz113_2 := blk_frozen BK248.out 2; have hfz113_3 := blk_frozen BK248.out 3; obtain ⟨Ao114, co114, eo114⟩ := Kd.R_slice HO_17.out; subst eo114; obtain ⟨Ao115, co115, eo115⟩ := Kd.R_slice HO_18.out; subst eo115))
                  have n0_ : Aside0 (Kd.R (Kd.int .i64) 2 ((((w112.setCell ⟨gb248, 0, none⟩ (.int .i64 ((rd_T117 x7_2 x125_3).f0))).setCell ⟨gb248, 1, none⟩ (.int .i64 ((rd_T117 x7_2 x125_3).f1))).setCell ⟨gb248, 2, none⟩ (.bool true)).setCell ⟨gb248, 3, none⟩ (.bool true)) w.heap.size (fun k_ => some k_ ≠ (.slice Ao115 x18_3.length co115 : Value).ownBlock) (.slice Ao114 x17_3.length co114) x17_3) := ⟨by (with_reducible repeat (first | apply Kd.R_alloc | apply Kd.R_drewN | apply Kd.R_drew)); exact Kd.R_mono (Kd.R_far (p := ⟨gb248, 3, none⟩) (Kd.R_far (p := ⟨gb248, 2, none⟩) (Kd.R_far (p := ⟨gb248, 1, none⟩) (Kd.R_far (p := ⟨gb248, 0, none⟩) (Kd.R_types HO_17.out BK248.out (by decide)) (fun _ hk => hk.2) (.int .i64 ((rd_T117 x7_2 x125_3).f0))) (fun _ hk => hk.2) (.int .i64 ((rd_T117 x7_2 x125_3).f1))) (fun _ hk => hk.2) (.bool true)) (fun _ hk => hk.2) (.bool true)) (fun _ hk => hk.1)⟩
                  have n1_ : Aside0 (Kd.R (Kd.int .i64) 2 ((((w112.setCell ⟨gb248, 0, none⟩ (.int .i64 ((rd_T117 x7_2 x125_3).f0))).setCell ⟨gb248, 1, none⟩ (.int .i64 ((rd_T117 x7_2 x125_3).f1))).setCell ⟨gb248, 2, none⟩ (.bool true)).setCell ⟨gb248, 3, none⟩ (.bool true)) w.heap.size (fun k_ => some k_ ≠ (.slice Ao114 x17_3.length co114 : Value).ownBlock) (.slice Ao115 x18_3.length co115) x18_3) := ⟨by (with_reducible repeat (first | apply Kd.R_alloc | apply Kd.R_drewN | apply Kd.R_drew)); exact Kd.R_mono (Kd.R_far (p := ⟨gb248, 3, none⟩) (Kd.R_far (p := ⟨gb248, 2, none⟩) (Kd.R_far (p := ⟨gb248, 1, none⟩) (Kd.R_far (p := ⟨gb248, 0, none⟩) (Kd.R_types HO_18.out BK248.out (by decide)) (fun _ hk => hk.2) (.int .i64 ((rd_T117 x7_2 x125_3).f0))) (fun _ hk => hk.2) (.int .i64 ((rd_T117 x7_2 x125_3).f1))) (fun _ hk => hk.2) (.bool true)) (fun _ hk => hk.2) (.bool true)) (fun _ hk => hk.1)⟩
                  have n2_ : Aside0 (Kd.R k117 117 ((((w112.setCell ⟨gb248, 0, none⟩ (.int .i64 ((rd_T117 x7_2 x125_3).f0))).setCell ⟨gb248, 1, none⟩ (.int .i64 ((rd_T117 x7_2 x125_3).f1))).setCell ⟨gb248, 2, none⟩ (.bool true)).setCell ⟨gb248, 3, none⟩ (.bool true)) w.heap.size (fun k_ => k_ ≠ gb248) (.slice (some ad247) x7_2.length co102) x7_2) := ⟨by (with_reducible repeat (first | apply Kd.R_alloc | apply Kd.R_drewN | apply Kd.R_drew)); exact Kd.R_mono (Kd.R_far (p := ⟨gb248, 3, none⟩) (Kd.R_far (p := ⟨gb248, 2, none⟩) (Kd.R_far (p := ⟨gb248, 1, none⟩) (Kd.R_far (p := ⟨gb248, 0, none⟩) (Kd.R_mono HO_123.out (fun k_ hk => (⟨hk, hk.2⟩ : _ ∧ k_ ≠ gb248))) (fun _ hk => hk.2) (.int .i64 ((rd_T117 x7_2 x125_3).f0))) (fun _ hk => hk.2) (.int .i64 ((rd_T117 x7_2 x125_3).f1))) (fun _ hk => hk.2) (.bool true)) (fun _ hk => hk.2) (.bool true)) (fun _ hk => hk.1.2)⟩
                  have n3_ : Aside0 (((((w112.setCell ⟨gb248, 0, none⟩ (.int .i64 ((rd_T117 x7_2 x125_3).f0))).setCell ⟨gb248, 1, none⟩ (.int .i64 ((rd_T117 x7_2 x125_3).f1))).setCell ⟨gb248, 2, none⟩ (.bool true)).setCell ⟨gb248, 3, none⟩ (.bool true)).heap[gb248]? = some (.cells #[.int .i64 ((rd_T117 x7_2 x125_3).f0), .int .i64 ((rd_T117 x7_2 x125_3).f1), .bool true, .bool true] 117 (0, 0))) := ⟨by refine zM ?_; refine blk_put (cs := #[.int .i64 ((rd_T117 x7_2 x125_3).f0), .int .i64 ((rd_T117 x7_2 x125_3).f1), .bool true, .bool false]) ?_ 3 _ rfl; refine zM ?_; refine blk_put (cs := #[.int .i64 ((rd_T117 x7_2 x125_3).f0), .int .i64 ((rd_T117 x7_2 x125_3).f1), .bool false, .bool false]) ?_ 2 _ rfl; refine zM ?_; refine blk_put (cs := #[.int .i64 ((rd_T117 x7_2 x125_3).f0), .int .i64 0, .bool false, .bool false]) ?_ 1 _ rfl; refine zM ?_; refine blk_put (cs := #[.int .i64 0, .int .i64 0, .bool false, .bool false]) ?_ 0 _ rfl; refine zM ?_; exact BK248.out⟩
                  have n4_ : Aside0 (Below w.heap.size w ((((w112.setCell ⟨gb248, 0, none⟩ (.int .i64 ((rd_T117 x7_2 x125_3).f0))).setCell ⟨gb248, 1, none⟩ (.int .i64 ((rd_T117 x7_2 x125_3).f1))).setCell ⟨gb248, 2, none⟩ (.bool true)).setCell ⟨gb248, 3, none⟩ (.bool true))) := ⟨zo HB⟩
                  (try clear HO_17)
                  (try clear HO_18)
                  (try clear HO_123)
                  (try clear BK248)
                  (try clear HB)
                  generalize ((((w112.setCell ⟨gb248, 0, none⟩ (.int .i64 ((rd_T117 x7_2 x125_3).f0))).setCell ⟨gb248, 1, none⟩ (.int .i64 ((rd_T117 x7_2 x125_3).f1))).setCell ⟨gb248, 2, none⟩ (.bool true)).setCell ⟨gb248, 3, none⟩ (.bool true)) = w116 at n0_ n1_ n2_ n3_ n4_ ⊢
                  have HO_17 := n0_
                  have HO_18 := n1_
                  have HO_123 := n2_
                  have BK248 := n3_
                  have HB := n4_; clear n0_ n1_ n2_ n3_ n4_
                  replace HO_17 := zK (Kd.R_drew HO_17.out)
                  replace HO_18 := zK (Kd.R_drew HO_18.out)
                  replace HO_123 := zK (Kd.R_drew HO_123.out)
                  replace BK248 := zK (zD BK248.out)
                  replace HB := zK (yD HB.out)
                  refine start_ (n := 12) (S := fun w' => w'.cell? ⟨gb248, 0, none⟩ = some (.int .i64 ((rd_T117 x7_2 x125_3).f0)) ∧ w'.cell? ⟨gb248, 1, none⟩ = some (.int .i64 ((rd_T117 x7_2 x125_3).f1)) ∧ w'.cell? ⟨gb248, 2, none⟩ = some (.bool true) ∧ w'.cell? ⟨gb248, 3, none⟩ = some (.bool true)) (ds := []) #[F_,F_,F_,F_,F_,F_,F_,F_,F_,F_,F_,F_] (by kernel_rfl) rfl rfl ⟨(blk_cell BK248.out 0).trans rfl, (blk_cell BK248.out 1).trans rfl, (blk_cell BK248.out 2).trans rfl, (blk_cell BK248.out 3).trans rfl⟩ (fun hHeld => ?_); refine with_tabW box_Bounds.tab27 box_Bounds.bits27 (fun HT_ HW_ => ?_)
                  generalize w116.drew = w117 at HO_17 HO_18 HO_123 BK248 HB hHeld ⊢
                  refine pure_ (i := 0) (N := some 137) (v := ?_) (a' := ?_) #[T_,F_,F_,F_,F_,F_,F_,F_,F_,F_,F_,F_] rfl rfl (any_of HT_.out (by kernel_rfl)) (fun _ _ _ h => h) (Or.inl ⟨by rfl, ?_⟩) ?_ ?_; rotate_left; (intro w'; go_simp; with_reducible rfl); rotate_left; (simp only [Act.put, zt, zz, zs, i64_w, i32_w]; rfl)
                  refine pure_ (i := 1) (N := some 138) (v := ?_) (a' := ?_) #[T_,T_,F_,F_,F_,F_,F_,F_,F_,F_,F_,F_] rfl rfl (any_of HT_.out (by kernel_rfl)) (fun _ _ _ h => h) (Or.inl ⟨by rfl, ?_⟩) ?_ ?_; rotate_left; (intro w'; go_simp; with_reducible rfl); rotate_left; (simp only [Act.put, zt, zz, zs, i64_w, i32_w]; rfl)
                  refine pure_ (i := 5) (N := some 142) (v := ?_) (a' := ?_) #[T_,T_,F_,F_,F_,T_,F_,F_,F_,F_,F_,F_] rfl rfl (any_of HT_.out (by kernel_rfl)) (fun _ _ _ h => h) (Or.inl ⟨by rfl, ?_⟩) ?_ ?_; rotate_left; (intro w'; go_simp; with_reducible rfl); rotate_left; (simp only [Act.put, zt, zz, zs, i64_w, i32_w]; rfl)
                  refine pure_ (i := 6) (N := some 143) (v := ?_) (a' := ?_) #[T_,T_,F_,F_,F_,T_,T_,F_,F_,F_,F_,F_] rfl rfl (any_of HT_.out (by kernel_rfl)) (fun _ _ _ h => h) (Or.inl ⟨by rfl, ?_⟩) ?_ ?_; rotate_left; (intro w'; go_simp; with_reducible rfl); rotate_left; (simp only [Act.put, zt, zz, zs, i64_w, i32_w]; rfl)
                  refine take_ (i := 2) (N := some 139) (v := ?_) (a' := ?_) #[T_,T_,T_,F_,F_,T_,T_,F_,F_,F_,F_,F_] rfl rfl (take_ofW HT_.out HW_.out (by kernel_rfl)) (fun _ _ _ h => h) (Or.inl ⟨by rfl, ?_⟩) hHeld ?_ ?_; rotate_left; (rintro w' ⟨s0, s1, s2, s3⟩; go_simp; with_reducible rfl); rotate_left; (simp only [Act.put, zt, zz, zs, i64_w, i32_w]; rfl)
                  refine take_ (i := 7) (N := some 144) (v := ?_) (a' := ?_) #[T_,T_,T_,F_,F_,T_,T_,T_,F_,F_,F_,F_] rfl rfl (take_ofW HT_.out HW_.out (by kernel_rfl)) (fun _ _ _ h => h) (Or.inl ⟨by rfl, ?_⟩) hHeld ?_ ?_; rotate_left; (rintro w' ⟨s0, s1, s2, s3⟩; go_simp; with_reducible rfl); rotate_left; (simp only [Act.put, zt, zz, zs, i64_w, i32_w]; rfl)
                  refine join_ (σ := Value × Value × Value) 3 #[T_,T_,T_,T_,T_,T_,T_,T_,T_,F_,F_,F_] (fun s_ => [(140, s_.1), (141, s_.2.1), (145, s_.2.2)]) (fun s_ w' => (w'.cell? ⟨gb248, 0, none⟩ = some (.int .i64 ((rd_T117 x7_2 x125_3).f0)) ∧ w'.cell? ⟨gb248, 1, none⟩ = some (.int .i64 ((rd_T117 x7_2 x125_3).f1)) ∧ w'.cell? ⟨gb248, 2, none⟩ = some (.bool true) ∧ w'.cell? ⟨gb248, 3, none⟩ = some (.bool true)) ∧ (Kd.R (Kd.int .i64) 2 w' w.heap.size (fun k_ => some k_ ≠ (s_.2.1 : Value).ownBlock ∧ some k_ ≠ (s_.2.2 : Value).ownBlock ∧ some k_ ≠ (.slice Ao115 x18_3.length co115 : Value).ownBlock) s_.1 y249) ∧ (Kd.R (Kd.int .i64) 2 w' w.heap.size (fun k_ => some k_ ≠ (s_.1 : Value).ownBlock ∧ some k_ ≠ (s_.2.2 : Value).ownBlock ∧ some k_ ≠ (.slice Ao115 x18_3.length co115 : Value).ownBlock) s_.2.1 y252) ∧ (Kd.R (Kd.int .i64) 2 w' w.heap.size (fun k_ => some k_ ≠ (s_.1 : Value).ownBlock ∧ some k_ ≠ (s_.2.1 : Value).ownBlock ∧ some k_ ≠ (.slice Ao115 x18_3.length co115 : Value).ownBlock) s_.2.2 y255) ∧ (Kd.R k117 117 w' w.heap.size (fun k_ => k_ ≠ gb248) (.slice (some ad247) x7_2.length co102) x7_2) ∧ (Kd.R (Kd.int .i64) 2 w' w.heap.size (fun k_ => some k_ ≠ (s_.1 : Value).ownBlock ∧ some k_ ≠ (s_.2.1 : Value).ownBlock ∧ some k_ ≠ (s_.2.2 : Value).ownBlock) (.slice Ao115 x18_3.length co115) x18_3) ∧ (w'.heap[gb248]? = some (.cells #[.int .i64 ((rd_T117 x7_2 x125_3).f0), .int .i64 ((rd_T117 x7_2 x125_3).f1), .bool true, .bool true] 117 (0, 0))) ∧ (Below w.heap.size w w')) ?_ ?_
                  rotate_left
                  ·intro hCont
                   refine two_ (i := 3) (j := 8) (Ni := some 140) (Nj := some 145) #[T_,T_,T_,T_,F_,T_,T_,T_,F_,F_,F_,F_] #[T_,T_,T_,F_,F_,T_,T_,T_,T_,F_,F_,F_] rfl rfl rfl rfl (two_of HT_.out (by kernel_rfl)) (by decide) (by decide) (fun K hK => ?_) (fun K hK => ?_)
                   ·skip
                    refine Kd.R_lit_step (Kd.int .i64) _ 2 ?hg (N := 140) ?hd (xs := ([(rd_T117 x7_2 x125_3).f0] : List Int)) (inner := [.int .i64 ((rd_T117 x7_2 x125_3).f0)]) (ok := fun _ => True) (okp := fun _ => True) ?hr ?hp (fun _ hk => hk) trivial (Below.refl _ _) (Nat.le_refl _) (by simp) ?_; (case hd => rfl); (case hg => rfl); (case hr => first | (go_simp; done) | (go_simp; rfl)); (case hp => exact (Reps.one (show Kd.M (Kd.int .i64) _ _ _ ((rd_T117 x7_2 x125_3).f0) [.int .i64 ((rd_T117 x7_2 x125_3).f0)] from rfl) (Reps.none _ _)))
                    intro v250 w118 ho119 hb hg_ hnew_
                    clear hg_ hnew_
                    (first | rw [← Ny249.out] at ho119 | (simp only [Int.reduceToNat] at ho119; rw [← Ny249.out] at ho119))
                    replace HO_123 := zK (Kd.R_below (zr HO_123) hb)
                    have HO251 := zK (Kd.R_lower (Kd.R_new' (Kd.R_new' ho119 (Kd.R_lt (zr HO_17))) (Kd.R_lt (zr HO_18))) (below_size (zo HB)))
                    replace HO_17 := zK (Kd.R_elder' (zr HO_17) (Kd.R_base ho119) hb)
                    replace HO_18 := zK (Kd.R_elder' (zr HO_18) (Kd.R_base ho119) hb)
                    replace BK248 := zK (blk_below (g := gb248) (o := .cells #[.int .i64 ((rd_T117 x7_2 x125_3).f0), .int .i64 ((rd_T117 x7_2 x125_3).f1), .bool true, .bool true] 117 (0, 0)) (zb BK248) hb)
                    replace HB := zK (below_step (zo HB) hb); clear hb ho119
                    obtain ⟨Ao121, co121, eo121⟩ := Kd.R_slice HO251.out
                    (first | subst eo121 | (injection eo121 with f1_ f2_ f3_; have f4_ := f1_.symm; have f5_ := f3_.symm; clear f1_ f2_ f3_; subst f4_; subst f5_))
                    refine hK.out _ _ ⟨(blk_cell BK248.out 0).trans rfl, (blk_cell BK248.out 1).trans rfl, (blk_cell BK248.out 2).trans rfl, (blk_cell BK248.out 3).trans rfl⟩ (fun hHeld => ?_)
                    clear hK K
                    refine norm_ (a' := ?_) ?_ ?_; rotate_left; (show Act.put _ (some 140) _ = _; simp only [Act.put, zt, zz, zs, i64_w, i32_w]; rfl)
                    refine two_ (i := 4) (j := 8) (Ni := some 141) (Nj := some 145) #[T_,T_,T_,T_,T_,T_,T_,T_,F_,F_,F_,F_] #[T_,T_,T_,T_,F_,T_,T_,T_,T_,F_,F_,F_] rfl rfl rfl rfl (two_of HT_.out (by kernel_rfl)) (by decide) (by decide) (fun K hK => ?_) (fun K hK => ?_)
                    ·skip
                     refine Kd.R_append_rows_step (Kd.int .i64) (w0 := w) w.heap.size (by rfl) (.tmp 137) (.tmp 140) 33 2 (.int .i64 0) 8 rfl Try.underlying33 info2 rfl (by decide) (by omega) (.slice Ao114 x17_3.length co114) x17_3 y249 _ _ _ (fun k_ => some k_ ≠ (.slice Ao115 x18_3.length co115 : Value).ownBlock ∧ some k_ ≠ (.slice Ao121 y249.length co121 : Value).ownBlock) (fun _ => False) rfl rfl ?aO ?aR (fun _ _ h => h) (fun _ h => h.elim) ?aF ?aB ?aS ?aL ?_
                     (case aR => repeat (first | exact (Kd.R_reads' HO251.out).2.2 | (with_reducible refine cA ?_ _) | (with_reducible refine cN ?_ _) | (with_reducible refine cD ?_)))
                     (case aB => exact (zo HB))
                     (case aF => exact (fun k_ hk => ⟨Kd.fresh' (Kd.R_lt (zr HO_18)) k_ hk, Kd.fresh' (Kd.R_lt (zr HO251)) k_ hk⟩))
                     (case aO => exact (zr HO_17))
                     (case aS => exact (below_size (zo HB)))
                     (case aL => have := LMc110.out; omega)
                     intro v253 w120 ho hb hg hat
                     rw [← Ny252.out] at ho
                     replace HO_18 := zK (Kd.R_after (ok := (fun k_ => some k_ ≠ (.slice Ao121 y249.length co121 : Value).ownBlock)) (by (with_reducible repeat (first | apply Kd.R_alloc | apply Kd.R_drewN | apply Kd.R_drew)); exact Kd.R_mono HO_18.out (fun _ hk => ⟨hk.2, hk.1⟩)) hg hat)
                     replace HO_123 := zK (Kd.R_over' (zr HO_123) (Kd.R_typed (zr HO_17)) (by decide) hg)
                     replace BK248 := zK (blk_grown (g := gb248) (o := .cells #[.int .i64 ((rd_T117 x7_2 x125_3).f0), .int .i64 ((rd_T117 x7_2 x125_3).f1), .bool true, .bool true] 117 (0, 0)) (zb BK248) hg (Kd.R_ne HO_17.out BK248.out (by decide)))
                     replace HO251 := zK (Kd.R_after (ok := (fun k_ => some k_ ≠ (.slice Ao115 x18_3.length co115 : Value).ownBlock)) (by (with_reducible repeat (first | apply Kd.R_alloc | apply Kd.R_drewN | apply Kd.R_drew)); exact Kd.R_mono HO251.out (fun _ hk => ⟨hk.2, hk.1.2⟩)) hg hat)
                     replace HB := zK (hb)
                     have HO254 := zK (ho); clear HO_17 ho hb hg hat
                     refine hK.out _ _ ⟨(blk_cell BK248.out 0).trans rfl, (blk_cell BK248.out 1).trans rfl, (blk_cell BK248.out 2).trans rfl, (blk_cell BK248.out 3).trans rfl⟩ (fun hHeld => ?_)
                     clear hK K
                     refine norm_ (a' := ?_) ?_ ?_; rotate_left; (show Act.put _ (some 141) _ = _; simp only [Act.put, zt, zz, zs, i64_w, i32_w]; rfl)
                     refine one_ (i := 8) (N := some 145) #[T_,T_,T_,T_,T_,T_,T_,T_,T_,F_,F_,F_] rfl rfl (one_of HT_.out (by kernel_rfl)) (by decide) (fun K hK => ?_)
                     refine Kd.R_lit_step (Kd.int .i64) _ 2 ?hg (N := 145) ?hd (xs := ([(rd_T117 x7_2 x125_3).f1] : List Int)) (inner := [.int .i64 ((rd_T117 x7_2 x125_3).f1)]) (ok := fun _ => True) (okp := fun _ => True) ?hr ?hp (fun _ hk => hk) trivial (Below.refl _ _) (Nat.le_refl _) (by simp) ?_; (case hd => rfl); (case hg => rfl); (case hr => first | (go_simp; done) | (go_simp; rfl)); (case hp => exact (Reps.one (show Kd.M (Kd.int .i64) _ _ _ ((rd_T117 x7_2 x125_3).f1) [.int .i64 ((rd_T117 x7_2 x125_3).f1)] from rfl) (Reps.none _ _)))
                     intro v256 w122 ho123 hb hg_ hnew_
                     clear hg_ hnew_
                     (first | rw [← Ny255.out] at ho123 | (simp only [Int.reduceToNat] at ho123; rw [← Ny255.out] at ho123))
                     replace HO_123 := zK (Kd.R_below (zr HO_123) hb)
                     have HO257 := zK (Kd.R_lower (Kd.R_new' (Kd.R_new' (Kd.R_new' ho123 (Kd.R_lt (zr HO_18))) (Kd.R_lt (zr HO251))) (Kd.R_lt (zr HO254))) (below_size (zo HB)))
                     replace HO_18 := zK (Kd.R_elder' (zr HO_18) (Kd.R_base ho123) hb)
                     replace HO251 := zK (Kd.R_elder' (zr HO251) (Kd.R_base ho123) hb)
                     replace HO254 := zK (Kd.R_elder' (zr HO254) (Kd.R_base ho123) hb)
                     replace BK248 := zK (blk_below (g := gb248) (o := .cells #[.int .i64 ((rd_T117 x7_2 x125_3).f0), .int .i64 ((rd_T117 x7_2 x125_3).f1), .bool true, .bool true] 117 (0, 0)) (zb BK248) hb)
                     replace HB := zK (below_step (zo HB) hb); clear hb ho123
                     refine hK.out _ _ ⟨(blk_cell BK248.out 0).trans rfl, (blk_cell BK248.out 1).trans rfl, (blk_cell BK248.out 2).trans rfl, (blk_cell BK248.out 3).trans rfl⟩ (fun hHeld => ?_)
                     clear hK K
                     refine norm_ (a' := ?_) ?_ ?_; rotate_left; (show Act.put _ (some 145) _ = _; simp only [Act.put, zt, zz, zs, i64_w, i32_w]; rfl)
                     exact norm_ (by simp only [putAll, Act.put, zt, zz, zs]) (hCont (.slice Ao121 y249.length co121, v253, v256) _ ⟨hHeld, (by (with_reducible repeat (first | apply Kd.R_alloc | apply Kd.R_drewN | apply Kd.R_drew)); exact Kd.R_mono HO251.out (fun _ hk => ⟨hk.1.2, ⟨hk.2, hk.1.1⟩⟩)), (by (with_reducible repeat (first | apply Kd.R_alloc | apply Kd.R_drewN | apply Kd.R_drew)); exact Kd.R_mono HO254.out (fun _ hk => ⟨hk.1.2, ⟨hk.2, hk.1.1⟩⟩)), (by (with_reducible repeat (first | apply Kd.R_alloc | apply Kd.R_drewN | apply Kd.R_drew)); exact Kd.R_mono HO257.out (fun _ hk => ⟨hk.1.2, ⟨hk.2, hk.1.1.2⟩⟩)), (zr HO_123), (by (with_reducible repeat (first | apply Kd.R_alloc | apply Kd.R_drewN | apply Kd.R_drew)); exact Kd.R_mono HO_18.out (fun _ hk => ⟨hk.1.1, ⟨hk.1.2, hk.2⟩⟩)), (zb BK248), (zo HB)⟩)
                    ·skip
                     refine Kd.R_lit_step (Kd.int .i64) _ 2 ?hg (N := 145) ?hd (xs := ([(rd_T117 x7_2 x125_3).f1] : List Int)) (inner := [.int .i64 ((rd_T117 x7_2 x125_3).f1)]) (ok := fun _ => True) (okp := fun _ => True) ?hr ?hp (fun _ hk => hk) trivial (Below.refl _ _) (Nat.le_refl _) (by simp) ?_; (case hd => rfl); (case hg => rfl); (case hr => first | (go_simp; done) | (go_simp; rfl)); (case hp => exact (Reps.one (show Kd.M (Kd.int .i64) _ _ _ ((rd_T117 x7_2 x125_3).f1) [.int .i64 ((rd_T117 x7_2 x125_3).f1)] from rfl) (Reps.none _ _)))
                     intro v256 w120 ho121 hb hg_ hnew_
                     clear hg_ hnew_
                     (first | rw [← Ny255.out] at ho121 | (simp only [Int.reduceToNat] at ho121; rw [← Ny255.out] at ho121))
                     replace HO_123 := zK (Kd.R_below (zr HO_123) hb)
                     have HO257 := zK (Kd.R_lower (Kd.R_new' (Kd.R_new' (Kd.R_new' ho121 (Kd.R_lt (zr HO_17))) (Kd.R_lt (zr HO_18))) (Kd.R_lt (zr HO251))) (below_size (zo HB)))
                     replace HO_17 := zK (Kd.R_elder' (zr HO_17) (Kd.R_base ho121) hb)
                     replace HO_18 := zK (Kd.R_elder' (zr HO_18) (Kd.R_base ho121) hb)
                     replace HO251 := zK (Kd.R_elder' (zr HO251) (Kd.R_base ho121) hb)
                     replace BK248 := zK (blk_below (g := gb248) (o := .cells #[.int .i64 ((rd_T117 x7_2 x125_3).f0), .int .i64 ((rd_T117 x7_2 x125_3).f1), .bool true, .bool true] 117 (0, 0)) (zb BK248) hb)
                     replace HB := zK (below_step (zo HB) hb); clear hb ho121
                     obtain ⟨Ao123, co123, eo123⟩ := Kd.R_slice HO251.out
                     (first | subst eo123 | (injection eo123 with f1_ f2_ f3_; have f4_ := f1_.symm; have f5_ := f3_.symm; clear f1_ f2_ f3_; subst f4_; subst f5_))
                     refine hK.out _ _ ⟨(blk_cell BK248.out 0).trans rfl, (blk_cell BK248.out 1).trans rfl, (blk_cell BK248.out 2).trans rfl, (blk_cell BK248.out 3).trans rfl⟩ (fun hHeld => ?_)
                     clear hK K
                     refine norm_ (a' := ?_) ?_ ?_; rotate_left; (show Act.put _ (some 145) _ = _; simp only [Act.put, zt, zz, zs, i64_w, i32_w]; rfl)
                     refine one_ (i := 4) (N := some 141) #[T_,T_,T_,T_,T_,T_,T_,T_,T_,F_,F_,F_] rfl rfl (one_of HT_.out (by kernel_rfl)) (by decide) (fun K hK => ?_)
                     refine Kd.R_append_rows_step (Kd.int .i64) (w0 := w) w.heap.size (by rfl) (.tmp 137) (.tmp 140) 33 2 (.int .i64 0) 8 rfl Try.underlying33 info2 rfl (by decide) (by omega) (.slice Ao114 x17_3.length co114) x17_3 y249 _ _ _ (fun k_ => some k_ ≠ (.slice Ao115 x18_3.length co115 : Value).ownBlock ∧ some k_ ≠ (.slice Ao123 y249.length co123 : Value).ownBlock ∧ some k_ ≠ (v256 : Value).ownBlock) (fun _ => False) rfl rfl ?aO ?aR (fun _ _ h => h) (fun _ h => h.elim) ?aF ?aB ?aS ?aL ?_
                     (case aR => repeat (first | exact (Kd.R_reads' HO251.out).2.2 | (with_reducible refine cA ?_ _) | (with_reducible refine cN ?_ _) | (with_reducible refine cD ?_)))
                     (case aB => exact (zo HB))
                     (case aF => exact (fun k_ hk => ⟨Kd.fresh' (Kd.R_lt (zr HO_18)) k_ hk, Kd.fresh' (Kd.R_lt (zr HO251)) k_ hk, Kd.fresh' (Kd.R_lt (zr HO257)) k_ hk⟩))
                     (case aO => exact (by (with_reducible repeat (first | apply Kd.R_alloc | apply Kd.R_drewN | apply Kd.R_drew)); exact Kd.R_mono HO_17.out (fun _ hk => ⟨hk.1.1, ⟨hk.1.2, hk.2⟩⟩)))
                     (case aS => exact (below_size (zo HB)))
                     (case aL => have := LMc110.out; omega)
                     intro v253 w122 ho hb hg hat
                     rw [← Ny252.out] at ho
                     replace HO_18 := zK (Kd.R_after (ok := (fun k_ => some k_ ≠ (.slice Ao123 y249.length co123 : Value).ownBlock ∧ some k_ ≠ (v256 : Value).ownBlock)) (by (with_reducible repeat (first | apply Kd.R_alloc | apply Kd.R_drewN | apply Kd.R_drew)); exact Kd.R_mono HO_18.out (fun _ hk => ⟨⟨hk.1.2, hk.2⟩, hk.1.1⟩)) hg hat)
                     replace HO_123 := zK (Kd.R_over' (zr HO_123) (Kd.R_typed (zr HO_17)) (by decide) hg)
                     replace BK248 := zK (blk_grown (g := gb248) (o := .cells #[.int .i64 ((rd_T117 x7_2 x125_3).f0), .int .i64 ((rd_T117 x7_2 x125_3).f1), .bool true, .bool true] 117 (0, 0)) (zb BK248) hg (Kd.R_ne HO_17.out BK248.out (by decide)))
                     replace HO251 := zK (Kd.R_after (ok := (fun k_ => some k_ ≠ (.slice Ao115 x18_3.length co115 : Value).ownBlock ∧ some k_ ≠ (v256 : Value).ownBlock)) (by (with_reducible repeat (first | apply Kd.R_alloc | apply Kd.R_drewN | apply Kd.R_drew)); exact Kd.R_mono HO251.out (fun _ hk => ⟨⟨hk.1.2, hk.2⟩, hk.1.1.2⟩)) hg hat)
                     replace HO257 := zK (Kd.R_after (ok := (fun k_ => some k_ ≠ (.slice Ao115 x18_3.length co115 : Value).ownBlock ∧ some k_ ≠ (.slice Ao123 y249.length co123 : Value).ownBlock)) (by (with_reducible repeat (first | apply Kd.R_alloc | apply Kd.R_drewN | apply Kd.R_drew)); exact Kd.R_mono HO257.out (fun _ hk => ⟨⟨hk.1.2, hk.2⟩, hk.1.1.2⟩)) hg hat)
                     replace HB := zK (hb)
                     have HO254 := zK (ho); clear HO_17 ho hb hg hat
                     refine hK.out _ _ ⟨(blk_cell BK248.out 0).trans rfl, (blk_cell BK248.out 1).trans rfl, (blk_cell BK248.out 2).trans rfl, (blk_cell BK248.out 3).trans rfl⟩ (fun hHeld => ?_)
                     clear hK K
                     refine norm_ (a' := ?_) ?_ ?_; rotate_left; (show Act.put _ (some 141) _ = _; simp only [Act.put, zt, zz, zs, i64_w, i32_w]; rfl)
                     exact norm_ (by simp only [putAll, Act.put, zt, zz, zs]) (hCont (.slice Ao123 y249.length co123, v253, v256) _ ⟨hHeld, (by (with_reducible repeat (first | apply Kd.R_alloc | apply Kd.R_drewN | apply Kd.R_drew)); exact Kd.R_mono HO251.out (fun _ hk => ⟨hk.2, ⟨hk.1.2, hk.1.1⟩⟩)), (by (with_reducible repeat (first | apply Kd.R_alloc | apply Kd.R_drewN | apply Kd.R_drew)); exact Kd.R_mono HO254.out (fun _ hk => ⟨hk.2.1, ⟨hk.2.2, hk.1⟩⟩)), (by (with_reducible repeat (first | apply Kd.R_alloc | apply Kd.R_drewN | apply Kd.R_drew)); exact Kd.R_mono HO257.out (fun _ hk => ⟨hk.1.2, ⟨hk.2, hk.1.1⟩⟩)), (zr HO_123), (by (with_reducible repeat (first | apply Kd.R_alloc | apply Kd.R_drewN | apply Kd.R_drew)); exact Kd.R_mono HO_18.out (fun _ hk => ⟨hk.1.1, ⟨hk.2, hk.1.2⟩⟩)), (zb BK248), (zo HB)⟩)
                   ·skip
                    refine Kd.R_lit_step (Kd.int .i64) _ 2 ?hg (N := 145) ?hd (xs := ([(rd_T117 x7_2 x125_3).f1] : List Int)) (inner := [.int .i64 ((rd_T117 x7_2 x125_3).f1)]) (ok := fun _ => True) (okp := fun _ => True) ?hr ?hp (fun _ hk => hk) trivial (Below.refl _ _) (Nat.le_refl _) (by simp) ?_; (case hd => rfl); (case hg => rfl); (case hr => first | (go_simp; done) | (go_simp; rfl)); (case hp => exact (Reps.one (show Kd.M (Kd.int .i64) _ _ _ ((rd_T117 x7_2 x125_3).f1) [.int .i64 ((rd_T117 x7_2 x125_3).f1)] from rfl) (Reps.none _ _)))
                    intro v256 w118 ho119 hb hg_ hnew_
                    clear hg_ hnew_
                    (first | rw [← Ny255.out] at ho119 | (simp only [Int.reduceToNat] at ho119; rw [← Ny255.out] at ho119))
                    replace HO_123 := zK (Kd.R_below (zr HO_123) hb)
                    have HO257 := zK (Kd.R_lower (Kd.R_new' (Kd.R_new' ho119 (Kd.R_lt (zr HO_17))) (Kd.R_lt (zr HO_18))) (below_size (zo HB)))
                    replace HO_17 := zK (Kd.R_elder' (zr HO_17) (Kd.R_base ho119) hb)
                    replace HO_18 := zK (Kd.R_elder' (zr HO_18) (Kd.R_base ho119) hb)
                    replace BK248 := zK (blk_below (g := gb248) (o := .cells #[.int .i64 ((rd_T117 x7_2 x125_3).f0), .int .i64 ((rd_T117 x7_2 x125_3).f1), .bool true, .bool true] 117 (0, 0)) (zb BK248) hb)
                    replace HB := zK (below_step (zo HB) hb); clear hb ho119
                    refine hK.out _ _ ⟨(blk_cell BK248.out 0).trans rfl, (blk_cell BK248.out 1).trans rfl, (blk_cell BK248.out 2).trans rfl, (blk_cell BK248.out 3).trans rfl⟩ (fun hHeld => ?_)
                    clear hK K
                    refine norm_ (a' := ?_) ?_ ?_; rotate_left; (show Act.put _ (some 145) _ = _; simp only [Act.put, zt, zz, zs, i64_w, i32_w]; rfl)
                    refine one_ (i := 3) (N := some 140) #[T_,T_,T_,T_,F_,T_,T_,T_,T_,F_,F_,F_] rfl rfl (one_of HT_.out (by kernel_rfl)) (by decide) (fun K hK => ?_)
                    refine Kd.R_lit_step (Kd.int .i64) _ 2 ?hg (N := 140) ?hd (xs := ([(rd_T117 x7_2 x125_3).f0] : List Int)) (inner := [.int .i64 ((rd_T117 x7_2 x125_3).f0)]) (ok := fun _ => True) (okp := fun _ => True) ?hr ?hp (fun _ hk => hk) trivial (Below.refl _ _) (Nat.le_refl _) (by simp) ?_; (case hd => rfl); (case hg => rfl); (case hr => first | (go_simp; done) | (go_simp; rfl)); (case hp => exact (Reps.one (show Kd.M (Kd.int .i64) _ _ _ ((rd_T117 x7_2 x125_3).f0) [.int .i64 ((rd_T117 x7_2 x125_3).f0)] from rfl) (Reps.none _ _)))
                    intro v250 w120 ho121 hb hg_ hnew_
                    clear hg_ hnew_
                    (first | rw [← Ny249.out] at ho121 | (simp only [Int.reduceToNat] at ho121; rw [← Ny249.out] at ho121))
                    replace HO_123 := zK (Kd.R_below (zr HO_123) hb)
                    have HO251 := zK (Kd.R_lower (Kd.R_new' (Kd.R_new' (Kd.R_new' ho121 (Kd.R_lt (zr HO_17))) (Kd.R_lt (zr HO_18))) (Kd.R_lt (zr HO257))) (below_size (zo HB)))
                    replace HO_17 := zK (Kd.R_elder' (zr HO_17) (Kd.R_base ho121) hb)
                    replace HO_18 := zK (Kd.R_elder' (zr HO_18) (Kd.R_base ho121) hb)
                    replace HO257 := zK (Kd.R_elder' (zr HO257) (Kd.R_base ho121) hb)
                    replace BK248 := zK (blk_below (g := gb248) (o := .cells #[.int .i64 ((rd_T117 x7_2 x125_3).f0), .int .i64 ((rd_T117 x7_2 x125_3).f1), .bool true, .bool true] 117 (0, 0)) (zb BK248) hb)
                    replace HB := zK (below_step (zo HB) hb); clear hb ho121
                    obtain ⟨Ao123, co123, eo123⟩ := Kd.R_slice HO251.out
                    (first | subst eo123 | (injection eo123 with f1_ f2_ f3_; have f4_ := f1_.symm; have f5_ := f3_.symm; clear f1_ f2_ f3_; subst f4_; subst f5_))
                    refine hK.out _ _ ⟨(blk_cell BK248.out 0).trans rfl, (blk_cell BK248.out 1).trans rfl, (blk_cell BK248.out 2).trans rfl, (blk_cell BK248.out 3).trans rfl⟩ (fun hHeld => ?_)
                    clear hK K
                    refine norm_ (a' := ?_) ?_ ?_; rotate_left; (show Act.put _ (some 140) _ = _; simp only [Act.put, zt, zz, zs, i64_w, i32_w]; rfl)
                    refine one_ (i := 4) (N := some 141) #[T_,T_,T_,T_,T_,T_,T_,T_,T_,F_,F_,F_] rfl rfl (one_of HT_.out (by kernel_rfl)) (by decide) (fun K hK => ?_)
                    refine Kd.R_append_rows_step (Kd.int .i64) (w0 := w) w.heap.size (by rfl) (.tmp 137) (.tmp 140) 33 2 (.int .i64 0) 8 rfl Try.underlying33 info2 rfl (by decide) (by omega) (.slice Ao114 x17_3.length co114) x17_3 y249 _ _ _ (fun k_ => some k_ ≠ (.slice Ao115 x18_3.length co115 : Value).ownBlock ∧ some k_ ≠ (v256 : Value).ownBlock ∧ some k_ ≠ (.slice Ao123 y249.length co123 : Value).ownBlock) (fun _ => False) rfl rfl ?aO ?aR (fun _ _ h => h) (fun _ h => h.elim) ?aF ?aB ?aS ?aL ?_
                    (case aR => repeat (first | exact (Kd.R_reads' HO251.out).2.2 | (with_reducible refine cA ?_ _) | (with_reducible refine cN ?_ _) | (with_reducible refine cD ?_)))
                    (case aB => exact (zo HB))
                    (case aF => exact (fun k_ hk => ⟨Kd.fresh' (Kd.R_lt (zr HO_18)) k_ hk, Kd.fresh' (Kd.R_lt (zr HO257)) k_ hk, Kd.fresh' (Kd.R_lt (zr HO251)) k_ hk⟩))
                    (case aO => exact (by (with_reducible repeat (first | apply Kd.R_alloc | apply Kd.R_drewN | apply Kd.R_drew)); exact Kd.R_mono HO_17.out (fun _ hk => ⟨hk.1.1, ⟨hk.1.2, hk.2⟩⟩)))
                    (case aS => exact (below_size (zo HB)))
                    (case aL => have := LMc110.out; omega)
                    intro v253 w122 ho hb hg hat
                    rw [← Ny252.out] at ho
                    replace HO_18 := zK (Kd.R_after (ok := (fun k_ => some k_ ≠ (v256 : Value).ownBlock ∧ some k_ ≠ (.slice Ao123 y249.length co123 : Value).ownBlock)) (by (with_reducible repeat (first | apply Kd.R_alloc | apply Kd.R_drewN | apply Kd.R_drew)); exact Kd.R_mono HO_18.out (fun _ hk => ⟨⟨hk.1.2, hk.2⟩, hk.1.1⟩)) hg hat)
                    replace HO_123 := zK (Kd.R_over' (zr HO_123) (Kd.R_typed (zr HO_17)) (by decide) hg)
                    replace BK248 := zK (blk_grown (g := gb248) (o := .cells #[.int .i64 ((rd_T117 x7_2 x125_3).f0), .int .i64 ((rd_T117 x7_2 x125_3).f1), .bool true, .bool true] 117 (0, 0)) (zb BK248) hg (Kd.R_ne HO_17.out BK248.out (by decide)))
                    replace HO257 := zK (Kd.R_after (ok := (fun k_ => some k_ ≠ (.slice Ao115 x18_3.length co115 : Value).ownBlock ∧ some k_ ≠ (.slice Ao123 y249.length co123 : Value).ownBlock)) (by (with_reducible repeat (first | apply Kd.R_alloc | apply Kd.R_drewN | apply Kd.R_drew)); exact Kd.R_mono HO257.out (fun _ hk => ⟨⟨hk.1.2, hk.2⟩, hk.1.1.2⟩)) hg hat)
                    replace HO251 := zK (Kd.R_after (ok := (fun k_ => some k_ ≠ (.slice Ao115 x18_3.length co115 : Value).ownBlock ∧ some k_ ≠ (v256 : Value).ownBlock)) (by (with_reducible repeat (first | apply Kd.R_alloc | apply Kd.R_drewN | apply Kd.R_drew)); exact Kd.R_mono HO251.out (fun _ hk => ⟨⟨hk.1.2, hk.2⟩, hk.1.1.2⟩)) hg hat)
                    replace HB := zK (hb)
                    have HO254 := zK (ho); clear HO_17 ho hb hg hat
                    refine hK.out _ _ ⟨(blk_cell BK248.out 0).trans rfl, (blk_cell BK248.out 1).trans rfl, (blk_cell BK248.out 2).trans rfl, (blk_cell BK248.out 3).trans rfl⟩ (fun hHeld => ?_)
                    clear hK K
                    refine norm_ (a' := ?_) ?_ ?_; rotate_left; (show Act.put _ (some 141) _ = _; simp only [Act.put, zt, zz, zs, i64_w, i32_w]; rfl)
                    exact norm_ (by simp only [putAll, Act.put, zt, zz, zs]) (hCont (.slice Ao123 y249.length co123, v253, v256) _ ⟨hHeld, (by (with_reducible repeat (first | apply Kd.R_alloc | apply Kd.R_drewN | apply Kd.R_drew)); exact Kd.R_mono HO251.out (fun _ hk => ⟨hk.2, ⟨hk.1.2, hk.1.1⟩⟩)), (by (with_reducible repeat (first | apply Kd.R_alloc | apply Kd.R_drewN | apply Kd.R_drew)); exact Kd.R_mono HO254.out (fun _ hk => ⟨hk.2.2, ⟨hk.2.1, hk.1⟩⟩)), (by (with_reducible repeat (first | apply Kd.R_alloc | apply Kd.R_drewN | apply Kd.R_drew)); exact Kd.R_mono HO257.out (fun _ hk => ⟨hk.1.2, ⟨hk.2, hk.1.1⟩⟩)), (zr HO_123), (by (with_reducible repeat (first | apply Kd.R_alloc | apply Kd.R_drewN | apply Kd.R_drew)); exact Kd.R_mono HO_18.out (fun _ hk => ⟨hk.1.2, ⟨hk.2, hk.1.1⟩⟩)), (zb BK248), (zo HB)⟩)
                  rintro ⟨v250, v253, v256⟩ w124 ⟨hS_, h0_, h1_, h2_, h3_, h4_, h5_, h6_⟩
                  have n0_ : Aside0 (Kd.R (Kd.int .i64) 2 w124 w.heap.size (fun k_ => some k_ ≠ (v253 : Value).ownBlock ∧ some k_ ≠ (v256 : Value).ownBlock ∧ some k_ ≠ (.slice Ao115 x18_3.length co115 : Value).ownBlock) v250 y249) := ⟨h0_⟩
                  have n1_ : Aside0 (Kd.R (Kd.int .i64) 2 w124 w.heap.size (fun k_ => some k_ ≠ (v250 : Value).ownBlock ∧ some k_ ≠ (v256 : Value).ownBlock ∧ some k_ ≠ (.slice Ao115 x18_3.length co115 : Value).ownBlock) v253 y252) := ⟨h1_⟩
                  have n2_ : Aside0 (Kd.R (Kd.int .i64) 2 w124 w.heap.size (fun k_ => some k_ ≠ (v250 : Value).ownBlock ∧ some k_ ≠ (v253 : Value).ownBlock ∧ some k_ ≠ (.slice Ao115 x18_3.length co115 : Value).ownBlock) v256 y255) := ⟨h2_⟩
                  have n3_ : Aside0 (Kd.R k117 117 w124 w.heap.size (fun k_ => k_ ≠ gb248) (.slice (some ad247) x7_2.length co102) x7_2) := ⟨h3_⟩
                  have n4_ : Aside0 (Kd.R (Kd.int .i64) 2 w124 w.heap.size (fun k_ => some k_ ≠ (v250 : Value).ownBlock ∧ some k_ ≠ (v253 : Value).ownBlock ∧ some k_ ≠ (v256 : Value).ownBlock) (.slice Ao115 x18_3.length co115) x18_3) := ⟨h4_⟩
                  have n5_ : Aside0 (w124.heap[gb248]? = some (.cells #[.int .i64 ((rd_T117 x7_2 x125_3).f0), .int .i64 ((rd_T117 x7_2 x125_3).f1), .bool true, .bool true] 117 (0, 0))) := ⟨h5_⟩
                  have n6_ : Aside0 (Below w.heap.size w w124) := ⟨h6_⟩
                  clear HO_17 HO_18 HO_123 BK248 HB h0_ h1_ h2_ h3_ h4_ h5_ h6_
                  have HO251 := n0_
                  have HO254 := n1_
                  have HO257 := n2_
                  have HO_123 := n3_
                  have HO_18 := n4_
                  have BK248 := n5_
                  have HB := n6_; clear n0_ n1_ n2_ n3_ n4_ n5_ n6_
                  have hHeld : w124.cell? ⟨gb248, 0, none⟩ = some (.int .i64 ((rd_T117 x7_2 x125_3).f0)) ∧ w124.cell? ⟨gb248, 1, none⟩ = some (.int .i64 ((rd_T117 x7_2 x125_3).f1)) ∧ w124.cell? ⟨gb248, 2, none⟩ = some (.bool true) ∧ w124.cell? ⟨gb248, 3, none⟩ = some (.bool true) := hS_
                  obtain ⟨Ao126, co126, eo126⟩ := Kd.R_slice HO257.out
                  (first | subst eo126 | (injection eo126 with f1_ f2_ f3_; have f4_ := f1_.symm; have f5_ := f3_.symm; clear f1_ f2_ f3_; subst f4_; subst f5_))
                  refine norm_ (a' := ?_) ?_ ?_
                  rotate_left
                  ·simp only [putAll, Act.put, zt, zz, zs]
                   rfl
                  refine one_ (i := 9) (N := some 146) #[T_,T_,T_,T_,T_,T_,T_,T_,T_,T_,F_,F_] rfl rfl (one_of HT_.out (by kernel_rfl)) (by decide) (fun K hK => ?_)
                  refine Kd.R_append_rows_step (Kd.int .i64) (w0 := w) w.heap.size (by rfl) (.tmp 142) (.tmp 145) 33 2 (.int .i64 0) 8 rfl Try.underlying33 info2 rfl (by decide) (by omega) (.slice Ao115 x18_3.length co115) x18_3 y255 _ _ _ (fun k_ => some k_ ≠ (v250 : Value).ownBlock ∧ some k_ ≠ (v253 : Value).ownBlock ∧ some k_ ≠ (.slice Ao126 y255.length co126 : Value).ownBlock) (fun _ => False) rfl rfl ?aO ?aR (fun _ _ h => h) (fun _ h => h.elim) ?aF ?aB ?aS ?aL ?_
                  (case aR => repeat (first | exact (Kd.R_reads' HO257.out).2.2 | (with_reducible refine cA ?_ _) | (with_reducible refine cN ?_ _) | (with_reducible refine cD ?_)))
                  (case aB => exact (zo HB))
                  (case aF => exact (fun k_ hk => ⟨Kd.fresh' (Kd.R_lt (zr HO251)) k_ hk, Kd.fresh' (Kd.R_lt (zr HO254)) k_ hk, Kd.fresh' (Kd.R_lt (zr HO257)) k_ hk⟩))
                  (case aO => exact (zr HO_18))
                  (case aS => exact (below_size (zo HB)))
                  (case aL => have := LMc111.out; omega)
                  intro v259 w125 ho hb hg hat
                  rw [← Ny258.out] at ho
                  replace HO_123 := zK (Kd.R_over' (zr HO_123) (Kd.R_typed (zr HO_18)) (by decide) hg)
                  replace BK248 := zK (blk_grown (g := gb248) (o := .cells #[.int .i64 ((rd_T117 x7_2 x125_3).f0), .int .i64 ((rd_T117 x7_2 x125_3).f1), .bool true, .bool true] 117 (0, 0)) (zb BK248) hg (Kd.R_ne HO_18.out BK248.out (by decide)))
                  replace HO251 := zK (Kd.R_after (ok := (fun k_ => some k_ ≠ (v253 : Value).ownBlock ∧ some k_ ≠ (.slice Ao126 y255.length co126 : Value).ownBlock)) (by (with_reducible repeat (first | apply Kd.R_alloc | apply Kd.R_drewN | apply Kd.R_drew)); exact Kd.R_mono HO251.out (fun _ hk => ⟨⟨hk.1, hk.2.1⟩, hk.2.2⟩)) hg hat)
                  replace HO254 := zK (Kd.R_after (ok := (fun k_ => some k_ ≠ (v250 : Value).ownBlock ∧ some k_ ≠ (.slice Ao126 y255.length co126 : Value).ownBlock)) (by (with_reducible repeat (first | apply Kd.R_alloc | apply Kd.R_drewN | apply Kd.R_drew)); exact Kd.R_mono HO254.out (fun _ hk => ⟨⟨hk.1, hk.2.1⟩, hk.2.2⟩)) hg hat)
                  replace HO257 := zK (Kd.R_after (ok := (fun k_ => some k_ ≠ (v250 : Value).ownBlock ∧ some k_ ≠ (v253 : Value).ownBlock)) (by (with_reducible repeat (first | apply Kd.R_alloc | apply Kd.R_drewN | apply Kd.R_drew)); exact Kd.R_mono HO257.out (fun _ hk => ⟨⟨hk.1, hk.2.1⟩, hk.2.2⟩)) hg hat)
                  replace HB := zK (hb)
                  have HO260 := zK (ho); clear HO_18 ho hb hg hat
                  refine hK.out _ _ ⟨(blk_cell BK248.out 0).trans rfl, (blk_cell BK248.out 1).trans rfl, (blk_cell BK248.out 2).trans rfl, (blk_cell BK248.out 3).trans rfl⟩ (fun hHeld => ?_)
                  clear hK K
                  refine norm_ (a' := ?_) ?_ ?_; rotate_left; (show Act.put _ (some 146) _ = _; simp only [Act.put, zt, zz, zs, i64_w, i32_w]; rfl)
                  refine pure_ (i := 10) (N := some 17) (v := ?_) (a' := ?_) #[T_,T_,T_,T_,T_,T_,T_,T_,T_,T_,T_,F_] rfl rfl (any_of HT_.out (by kernel_rfl)) (fun _ _ _ h => h) (Or.inl ⟨by rfl, ?_⟩) ?_ ?_; rotate_left; (intro w'; go_simp; with_reducible rfl); rotate_left; (simp only [Act.put, zt, zz, zs, i64_w, i32_w]; rfl)
                  refine pure_ (i := 11) (N := some 18) (v := ?_) (a' := ?_) #[T_,T_,T_,T_,T_,T_,T_,T_,T_,T_,T_,T_] rfl rfl (any_of HT_.out (by kernel_rfl)) (fun _ _ _ h => h) (Or.inl ⟨by rfl, ?_⟩) ?_ ?_; rotate_left; (intro w'; go_simp; with_reducible rfl); rotate_left; (simp only [Act.put, zt, zz, zs, i64_w, i32_w]; rfl)
                  refine done_ (done_of HT_.out (by kernel_rfl)) ?_
                  try go_wp2
                  repeat (go_end0; simp only []; try go_wp2)
                  go_roundg k3
                  case measure => have := HJ2.out; have := HK2.out; have := HK3.out; omega
                  case rel => exact ⟨(y252), (y258), (wrap64 (x125_3 + 1)), (by first | rfl | (simp; done) | (simp [*]; done)), H', ⟨by have := HJ2.out; have := HK2.out; have := HK3.out; omega⟩, ⟨by (with_reducible repeat (first | apply Kd.R_alloc | apply Kd.R_drewN | apply Kd.R_drew)); exact Kd.R_mono HO254.out (fun _ hk => hk.2)⟩, ⟨by (with_reducible repeat (first | apply Kd.R_alloc | apply Kd.R_drewN | apply Kd.R_drew)); exact Kd.R_mono HO260.out (fun _ hk => hk.2.1)⟩, ⟨by (with_reducible repeat (first | apply Kd.R_alloc | apply Kd.R_drewN | apply Kd.R_drew)); exact Kd.R_mono HO_123.out (fun _ hk => trivial)⟩, ⟨zo HB⟩⟩
                 ·rw [if_neg c111] at H
                  exact absurd H (by simp)
                ·rw [if_neg c110] at H
                 exact absurd H (by simp)
               ·replace c109 := Bool.eq_false_iff.mpr c109
                subst c109
                have H1 : (some (([] : List Int), ([] : List Int), false)) = some (r1, r2, r3) := by rw [if_neg (show ¬ (false = true) by decide)] at H; exact H
                clear H; have H := H1; clear H1
                simp only [Option.some.injEq, Prod.mk.injEq] at H
                obtain ⟨rfl, rfl, rfl⟩ := H
                have p247 : 0 ≤ (x125_3 : Int) := of_decide_eq_true (by first | (with_reducible assumption) | assumption)
                have q247 : x125_3 < (x7_2.length : Int) := of_decide_eq_true (by first | (with_reducible assumption) | assumption)
                obtain ⟨ad247, e247, hx247_0, hx247_1, hx247_2, hx247_3⟩ := at_T117 (Kd.R_reads' HO_123.out).2.2 x125_3 p247 q247
                (try rw [← Nbq106.out] at hx247_2)
                (try rw [← Nbq106.out] at A13)
                (try rw [← Nbq106.out] at A22)
                (try rw [← Nbq108.out] at hx247_2)
                (try rw [← Nbq108.out] at A13)
                (try rw [← Nbq108.out] at A22)
                (try rw [← Nbq106.out] at hx247_3)
                (try rw [← Nbq106.out] at A13)
                (try rw [← Nbq106.out] at A22)
                (try rw [← Nbq108.out] at hx247_3)
                (try rw [← Nbq108.out] at A13)
                (try rw [← Nbq108.out] at A22)
                cases e247
                replace p247 := eq_true p247
                replace q247 := eq_true q247
                go_wp2_with (first | ((with_reducible refine gate_dst (N := 20) rfl ?_); (try (refine zG (by rfl) ?_; dsimp only)); refine box_event ?hg (N := 20) ?hd (cs := #[.int .i64 0, .int .i64 0, .bool false, .bool false]) (t := 117) ?hr ?_; (case hd => rfl); (case hg => rfl); (case hr => first | (go_simp; done) | (go_simp; rfl)); intro gb248 hg w127 hbox hb; replace HO_17 := zK (Kd.R_below (zr HO_17) hb); replace HO_18 := zK (Kd.R_below (zr HO_18) hb); replace HO_123 := zK (Kd.R_below (Kd.R_elderB (zr HO_123) gb248 (Nat.le_of_eq hg.symm)) hb); have BK248 := zK (hbox); have GW248 := zK ((by rw [hg]; exact (below_size (zo HB)) : w.heap.size ≤ gb248)); have GE248 := zK ((by rw [hg]; exact (below_size (zo HB)) : w.heap.size ≤ gb248)); replace HB := zK (below_step (zo HB) hb); clear hb hbox hg; have hcz128_0 : w127.cell? ⟨gb248, 0, none⟩ = some (.int .i64 0) := (blk_cell BK248.out 0).trans rfl; have hcz128_1 : w127.cell? ⟨gb248, 1, none⟩ = some (.int .i64 0) := (blk_cell BK248.out 1).trans rfl; have hcz128_2 : w127.cell? ⟨gb248, 2, none⟩ = some (.bool false) := (blk_cell BK248.out 2).trans rfl; have hcz128_3 : w127.cell? ⟨gb248, 3, none⟩ = some (.bool false) := (blk_cell BK248.out 3).trans rfl; have hfz128_0 := blk_frozen BK248.out 0; have hfz128_1 := blk_frozen BK248.out 1; have hfz128_2 := blk_frozen BK248.out 2; have hfz128_3 := blk_frozen BK248.out 3))
                go_ret3
                exact ⟨_, _, by first | rfl | (simp [errW_none, errW_some] <;> rfl) | (simp [*, errW_none, errW_some] <;> rfl), by first | exact Kd.R_nil _ _ _ _ _ | exact Kd.N_nil _ _ _ _ _ | exact Kd.V_nil _ _ _ _ _ | exact Kd.Q_nil _ _ _ _ _ | exact Kd.S_nil _ _ _ _ _, by first | exact Kd.R_nil _ _ _ _ _ | exact Kd.N_nil _ _ _ _ _ | exact Kd.V_nil _ _ _ _ _ | exact Kd.Q_nil _ _ _ _ _ | exact Kd.S_nil _ _ _ _ _, zo HB⟩
              ·replace c107 := Bool.eq_false_iff.mpr c107
               subst c107
               have H1 : (some (([] : List Int), ([] : List Int), false)) = some (r1, r2, r3) := by rw [if_neg (show ¬ (false = true) by decide)] at H; exact H
               clear H; have H := H1; clear H1
               simp only [Option.some.injEq, Prod.mk.injEq] at H
               obtain ⟨rfl, rfl, rfl⟩ := H
               have p247 : 0 ≤ (x125_3 : Int) := of_decide_eq_true (by first | (with_reducible assumption) | assumption)
               have q247 : x125_3 < (x7_2.length : Int) := of_decide_eq_true (by first | (with_reducible assumption) | assumption)
               obtain ⟨ad247, e247, hx247_0, hx247_1, hx247_2, hx247_3⟩ := at_T117 (Kd.R_reads' HO_123.out).2.2 x125_3 p247 q247
               (try rw [← Nbq106.out] at hx247_2)
               (try rw [← Nbq106.out] at A13)
               (try rw [← Nbq106.out] at A22)
               (try rw [← Nbq106.out] at hx247_3)
               (try rw [← Nbq106.out] at A13)
               (try rw [← Nbq106.out] at A22)
               cases e247
               replace p247 := eq_true p247
               replace q247 := eq_true q247
               go_wp2_with (first | ((with_reducible refine gate_dst (N := 20) rfl ?_); (try (refine zG (by rfl) ?_; dsimp only)); refine box_event ?hg (N := 20) ?hd (cs := #[.int .i64 0, .int .i64 0, .bool false, .bool false]) (t := 117) ?hr ?_; (case hd => rfl); (case hg => rfl); (case hr => first | (go_simp; done) | (go_simp; rfl)); intro gb248 hg w129 hbox hb; replace HO_17 := zK (Kd.R_below (zr HO_17) hb); replace HO_18 := zK (Kd.R_below (zr HO_18) hb); replace HO_123 := zK (Kd.R_below (Kd.R_elderB (zr HO_123) gb248 (Nat.le_of_eq hg.symm)) hb); have BK248 := zK (hbox); have GW248 := zK ((by rw [hg]; exact (below_size (zo HB)) : w.heap.size ≤ gb248)); have GE248 := zK ((by rw [hg]; exact (below_size (zo HB)) : w.heap.size ≤ gb248)); replace HB := zK (below_step (zo HB) hb); clear hb hbox hg; have hcz130_0 : w129.cell? ⟨gb248, 0, none⟩ = some (.int .i64 0) := (blk_cell BK248.out 0).trans rfl; have hcz130_1 : w129.cell? ⟨gb248, 1, none⟩ = some (.int .i64 0) := (blk_cell BK248.out 1).trans rfl; have hcz130_2 : w129.cell? ⟨gb248, 2, none⟩ = some (.bool false) := (blk_cell BK248.out 2).trans rfl; have hcz130_3 : w129.cell? ⟨gb248, 3, none⟩ = some (.bool false) := (blk_cell BK248.out 3).trans rfl; have hfz130_0 := blk_frozen BK248.out 0; have hfz130_1 := blk_frozen BK248.out 1; have hfz130_2 := blk_frozen BK248.out 2; have hfz130_3 := blk_frozen BK248.out 3))
               go_ret3
               exact ⟨_, _, by first | rfl | (simp [errW_none, errW_some] <;> rfl) | (simp [*, errW_none, errW_some] <;> rfl), by first | exact Kd.R_nil _ _ _ _ _ | exact Kd.N_nil _ _ _ _ _ | exact Kd.V_nil _ _ _ _ _ | exact Kd.Q_nil _ _ _ _ _ | exact Kd.S_nil _ _ _ _ _, by first | exact Kd.R_nil _ _ _ _ _ | exact Kd.N_nil _ _ _ _ _ | exact Kd.V_nil _ _ _ _ _ | exact Kd.Q_nil _ _ _ _ _ | exact Kd.S_nil _ _ _ _ _, zo HB⟩
             ·rw [if_neg c105] at H
              exact absurd H (by simp)
            ·rw [if_neg c104] at H
             exact absurd H (by simp)
           ·rw [if_neg c103] at H
            have c103b0 : decide (x125_3 < (x7_2.length : Int)) = false := decide_eq_false c103
            clear c103
            simp only [Option.some.injEq, Prod.mk.injEq] at H
            obtain ⟨rfl, rfl, rfl⟩ := H
            go_wp2
            go_ret3
            exact ⟨_, _, by first | rfl | (simp [errW_none, errW_some] <;> rfl) | (simp [*, errW_none, errW_some] <;> rfl), by (with_reducible repeat (first | apply Kd.R_alloc | apply Kd.R_drewN | apply Kd.R_drew)); exact HO_17.out, by (with_reducible repeat (first | apply Kd.R_alloc | apply Kd.R_drewN | apply Kd.R_drew)); exact HO_18.out, zo HB⟩
     ·rw [if_neg c7] at H
      exact absurd H (by simp)
    ·rw [if_neg c6] at H
     exact absurd H (by simp)

end Go.Proofs.Ytkfbfgkdabljiaa.PBoxWithin
