/- What the call of each function that the law reaches comes to: it answers as the plain function of the same name does, wherever that one answers; and the law itself out of its plain form. Written by a program of this session (an extended copy of the printer); no condition but what stands in each theorem. -/
import Derived.Test.YtkfbfgkdabljiaaPShadowBetweenx0
import Derived.Test.YtkfbfgkdabljiaaPShadowBetweenx5
import Derived.Test.YtkfbfgkdabljiaaPShadowBetweenx6
import Derived.Test.YtkfbfgkdabljiaaPShadowBetweenx9
import Derived.Test.YtkfbfgkdabljiaaPShadowBetweenx10
namespace Go.Proofs.Ytkfbfgkdabljiaa.PShadowBetween
open Go.RowKit Go.Proofs.YtkfbfgkdabljiaaW.PrintWords Go.Proofs.YtkfbfgkdabljiaaW.PrintLast Go.Proofs.YtkfbfgkdabljiaaW.PrintMore
open Go.Proofs.YtkfbfgkdabljiaaW.PrintWords renaming below_alloc → yA, pw_below_drewN → yN, below_drew1 → yD, gate_callee → zC
open Go.Proofs.YtkfbfgkdabljiaaW.PrintWords.Kd renaming C_alloc → cA, C_drewN → cN, C_drew → cD
open Go.Proofs.YtkfbfgkdabljiaaW.PrintWords.Aside0 renaming mk → zK
attribute [local go_sem] max2_int min2_int max_two min_two max_three min_three max_four min_four   -- for this text's walks alone
set_option linter.unusedVariables false
set_option linter.unusedSimpArgs false

/-! ### sequiturref30_Between: function 30 -/
mutual
def sequiturref30_Between.l0 : Nat → List (S70) → Int → List Int → Int → Int → Bool → Bool → Int → Option (Int × Int × Bool × Bool × Int)
 | 0, _, _, _, _, _, _, _, _ => none
 | k + 1, x0, x1, x2, x11, x12, x13, x14, x15 => if x15 < (x0.length : Int) then (if 0 ≤ x15 then ((sequiturref27_By.f k ((rd_T70 x0 x15).f0.f0) ((rd_T70 x0 x15).f0.f1) x1).bind fun t344 => (if t344 = 0 then (sequiturref30_Between.l0 k x0 x1 x2 x11 x12 x13 x14 (wrap64 (x15 + 1))) else ((sequiturref27_Less.f k ((rd_T70 x0 x15).f0.f0) ((rd_T70 x0 x15).f0.f1) x1).bind fun bt346 => ((sequiturref27_Eval.f k bt346.1 bt346.2 x2).bind fun bt350 => ((sequiturref30_allow.f bt350.1 t344).bind fun bt352 => (if bt350.2 = 0 then (sequiturref30_Between.j1 k x0 x1 x2 x11 x12 x13 x14 x15 t344 bt352.1 (!bt352.2)) else (sequiturref30_Between.j1 k x0 x1 x2 x11 x12 x13 x14 x15 t344 bt352.1 true))))))) else (none)) else (some (x11, x12, x13, x14, 0))
def sequiturref30_Between.j1 : Nat → List (S70) → Int → List Int → Int → Int → Bool → Bool → Int → Int → Int → Bool → Option (Int × Int × Bool × Bool × Int)
 | 0, _, _, _, _, _, _, _, _, _, _, _ => none
 | k + 1, x0, x1, x2, x11, x12, x13, x14, x15, x16, x19, x63 => if x63 = true then (some (0, 0, false, false, 5)) else (if x16 < 0 then (if x13 = true then (sequiturref30_Between.j2 k x0 x1 x2 x11 x12 x13 x14 x15 x16 x19 (decide (x19 > x11))) else (sequiturref30_Between.j2 k x0 x1 x2 x11 x12 x13 x14 x15 x16 x19 true)) else (sequiturref30_Between.j2 k x0 x1 x2 x11 x12 x13 x14 x15 x16 x19 false))
def sequiturref30_Between.j2 : Nat → List (S70) → Int → List Int → Int → Int → Bool → Bool → Int → Int → Int → Bool → Option (Int × Int × Bool × Bool × Int)
 | 0, _, _, _, _, _, _, _, _, _, _, _ => none
 | k + 1, x0, x1, x2, x11, x12, x13, x14, x15, x16, x19, x74 => if x74 = true then (if x16 > 0 then (if x14 = true then (if x19 < x12 then (sequiturref30_Between.l0 k x0 x1 x2 x19 x19 true true (wrap64 (x15 + 1))) else (sequiturref30_Between.l0 k x0 x1 x2 x19 x12 true x14 (wrap64 (x15 + 1)))) else (sequiturref30_Between.l0 k x0 x1 x2 x19 x19 true true (wrap64 (x15 + 1)))) else (sequiturref30_Between.l0 k x0 x1 x2 x19 x12 true x14 (wrap64 (x15 + 1)))) else (if x16 > 0 then (if x14 = true then (if x19 < x12 then (sequiturref30_Between.l0 k x0 x1 x2 x11 x19 x13 true (wrap64 (x15 + 1))) else (sequiturref30_Between.l0 k x0 x1 x2 x11 x12 x13 x14 (wrap64 (x15 + 1)))) else (sequiturref30_Between.l0 k x0 x1 x2 x11 x19 x13 true (wrap64 (x15 + 1)))) else (sequiturref30_Between.l0 k x0 x1 x2 x11 x12 x13 x14 (wrap64 (x15 + 1))))
end
def sequiturref30_Between.f (k : Nat) (l0 : List (S70)) (a1 : Int) (l2 : List Int) : Option (Int × Int × Bool × Bool × Int) := (sequiturref30_Right.f k l0 a1).bind fun t342 => (if t342 = true then (sequiturref30_Between.l0 k l0 a1 l2 0 0 false false 0) else (some (0, 0, false, false, 1)))
theorem sequiturref30_Between.mono_l : ∀ k, (∀ y0 y1 y2 y3 y4 y5 y6 y7, LeO (sequiturref30_Between.l0 k y0 y1 y2 y3 y4 y5 y6 y7) (sequiturref30_Between.l0 (k + 1) y0 y1 y2 y3 y4 y5 y6 y7)) ∧ (∀ y0 y1 y2 y3 y4 y5 y6 y7 y8 y9 y10, LeO (sequiturref30_Between.j1 k y0 y1 y2 y3 y4 y5 y6 y7 y8 y9 y10) (sequiturref30_Between.j1 (k + 1) y0 y1 y2 y3 y4 y5 y6 y7 y8 y9 y10)) ∧ (∀ y0 y1 y2 y3 y4 y5 y6 y7 y8 y9 y10, LeO (sequiturref30_Between.j2 k y0 y1 y2 y3 y4 y5 y6 y7 y8 y9 y10) (sequiturref30_Between.j2 (k + 1) y0 y1 y2 y3 y4 y5 y6 y7 y8 y9 y10))
 | 0 => ⟨fun _ _ _ _ _ _ _ _ r h => by simp [sequiturref30_Between.l0] at h, fun _ _ _ _ _ _ _ _ _ _ _ r h => by simp [sequiturref30_Between.j1] at h, fun _ _ _ _ _ _ _ _ _ _ _ r h => by simp [sequiturref30_Between.j2] at h⟩
 | k + 1 => by
  obtain ⟨ih0, ih1, ih2⟩ := sequiturref30_Between.mono_l k
  refine ⟨?_, ?_, ?_⟩
  ·intro y0 y1 y2 y3 y4 y5 y6 y7
   unfold sequiturref30_Between.l0
   repeat' first
   | (with_reducible exact ih0 _ _ _ _ _ _ _ _)
   | (with_reducible exact ih1 _ _ _ _ _ _ _ _ _ _ _)
   | (with_reducible exact ih2 _ _ _ _ _ _ _ _ _ _ _)
   | (with_reducible exact sequiturref27_By.mono _ _ _ _)
   | (with_reducible exact sequiturref27_Eval.mono _ _ _ _)
   | (with_reducible exact sequiturref27_Less.mono _ _ _ _)
   | (with_reducible exact sequiturref30_Right.mono _ _ _)
   | (with_reducible exact LeO.refl _)
   | (with_reducible exact LeO.none _)
   | (with_reducible refine LeO.ite ?_ ?_)
   | (with_reducible refine LeO.bind ?_ (fun _ => ?_))
   | exact ih0 _ _ _ _ _ _ _ _
   | exact ih1 _ _ _ _ _ _ _ _ _ _ _
   | exact ih2 _ _ _ _ _ _ _ _ _ _ _
   | exact sequiturref27_By.mono _ _ _ _
   | exact sequiturref27_Eval.mono _ _ _ _
   | exact sequiturref27_Less.mono _ _ _ _
   | exact sequiturref30_Right.mono _ _ _
   | exact LeO.none _
   | refine LeO.ite ?_ ?_
   | refine LeO.bind ?_ (fun _ => ?_)
  ·intro y0 y1 y2 y3 y4 y5 y6 y7 y8 y9 y10
   unfold sequiturref30_Between.j1
   repeat' first
   | (with_reducible exact ih0 _ _ _ _ _ _ _ _)
   | (with_reducible exact ih1 _ _ _ _ _ _ _ _ _ _ _)
   | (with_reducible exact ih2 _ _ _ _ _ _ _ _ _ _ _)
   | (with_reducible exact sequiturref27_By.mono _ _ _ _)
   | (with_reducible exact sequiturref27_Eval.mono _ _ _ _)
   | (with_reducible exact sequiturref27_Less.mono _ _ _ _)
   | (with_reducible exact sequiturref30_Right.mono _ _ _)
   | (with_reducible exact LeO.refl _)
   | (with_reducible exact LeO.none _)
   | (with_reducible refine LeO.ite ?_ ?_)
   | (with_reducible refine LeO.bind ?_ (fun _ => ?_))
   | exact ih0 _ _ _ _ _ _ _ _
   | exact ih1 _ _ _ _ _ _ _ _ _ _ _
   | exact ih2 _ _ _ _ _ _ _ _ _ _ _
   | exact sequiturref27_By.mono _ _ _ _
   | exact sequiturref27_Eval.mono _ _ _ _
   | exact sequiturref27_Less.mono _ _ _ _
   | exact sequiturref30_Right.mono _ _ _
   | exact LeO.none _
   | refine LeO.ite ?_ ?_
   | refine LeO.bind ?_ (fun _ => ?_)
  ·intro y0 y1 y2 y3 y4 y5 y6 y7 y8 y9 y10
   unfold sequiturref30_Between.j2
   repeat' first
   | (with_reducible exact ih0 _ _ _ _ _ _ _ _)
   | (with_reducible exact ih1 _ _ _ _ _ _ _ _ _ _ _)
   | (with_reducible exact ih2 _ _ _ _ _ _ _ _ _ _ _)
   | (with_reducible exact sequiturref27_By.mono _ _ _ _)
   | (with_reducible exact sequiturref27_Eval.mono _ _ _ _)
   | (with_reducible exact sequiturref27_Less.mono _ _ _ _)
   | (with_reducible exact sequiturref30_Right.mono _ _ _)
   | (with_reducible exact LeO.refl _)
   | (with_reducible exact LeO.none _)
   | (with_reducible refine LeO.ite ?_ ?_)
   | (with_reducible refine LeO.bind ?_ (fun _ => ?_))
   | exact ih0 _ _ _ _ _ _ _ _
   | exact ih1 _ _ _ _ _ _ _ _ _ _ _
   | exact ih2 _ _ _ _ _ _ _ _ _ _ _
   | exact sequiturref27_By.mono _ _ _ _
   | exact sequiturref27_Eval.mono _ _ _ _
   | exact sequiturref27_Less.mono _ _ _ _
   | exact sequiturref30_Right.mono _ _ _
   | exact LeO.none _
   | refine LeO.ite ?_ ?_
   | refine LeO.bind ?_ (fun _ => ?_)
theorem sequiturref30_Between.mono : ∀ a0 a1 a2 k, LeO (sequiturref30_Between.f k a0 a1 a2) (sequiturref30_Between.f (k + 1) a0 a1 a2) := by
 intro a0 a1 a2 k
 obtain ⟨ih0, ih1, ih2⟩ := sequiturref30_Between.mono_l k
 unfold sequiturref30_Between.f
 repeat' first
   | (with_reducible exact ih0 _ _ _ _ _ _ _ _)
   | (with_reducible exact ih1 _ _ _ _ _ _ _ _ _ _ _)
   | (with_reducible exact ih2 _ _ _ _ _ _ _ _ _ _ _)
   | (with_reducible exact sequiturref27_By.mono _ _ _ _)
   | (with_reducible exact sequiturref27_Eval.mono _ _ _ _)
   | (with_reducible exact sequiturref27_Less.mono _ _ _ _)
   | (with_reducible exact sequiturref30_Right.mono _ _ _)
   | (with_reducible exact LeO.refl _)
   | (with_reducible exact LeO.none _)
   | (with_reducible refine LeO.ite ?_ ?_)
   | (with_reducible refine LeO.bind ?_ (fun _ => ?_))
   | exact ih0 _ _ _ _ _ _ _ _
   | exact ih1 _ _ _ _ _ _ _ _ _ _ _
   | exact ih2 _ _ _ _ _ _ _ _ _ _ _
   | exact sequiturref27_By.mono _ _ _ _
   | exact sequiturref27_Eval.mono _ _ _ _
   | exact sequiturref27_Less.mono _ _ _ _
   | exact sequiturref30_Right.mono _ _ _
   | exact LeO.none _
   | refine LeO.ite ?_ ?_
   | refine LeO.bind ?_ (fun _ => ?_)
set_option maxHeartbeats 8000000 in
set_option maxRecDepth 100000 in
theorem sequiturref30_Between.calls (k : Nat) (A0 : Option Addr) (c0 : Nat) (l0 : List (S70)) (a1 : Int) (A2 : Option Addr) (c2 : Nat) (l2 : List Int) (r1 : Int) (r2 : Int) (r3 : Bool) (r4 : Bool) (r5 : Int) (w : World) (hr0 : Kd.C k70 w A0 l0.length l0) (hc0 : l0.length ≤ c0) (hr2 : Kd.C (Kd.int .i64) w A2 l2.length l2) (hc2 : l2.length ≤ c2) (h : sequiturref30_Between.f k l0 a1 l2 = some (r1, r2, r3, r4, r5)) :
  Calls Try.prog 30 #[.slice A0 l0.length c0, .int .i64 a1, .slice A2 l2.length c2] w fun e w' => e = .returned (.tuple #[.int .i64 r1, .int .i64 r2, .bool r3, .bool r4, .int .i64 r5]) ∧ Below w.heap.size w w' := by
 have hu62 := Try.underlying62
 have HR0 := zK hr0
 have HC0 := zK hc0; clear hr0 hc0
 have HR2 := zK hr2
 have HC2 := zK hc2; clear hr2 hc2
 have HB := zK (Below.refl w.heap.size w)
 have H : ((sequiturref30_Right.f k l0 a1).bind fun t342 => (if t342 = true then (sequiturref30_Between.l0 k l0 a1 l2 0 0 false false 0) else (some (0, 0, false, false, 1)))) = some (r1, r2, r3, r4, r5) := h
 clear h; replace H := Option.bind_eq_some_iff.mp H
 obtain ⟨t342, A40, H⟩ := H
 replace H : (if t342 = true then (sequiturref30_Between.l0 k l0 a1 l2 0 0 false false 0) else (some (0, 0, false, false, 1))) = some (r1, r2, r3, r4, r5) := H
 have A4 := zK A40; clear A40
 by_cases c5 : t342 = true
 ·subst c5
  have H1 : (sequiturref30_Between.l0 k l0 a1 l2 0 0 false false 0) = some (r1, r2, r3, r4, r5) := by rw [if_pos rfl] at H; exact H
  clear H; have H := H1; clear H1
  have H' := zK H; clear H
  go_enter Try.func30, Try.ntmps30
  go_wp2_with (first | ((with_reducible refine zC (f := 40) rfl ?_); refine goesL_ (some 23) rfl rfl Try.func40 (by kernel_rfl) rfl #[.slice A0 l0.length c0, .int .i64 a1] rfl (by (try simp only [List.map_toArray, List.map_cons, List.map_nil]); first | done | rfl | (simp only [List.length_drop, List.length_take]; rfl)) ?_; (with_reducible refine (sequiturref30_Right.calls k _ _ l0 a1 true _ ?side1 ?side2 A4.out).mono ?_); (case side1 => repeat (first | exact HR0.out | (with_reducible refine cA ?_ _) | (with_reducible refine cN ?_ _) | (with_reducible refine cD ?_))); (case side2 => exact HC0.out); rintro e w6 ⟨rfl, hb⟩; refine ⟨_, rfl, ?_⟩; replace HB := zK (below_step (zo HB) hb); (try clear hb); (try clear hb2); (try clear hk); (try clear hi)))
  go_loopg [11, 12, 13, 14, 15] k (fun kq v11 v12 v13 v14 v15 w' => ∃ (x11_1 : Int) (x12_1 : Int) (x13_1 : Bool) (x14_1 : Bool) (x15_1 : Int), v11 = .int .i64 x11_1 ∧ v12 = .int .i64 x12_1 ∧ v13 = .bool x13_1 ∧ v14 = .bool x14_1 ∧ v15 = .int .i64 x15_1 ∧ Aside0 (sequiturref30_Between.l0 kq l0 a1 l2 x11_1 x12_1 x13_1 x14_1 x15_1 = some (r1, r2, r3, r4, r5)) ∧ Aside0 (kq ≤ k) ∧ Aside0 (Below w.heap.size w w'))
  case atStart => exact ⟨(0), (0), (false), (false), (0), (by first | rfl | (simp; done) | (simp [*]; done)), (by first | rfl | (simp; done) | (simp [*]; done)), (by first | rfl | (simp; done) | (simp [*]; done)), (by first | rfl | (simp; done) | (simp [*]; done)), (by first | rfl | (simp; done) | (simp [*]; done)), H', ⟨Nat.le_refl _⟩, ⟨zo HB⟩⟩
  case round =>
   clear H'; try clear c2; try clear p2; try clear c3; try clear c4; try clear c5
   obtain ⟨x11_1, x12_1, x13_1, x14_1, x15_1, rfl, rfl, rfl, rfl, rfl, HA, HK1, HB⟩ := hrel
   cases gk with
   | zero => exact absurd HA.out (by simp [sequiturref30_Between.l0])
   | succ k1 =>
    have H := HA.out; clear HA
    simp only [sequiturref30_Between.l0] at H
    by_cases c7 : x15_1 < (l0.length : Int)
    ·rw [if_pos c7] at H
     have c7b0 : decide (x15_1 < (l0.length : Int)) = true := decide_eq_true c7
     clear c7
     by_cases c8 : 0 ≤ x15_1
     ·rw [if_pos c8] at H
      have c8b0 : decide (0 ≤ x15_1) = true := decide_eq_true c8; clear c8
      replace H := Option.bind_eq_some_iff.mp H
      obtain ⟨t344, A90, H⟩ := H
      replace H : (if t344 = 0 then (sequiturref30_Between.l0 k1 l0 a1 l2 x11_1 x12_1 x13_1 x14_1 (wrap64 (x15_1 + 1))) else ((sequiturref27_Less.f k1 ((rd_T70 l0 x15_1).f0.f0) ((rd_T70 l0 x15_1).f0.f1) a1).bind fun bt346 => ((sequiturref27_Eval.f k1 bt346.1 bt346.2 l2).bind fun bt350 => ((sequiturref30_allow.f bt350.1 t344).bind fun bt352 => (if bt350.2 = 0 then (sequiturref30_Between.j1 k1 l0 a1 l2 x11_1 x12_1 x13_1 x14_1 x15_1 t344 bt352.1 (!bt352.2)) else (sequiturref30_Between.j1 k1 l0 a1 l2 x11_1 x12_1 x13_1 x14_1 x15_1 t344 bt352.1 true)))))) = some (r1, r2, r3, r4, r5) := H
      have A9 := zK A90; clear A90
      by_cases c10 : t344 = 0
      ·rw [if_pos c10] at H
       have c10b0 : (t344 == 0) = true := beq_iff_eq.mpr c10
       have c10b1 : (t344 != 0) = false := bne_eq_false_iff_eq.mpr c10; clear c10
       have H' := zK H; clear H
       have p343 : 0 ≤ (x15_1 : Int) := of_decide_eq_true (by first | (with_reducible assumption) | assumption)
       have q343 : x15_1 < (l0.length : Int) := of_decide_eq_true (by first | (with_reducible assumption) | assumption)
       obtain ⟨ad343, A343_1, c343_1, e343, hx343_0, hx343_1, hx343_2, hl343_1, hi343_1⟩ := at_T70 HR0.out x15_1 p343 q343
       cases e343
       replace hx343_0 := (HB.out.cell (World.block_lt_of_cell? w _ hx343_0)).trans hx343_0
       replace hx343_1 := (HB.out.cell (World.block_lt_of_cell? w _ hx343_1)).trans hx343_1
       replace hx343_2 := (HB.out.cell (World.block_lt_of_cell? w _ hx343_2)).trans hx343_2
       have HR343_1 := zK hi343_1
       have HC343_1 := zK hl343_1; clear hi343_1 hl343_1
       replace p343 := eq_true p343
       replace q343 := eq_true q343
       go_wp2_with (first | ((with_reducible refine zC (f := 42) rfl ?_); refine goesL_ (some 37) rfl rfl Try.func42 (by kernel_rfl) rfl #[.agg #[.int .i64 ((rd_T70 l0 x15_1).f0.f0), .slice A343_1 ((rd_T70 l0 x15_1).f0.f1).length c343_1], .int .i64 a1] rfl (by (try simp only [List.map_toArray, List.map_cons, List.map_nil]); first | done | rfl | (simp only [List.length_drop, List.length_take]; rfl)) ?_; (with_reducible refine (sequiturref27_By.calls k1 ((rd_T70 l0 x15_1).f0.f0) _ _ ((rd_T70 l0 x15_1).f0.f1) a1 t344 _ ?side1 ?side2 A9.out).mono ?_); (case side1 => repeat (first | exact (Kd.C_below HR343_1.out HB.out) | (with_reducible refine cA ?_ _) | (with_reducible refine cN ?_ _) | (with_reducible refine cD ?_))); (case side2 => exact HC343_1.out); rintro e w11 ⟨rfl, hb⟩; refine ⟨_, rfl, ?_⟩; replace HB := zK (below_step (zo HB) hb); (try clear hb); (try clear hb2); (try clear hk); (try clear hi)))
       go_roundg k1
       case measure => have := HK1.out; omega
       case rel => exact ⟨(x11_1), (x12_1), (x13_1), (x14_1), (wrap64 (x15_1 + 1)), (by first | rfl | (simp; done) | (simp [*]; done)), (by first | rfl | (simp; done) | (simp [*]; done)), (by first | rfl | (simp; done) | (simp [*]; done)), (by first | rfl | (simp; done) | (simp [*]; done)), (by first | rfl | (simp; done) | (simp [*]; done)), H', ⟨by have := HK1.out; omega⟩, ⟨zo HB⟩⟩
      ·rw [if_neg c10] at H
       have c10b0 : (t344 == 0) = false := beq_eq_false_iff_ne.mpr c10
       have c10b1 : (t344 != 0) = true := bne_iff_ne.mpr c10; replace H := Option.bind_eq_some_iff.mp H
       obtain ⟨⟨t346, t347⟩, A120, H⟩ := H
       replace H : ((sequiturref27_Eval.f k1 t346 t347 l2).bind fun bt350 => ((sequiturref30_allow.f bt350.1 t344).bind fun bt352 => (if bt350.2 = 0 then (sequiturref30_Between.j1 k1 l0 a1 l2 x11_1 x12_1 x13_1 x14_1 x15_1 t344 bt352.1 (!bt352.2)) else (sequiturref30_Between.j1 k1 l0 a1 l2 x11_1 x12_1 x13_1 x14_1 x15_1 t344 bt352.1 true)))) = some (r1, r2, r3, r4, r5) := H
       have A12 := zK A120; clear A120; replace H := Option.bind_eq_some_iff.mp H
       obtain ⟨⟨t350, t351⟩, A130, H⟩ := H
       replace H : ((sequiturref30_allow.f t350 t344).bind fun bt352 => (if t351 = 0 then (sequiturref30_Between.j1 k1 l0 a1 l2 x11_1 x12_1 x13_1 x14_1 x15_1 t344 bt352.1 (!bt352.2)) else (sequiturref30_Between.j1 k1 l0 a1 l2 x11_1 x12_1 x13_1 x14_1 x15_1 t344 bt352.1 true))) = some (r1, r2, r3, r4, r5) := H
       have A13 := zK A130; clear A130; replace H := Option.bind_eq_some_iff.mp H
       obtain ⟨⟨t352, t353⟩, A140, H⟩ := H
       replace H : (if t351 = 0 then (sequiturref30_Between.j1 k1 l0 a1 l2 x11_1 x12_1 x13_1 x14_1 x15_1 t344 t352 (!t353)) else (sequiturref30_Between.j1 k1 l0 a1 l2 x11_1 x12_1 x13_1 x14_1 x15_1 t344 t352 true)) = some (r1, r2, r3, r4, r5) := H
       have A14 := zK A140; clear A140
       have HC15 := zK H; clear H
       have p343 : 0 ≤ (x15_1 : Int) := of_decide_eq_true (by first | (with_reducible assumption) | assumption)
       have q343 : x15_1 < (l0.length : Int) := of_decide_eq_true (by first | (with_reducible assumption) | assumption)
       obtain ⟨ad343, A343_1, c343_1, e343, hx343_0, hx343_1, hx343_2, hl343_1, hi343_1⟩ := at_T70 HR0.out x15_1 p343 q343
       cases e343
       replace hx343_0 := (HB.out.cell (World.block_lt_of_cell? w _ hx343_0)).trans hx343_0
       replace hx343_1 := (HB.out.cell (World.block_lt_of_cell? w _ hx343_1)).trans hx343_1
       replace hx343_2 := (HB.out.cell (World.block_lt_of_cell? w _ hx343_2)).trans hx343_2
       have HR343_1 := zK hi343_1
       have HC343_1 := zK hl343_1; clear hi343_1 hl343_1
       replace p343 := eq_true p343
       replace q343 := eq_true q343
       go_upto_region 12 with (first | ((with_reducible refine zC (f := 42) rfl ?_); refine goesL_ (some 37) rfl rfl Try.func42 (by kernel_rfl) rfl #[.agg #[.int .i64 ((rd_T70 l0 x15_1).f0.f0), .slice A343_1 ((rd_T70 l0 x15_1).f0.f1).length c343_1], .int .i64 a1] rfl (by (try simp only [List.map_toArray, List.map_cons, List.map_nil]); first | done | rfl | (simp only [List.length_drop, List.length_take]; rfl)) ?_; (with_reducible refine (sequiturref27_By.calls k1 ((rd_T70 l0 x15_1).f0.f0) _ _ ((rd_T70 l0 x15_1).f0.f1) a1 t344 _ ?side1 ?side2 A9.out).mono ?_); (case side1 => repeat (first | exact (Kd.C_below HR343_1.out HB.out) | (with_reducible refine cA ?_ _) | (with_reducible refine cN ?_ _) | (with_reducible refine cD ?_))); (case side2 => exact HC343_1.out); rintro e w16 ⟨rfl, hb⟩; refine ⟨_, rfl, ?_⟩; replace HB := zK (below_step (zo HB) hb); (try clear hb); (try clear hb2); (try clear hk); (try clear hi); have p345 : 0 ≤ (x15_1 : Int) := of_decide_eq_true (by first | (with_reducible assumption) | assumption); have q345 : x15_1 < (l0.length : Int) := of_decide_eq_true (by first | (with_reducible assumption) | assumption); obtain ⟨ad345, A345_1, c345_1, e345, hx345_0, hx345_1, hx345_2, hl345_1, hi345_1⟩ := at_T70 HR0.out x15_1 p345 q345; obtain rfl : ad343 = ad345 := (by injection e345); replace hx345_0 := (HB.out.cell (World.block_lt_of_cell? w _ hx345_0)).trans hx345_0; replace hx345_1 := (HB.out.cell (World.block_lt_of_cell? w _ hx345_1)).trans hx345_1; replace hx345_2 := (HB.out.cell (World.block_lt_of_cell? w _ hx345_2)).trans hx345_2; have HR345_1 := zK hi345_1; have HC345_1 := zK hl345_1; clear hi345_1 hl345_1; replace p345 := eq_true p345; replace q345 := eq_true q345) | ((with_reducible refine zC (f := 62) rfl ?_); refine goesL_ (some 47) rfl rfl Try.func62 (by kernel_rfl) rfl #[.agg #[.int .i64 ((rd_T70 l0 x15_1).f0.f0), .slice A345_1 ((rd_T70 l0 x15_1).f0.f1).length c345_1], .int .i64 a1] rfl (by (try simp only [List.map_toArray, List.map_cons, List.map_nil]); first | done | rfl | (simp only [List.length_drop, List.length_take]; rfl)) ?_; (with_reducible refine (sequiturref27_Less.calls k1 ((rd_T70 l0 x15_1).f0.f0) _ _ ((rd_T70 l0 x15_1).f0.f1) a1 t346 t347 _ ?side1 ?side2 A12.out).mono ?_); (case side1 => repeat (first | exact (Kd.C_below HR345_1.out HB.out) | (with_reducible refine cA ?_ _) | (with_reducible refine cN ?_ _) | (with_reducible refine cD ?_))); (case side2 => exact HC345_1.out); rintro e w17 ⟨v348, rfl, ho0, hb⟩; refine ⟨_, rfl, ?_⟩; have HO349 := zK (Kd.R_lower ho0 (below_size (zo HB))); replace HB := zK (below_step (zo HB) hb); (try clear hb); (try clear hb2); (try clear hk); (try clear hi); (try clear ho0); obtain ⟨Ao18, co18, eo18⟩ := Kd.R_slice HO349.out; subst eo18) | ((with_reducible refine zC (f := 37) rfl ?_); refine goesL_ (some 49) rfl rfl Try.func37 (by kernel_rfl) rfl #[.agg #[.int .i64 t346, .slice Ao18 t347.length co18], .slice A2 l2.length c2] rfl (by (try simp only [List.map_toArray, List.map_cons, List.map_nil]); first | done | rfl | (simp only [List.length_drop, List.length_take]; rfl)) ?_; (with_reducible refine (sequiturref27_Eval.calls k1 t346 _ _ t347 _ _ l2 t350 t351 _ ?side1 ?side2 ?side3 ?side4 A13.out).mono ?_); (case side1 => repeat (first | exact (Kd.R_reads' HO349.out).2.2 | (with_reducible refine cA ?_ _) | (with_reducible refine cN ?_ _) | (with_reducible refine cD ?_))); (case side2 => exact (Kd.R_reads' HO349.out).2.1); (case side3 => repeat (first | exact (Kd.C_below HR2.out HB.out) | (with_reducible refine cA ?_ _) | (with_reducible refine cN ?_ _) | (with_reducible refine cD ?_))); (case side4 => exact HC2.out); rintro e w19 ⟨rfl, hb⟩; refine ⟨_, rfl, ?_⟩; replace HO349 := zK (Kd.R_below (zr HO349) hb); replace HB := zK (below_step (zo HB) hb); (try clear hb); (try clear hb2); (try clear hk); (try clear hi)) | ((with_reducible refine zC (f := 63) rfl ?_); refine goesL_ (some 55) rfl rfl Try.func63 (by kernel_rfl) rfl #[.int .i64 t350, .int .i64 t344] rfl (by (try simp only [List.map_toArray, List.map_cons, List.map_nil]); first | done | rfl | (simp only [List.length_drop, List.length_take]; rfl)) ?_; (with_reducible refine (sequiturref30_allow.calls t350 t344 t352 t353 _ A14.out).mono ?_); rintro e w20 ⟨rfl, hb⟩; refine ⟨_, rfl, ?_⟩; replace HO349 := zK (Kd.R_below (zr HO349) hb); replace HB := zK (below_step (zo HB) hb); (try clear hb); (try clear hb2); (try clear hk); (try clear hi)))
       (try simp only [Act.put, List.setIfInBounds_toArray, List.set_cons_zero, List.set_cons_succ])
       go_cut [63] (fun v63 wc => ∃ (kq : Nat) (x63_14 : Bool), v63 = .bool x63_14 ∧ Aside0 (sequiturref30_Between.j1 kq l0 a1 l2 x11_1 x12_1 x13_1 x14_1 x15_1 t344 t352 x63_14 = some (r1, r2, r3, r4, r5)) ∧ Aside0 (kq ≤ k1) ∧ Aside0 (Below w.heap.size w wc))
       case first =>
        have H := HC15.out; clear HC15
        by_cases c21 : t351 = 0
        ·rw [if_pos c21] at H
         have c21b0 : (t351 == 0) = true := beq_iff_eq.mpr c21
         have c21b1 : (t351 != 0) = false := bne_eq_false_iff_eq.mpr c21; clear c21
         (first | rw [c21b0] | (simp only [i64_w, i32_w]; rw [c21b0]) | skip)
         have H' := zK H; clear H
         go_wp2
         go_meet
         case rel => exact ⟨_, (!t353), (by first | rfl | (simp; done) | (simp [*]; done)), H', ⟨by have := HK1.out; first | omega | exact Nat.le_refl _⟩, ⟨zo HB⟩⟩
        ·rw [if_neg c21] at H
         have c21b0 : (t351 == 0) = false := beq_eq_false_iff_ne.mpr c21
         have c21b1 : (t351 != 0) = true := bne_iff_ne.mpr c21
         (first | rw [c21b0] | (simp only [i64_w, i32_w]; rw [c21b0]) | skip)
         have H' := zK H; clear H
         go_wp2
         go_meet
         case rel => exact ⟨_, (true), (by first | rfl | (simp; done) | (simp [*]; done)), H', ⟨by have := HK1.out; first | omega | exact Nat.le_refl _⟩, ⟨zo HB⟩⟩
       case rest =>
        clear HC15; try clear c1; try clear c2; try clear p2
        try clear c3; try clear p3; try clear q3; try clear hx3
        try clear c4; try clear c5; try clear c6; try clear p6
        try clear c7; try clear c7b0; try clear c8; try clear c8b0
        try clear c10; try clear c10b0; try clear c10b1; try clear c21
        try clear c21b0; try clear c21b1; try clear hx343_0; try clear hx343_1
        try clear hx343_2; try clear hx345_0; try clear hx345_1; try clear hx345_2
        try clear p2; try clear p343; try clear p345; try clear q343; try clear q345
        obtain ⟨kq, x63_14, rfl, HA, HJ14, HB⟩ := hcut
        cases kq with
        | zero => exact absurd HA.out (by simp [sequiturref30_Between.j1])
        | succ kj14 =>
         have H := HA.out; clear HA
         simp only [sequiturref30_Between.j1] at H
         by_cases c22 : x63_14 = true
         ·subst c22
          have H1 : (some (0, 0, false, false, 5)) = some (r1, r2, r3, r4, r5) := by rw [if_pos rfl] at H; exact H
          clear H; have H := H1; clear H1
          simp only [Option.some.injEq, Prod.mk.injEq] at H
          obtain ⟨rfl, rfl, rfl, rfl, rfl⟩ := H
          go_wp2
          refine bodyPost_ret (results_list (rs := [.tmp 6, .tmp 7, .tmp 8, .tmp 9, .tmp 10]) rfl (by simp) (.tmp (.tmp (.tmp (.tmp (.tmp .nil)))))) rfl ?_
          exact ⟨by first | rfl | (simp [errW_none, errW_some] <;> rfl) | (simp [*, errW_none, errW_some] <;> rfl), zo HB⟩
         ·replace c22 := Bool.eq_false_iff.mpr c22
          subst c22
          have H1 : (if t344 < 0 then (if x13_1 = true then (sequiturref30_Between.j2 kj14 l0 a1 l2 x11_1 x12_1 x13_1 x14_1 x15_1 t344 t352 (decide (t352 > x11_1))) else (sequiturref30_Between.j2 kj14 l0 a1 l2 x11_1 x12_1 x13_1 x14_1 x15_1 t344 t352 true)) else (sequiturref30_Between.j2 kj14 l0 a1 l2 x11_1 x12_1 x13_1 x14_1 x15_1 t344 t352 false)) = some (r1, r2, r3, r4, r5) := by rw [if_neg (show ¬ (false = true) by decide)] at H; exact H
          clear H; have H := H1; clear H1
          have HC23 := zK H; clear H
          go_upto_region 14 with (fail)
          go_cut [74] (fun v74 wc => ∃ (kq : Nat) (x74_22 : Bool), v74 = .bool x74_22 ∧ Aside0 (sequiturref30_Between.j2 kq l0 a1 l2 x11_1 x12_1 x13_1 x14_1 x15_1 t344 t352 x74_22 = some (r1, r2, r3, r4, r5)) ∧ Aside0 (kq ≤ kj14) ∧ Aside0 (Below w.heap.size w wc))
          case first =>
           have H := HC23.out; clear HC23
           by_cases c24 : t344 < 0
           ·rw [if_pos c24] at H
            have c24b0 : decide (t344 < 0) = true := decide_eq_true c24; clear c24
            (first | rw [c24b0] | (simp only [i64_w, i32_w]; rw [c24b0]) | skip)
            by_cases c25 : x13_1 = true
            ·subst c25
             have H1 : (sequiturref30_Between.j2 kj14 l0 a1 l2 x11_1 x12_1 true x14_1 x15_1 t344 t352 (decide (t352 > x11_1))) = some (r1, r2, r3, r4, r5) := by rw [if_pos rfl] at H; exact H
             clear H; have H := H1; clear H1
             have H' := zK H; clear H
             go_wp2
             go_meet
             case rel => exact ⟨_, (decide (t352 > x11_1)), (by first | rfl | (simp; done) | (simp [*]; done)), H', ⟨by have := HK1.out; have := HJ14.out; first | omega | exact Nat.le_refl _⟩, ⟨zo HB⟩⟩
            ·replace c25 := Bool.eq_false_iff.mpr c25
             subst c25
             have H1 : (sequiturref30_Between.j2 kj14 l0 a1 l2 x11_1 x12_1 false x14_1 x15_1 t344 t352 true) = some (r1, r2, r3, r4, r5) := by rw [if_neg (show ¬ (false = true) by decide)] at H; exact H
             clear H; have H := H1; clear H1
             have H' := zK H; clear H
             go_wp2
             go_meet
             case rel => exact ⟨_, (true), (by first | rfl | (simp; done) | (simp [*]; done)), H', ⟨by have := HK1.out; have := HJ14.out; first | omega | exact Nat.le_refl _⟩, ⟨zo HB⟩⟩
           ·rw [if_neg c24] at H
            have c24b0 : decide (t344 < 0) = false := decide_eq_false c24; clear c24
            (first | rw [c24b0] | (simp only [i64_w, i32_w]; rw [c24b0]) | skip)
            have H' := zK H; clear H
            go_wp2
            go_meet
            case rel => exact ⟨_, (false), (by first | rfl | (simp; done) | (simp [*]; done)), H', ⟨by have := HK1.out; have := HJ14.out; first | omega | exact Nat.le_refl _⟩, ⟨zo HB⟩⟩
          case rest =>
           clear HC23; try clear c1; try clear c2; try clear p2
           try clear c3; try clear p3; try clear q3; try clear hx3
           try clear c4; try clear c5; try clear c6; try clear p6
           try clear c7; try clear c7b0; try clear c8; try clear c8b0
           try clear c10; try clear c10b0; try clear c10b1; try clear c21
           try clear c21b0; try clear c21b1; try clear c22; try clear c24
           try clear c24b0; try clear c25; try clear hx343_0; try clear hx343_1
           try clear hx343_2; try clear hx345_0; try clear hx345_1; try clear hx345_2
           try clear p2; try clear p3; try clear p343; try clear p345
           try clear p6; try clear q3; try clear q343; try clear q345
           obtain ⟨kq, x74_22, rfl, HA, HJ22, HB⟩ := hcut
           cases kq with
           | zero => exact absurd HA.out (by simp [sequiturref30_Between.j2])
           | succ kj22 =>
            have H := HA.out; clear HA
            simp only [sequiturref30_Between.j2] at H
            by_cases c26 : x74_22 = true
            ·subst c26
             have H1 : (if t344 > 0 then (if x14_1 = true then (if t352 < x12_1 then (sequiturref30_Between.l0 kj22 l0 a1 l2 t352 t352 true true (wrap64 (x15_1 + 1))) else (sequiturref30_Between.l0 kj22 l0 a1 l2 t352 x12_1 true x14_1 (wrap64 (x15_1 + 1)))) else (sequiturref30_Between.l0 kj22 l0 a1 l2 t352 t352 true true (wrap64 (x15_1 + 1)))) else (sequiturref30_Between.l0 kj22 l0 a1 l2 t352 x12_1 true x14_1 (wrap64 (x15_1 + 1)))) = some (r1, r2, r3, r4, r5) := by rw [if_pos rfl] at H; exact H
             clear H; have H := H1; clear H1
             by_cases c27 : t344 > 0
             ·rw [if_pos c27] at H
              have c27b0 : decide (0 < t344) = true := decide_eq_true c27; clear c27
              by_cases c28 : x14_1 = true
              ·subst c28
               have H1 : (if t352 < x12_1 then (sequiturref30_Between.l0 kj22 l0 a1 l2 t352 t352 true true (wrap64 (x15_1 + 1))) else (sequiturref30_Between.l0 kj22 l0 a1 l2 t352 x12_1 true true (wrap64 (x15_1 + 1)))) = some (r1, r2, r3, r4, r5) := by rw [if_pos rfl] at H; exact H
               clear H; have H := H1; clear H1
               by_cases c29 : t352 < x12_1
               ·rw [if_pos c29] at H
                have c29b0 : decide (t352 < x12_1) = true := decide_eq_true c29; clear c29
                have H' := zK H; clear H
                go_wp2
                go_roundg kj22
                case measure => have := HK1.out; have := HJ14.out; have := HJ22.out; omega
                case rel => exact ⟨(t352), (t352), (true), (true), (wrap64 (x15_1 + 1)), (by first | rfl | (simp; done) | (simp [*]; done)), (by first | rfl | (simp; done) | (simp [*]; done)), (by first | rfl | (simp; done) | (simp [*]; done)), (by first | rfl | (simp; done) | (simp [*]; done)), (by first | rfl | (simp; done) | (simp [*]; done)), H', ⟨by have := HK1.out; have := HJ14.out; have := HJ22.out; omega⟩, ⟨zo HB⟩⟩
               ·rw [if_neg c29] at H
                have c29b0 : decide (t352 < x12_1) = false := decide_eq_false c29; clear c29
                have H' := zK H; clear H
                go_wp2
                go_roundg kj22
                case measure => have := HK1.out; have := HJ14.out; have := HJ22.out; omega
                case rel => exact ⟨(t352), (x12_1), (true), (true), (wrap64 (x15_1 + 1)), (by first | rfl | (simp; done) | (simp [*]; done)), (by first | rfl | (simp; done) | (simp [*]; done)), (by first | rfl | (simp; done) | (simp [*]; done)), (by first | rfl | (simp; done) | (simp [*]; done)), (by first | rfl | (simp; done) | (simp [*]; done)), H', ⟨by have := HK1.out; have := HJ14.out; have := HJ22.out; omega⟩, ⟨zo HB⟩⟩
              ·replace c28 := Bool.eq_false_iff.mpr c28
               subst c28
               have H1 : (sequiturref30_Between.l0 kj22 l0 a1 l2 t352 t352 true true (wrap64 (x15_1 + 1))) = some (r1, r2, r3, r4, r5) := by rw [if_neg (show ¬ (false = true) by decide)] at H; exact H
               clear H; have H := H1; clear H1
               have H' := zK H; clear H
               go_wp2
               go_roundg kj22
               case measure => have := HK1.out; have := HJ14.out; have := HJ22.out; omega
               case rel => exact ⟨(t352), (t352), (true), (true), (wrap64 (x15_1 + 1)), (by first | rfl | (simp; done) | (simp [*]; done)), (by first | rfl | (simp; done) | (simp [*]; done)), (by first | rfl | (simp; done) | (simp [*]; done)), (by first | rfl | (simp; done) | (simp [*]; done)), (by first | rfl | (simp; done) | (simp [*]; done)), H', ⟨by have := HK1.out; have := HJ14.out; have := HJ22.out; omega⟩, ⟨zo HB⟩⟩
             ·rw [if_neg c27] at H
              have c27b0 : decide (0 < t344) = false := decide_eq_false c27; clear c27
              have H' := zK H; clear H
              go_wp2
              go_roundg kj22
              case measure => have := HK1.out; have := HJ14.out; have := HJ22.out; omega
              case rel => exact ⟨(t352), (x12_1), (true), (x14_1), (wrap64 (x15_1 + 1)), (by first | rfl | (simp; done) | (simp [*]; done)), (by first | rfl | (simp; done) | (simp [*]; done)), (by first | rfl | (simp; done) | (simp [*]; done)), (by first | rfl | (simp; done) | (simp [*]; done)), (by first | rfl | (simp; done) | (simp [*]; done)), H', ⟨by have := HK1.out; have := HJ14.out; have := HJ22.out; omega⟩, ⟨zo HB⟩⟩
            ·replace c26 := Bool.eq_false_iff.mpr c26
             subst c26
             have H1 : (if t344 > 0 then (if x14_1 = true then (if t352 < x12_1 then (sequiturref30_Between.l0 kj22 l0 a1 l2 x11_1 t352 x13_1 true (wrap64 (x15_1 + 1))) else (sequiturref30_Between.l0 kj22 l0 a1 l2 x11_1 x12_1 x13_1 x14_1 (wrap64 (x15_1 + 1)))) else (sequiturref30_Between.l0 kj22 l0 a1 l2 x11_1 t352 x13_1 true (wrap64 (x15_1 + 1)))) else (sequiturref30_Between.l0 kj22 l0 a1 l2 x11_1 x12_1 x13_1 x14_1 (wrap64 (x15_1 + 1)))) = some (r1, r2, r3, r4, r5) := by rw [if_neg (show ¬ (false = true) by decide)] at H; exact H
             clear H; have H := H1; clear H1
             by_cases c30 : t344 > 0
             ·rw [if_pos c30] at H
              have c30b0 : decide (0 < t344) = true := decide_eq_true c30; clear c30
              by_cases c31 : x14_1 = true
              ·subst c31
               have H1 : (if t352 < x12_1 then (sequiturref30_Between.l0 kj22 l0 a1 l2 x11_1 t352 x13_1 true (wrap64 (x15_1 + 1))) else (sequiturref30_Between.l0 kj22 l0 a1 l2 x11_1 x12_1 x13_1 true (wrap64 (x15_1 + 1)))) = some (r1, r2, r3, r4, r5) := by rw [if_pos rfl] at H; exact H
               clear H; have H := H1; clear H1
               by_cases c32 : t352 < x12_1
               ·rw [if_pos c32] at H
                have c32b0 : decide (t352 < x12_1) = true := decide_eq_true c32; clear c32
                have H' := zK H; clear H
                go_wp2
                go_roundg kj22
                case measure => have := HK1.out; have := HJ14.out; have := HJ22.out; omega
                case rel => exact ⟨(x11_1), (t352), (x13_1), (true), (wrap64 (x15_1 + 1)), (by first | rfl | (simp; done) | (simp [*]; done)), (by first | rfl | (simp; done) | (simp [*]; done)), (by first | rfl | (simp; done) | (simp [*]; done)), (by first | rfl | (simp; done) | (simp [*]; done)), (by first | rfl | (simp; done) | (simp [*]; done)), H', ⟨by have := HK1.out; have := HJ14.out; have := HJ22.out; omega⟩, ⟨zo HB⟩⟩
               ·rw [if_neg c32] at H
                have c32b0 : decide (t352 < x12_1) = false := decide_eq_false c32; clear c32
                have H' := zK H; clear H
                go_wp2
                go_roundg kj22
                case measure => have := HK1.out; have := HJ14.out; have := HJ22.out; omega
                case rel => exact ⟨(x11_1), (x12_1), (x13_1), (true), (wrap64 (x15_1 + 1)), (by first | rfl | (simp; done) | (simp [*]; done)), (by first | rfl | (simp; done) | (simp [*]; done)), (by first | rfl | (simp; done) | (simp [*]; done)), (by first | rfl | (simp; done) | (simp [*]; done)), (by first | rfl | (simp; done) | (simp [*]; done)), H', ⟨by have := HK1.out; have := HJ14.out; have := HJ22.out; omega⟩, ⟨zo HB⟩⟩
              ·replace c31 := Bool.eq_false_iff.mpr c31
               subst c31
               have H1 : (sequiturref30_Between.l0 kj22 l0 a1 l2 x11_1 t352 x13_1 true (wrap64 (x15_1 + 1))) = some (r1, r2, r3, r4, r5) := by rw [if_neg (show ¬ (false = true) by decide)] at H; exact H
               clear H; have H := H1; clear H1
               have H' := zK H; clear H
               go_wp2
               go_roundg kj22
               case measure => have := HK1.out; have := HJ14.out; have := HJ22.out; omega
               case rel => exact ⟨(x11_1), (t352), (x13_1), (true), (wrap64 (x15_1 + 1)), (by first | rfl | (simp; done) | (simp [*]; done)), (by first | rfl | (simp; done) | (simp [*]; done)), (by first | rfl | (simp; done) | (simp [*]; done)), (by first | rfl | (simp; done) | (simp [*]; done)), (by first | rfl | (simp; done) | (simp [*]; done)), H', ⟨by have := HK1.out; have := HJ14.out; have := HJ22.out; omega⟩, ⟨zo HB⟩⟩
             ·rw [if_neg c30] at H
              have c30b0 : decide (0 < t344) = false := decide_eq_false c30; clear c30
              have H' := zK H; clear H
              go_wp2
              go_roundg kj22
              case measure => have := HK1.out; have := HJ14.out; have := HJ22.out; omega
              case rel => exact ⟨(x11_1), (x12_1), (x13_1), (x14_1), (wrap64 (x15_1 + 1)), (by first | rfl | (simp; done) | (simp [*]; done)), (by first | rfl | (simp; done) | (simp [*]; done)), (by first | rfl | (simp; done) | (simp [*]; done)), (by first | rfl | (simp; done) | (simp [*]; done)), (by first | rfl | (simp; done) | (simp [*]; done)), H', ⟨by have := HK1.out; have := HJ14.out; have := HJ22.out; omega⟩, ⟨zo HB⟩⟩
     ·rw [if_neg c8] at H
      exact absurd H (by simp)
    ·rw [if_neg c7] at H
     have c7b0 : decide (x15_1 < (l0.length : Int)) = false := decide_eq_false c7
     clear c7
     simp only [Option.some.injEq, Prod.mk.injEq] at H
     obtain ⟨rfl, rfl, rfl, rfl, rfl⟩ := H
     go_wp2
     refine bodyPost_ret (results_list (rs := [.tmp 6, .tmp 7, .tmp 8, .tmp 9, .tmp 10]) rfl (by simp) (.tmp (.tmp (.tmp (.tmp (.tmp .nil)))))) rfl ?_
     exact ⟨by first | rfl | (simp [errW_none, errW_some] <;> rfl) | (simp [*, errW_none, errW_some] <;> rfl), zo HB⟩
 ·replace c5 := Bool.eq_false_iff.mpr c5
  subst c5
  have H1 : (some (0, 0, false, false, 1)) = some (r1, r2, r3, r4, r5) := by rw [if_neg (show ¬ (false = true) by decide)] at H; exact H
  clear H; have H := H1; clear H1
  simp only [Option.some.injEq, Prod.mk.injEq] at H
  obtain ⟨rfl, rfl, rfl, rfl, rfl⟩ := H
  go_enter Try.func30, Try.ntmps30
  go_wp2_with (first | ((with_reducible refine zC (f := 40) rfl ?_); refine goesL_ (some 23) rfl rfl Try.func40 (by kernel_rfl) rfl #[.slice A0 l0.length c0, .int .i64 a1] rfl (by (try simp only [List.map_toArray, List.map_cons, List.map_nil]); first | done | rfl | (simp only [List.length_drop, List.length_take]; rfl)) ?_; (with_reducible refine (sequiturref30_Right.calls k _ _ l0 a1 false _ ?side1 ?side2 A4.out).mono ?_); (case side1 => repeat (first | exact HR0.out | (with_reducible refine cA ?_ _) | (with_reducible refine cN ?_ _) | (with_reducible refine cD ?_))); (case side2 => exact HC0.out); rintro e w33 ⟨rfl, hb⟩; refine ⟨_, rfl, ?_⟩; replace HB := zK (below_step (zo HB) hb); (try clear hb); (try clear hb2); (try clear hk); (try clear hi)))
  refine bodyPost_ret (results_list (rs := [.tmp 6, .tmp 7, .tmp 8, .tmp 9, .tmp 10]) rfl (by simp) (.tmp (.tmp (.tmp (.tmp (.tmp .nil)))))) rfl ?_
  exact ⟨by first | rfl | (simp [errW_none, errW_some] <;> rfl) | (simp [*, errW_none, errW_some] <;> rfl), zo HB⟩

/-! ### sequiturlaw30_ShadowBetween: function 7 -/
def sequiturlaw30_ShadowBetween.j0 : Nat → List (S70) → Int → List Int → Bool → Option (Bool)
 | 0, _, _, _, _ => none
 | k + 1, x0, x1, x2, x25 => if x25 = true then (some true) else ((shadow_Between.f k x0 x1 x2).bind fun bt356 => ((sequiturref30_Between.f k x0 x1 x2).bind fun bt361 => (if bt356.1 = bt361.1 then (if bt356.2.1 = bt361.2.1 then (if (bt356.2.2.1 == bt361.2.2.1) = true then (if (bt356.2.2.2.1 == bt361.2.2.2.1) = true then (some (bt356.2.2.2.2 == bt361.2.2.2.2)) else (none)) else (none)) else (none)) else (none))))
def sequiturlaw30_ShadowBetween.f (k : Nat) (l0 : List (S70)) (a1 : Int) (l2 : List Int) : Option (Bool) := (sequiturlaw30_alive.f k).bind fun t354 => (if t354 = true then ((sequiturref30_Long.f k l0 20).bind fun t355 => (if t355 = true then (sequiturlaw30_ShadowBetween.j0 k l0 a1 l2 true) else (sequiturlaw30_ShadowBetween.j0 k l0 a1 l2 (decide ((l2.length : Int) > 80))))) else (none))
theorem sequiturlaw30_ShadowBetween.mono_l : ∀ k, (∀ y0 y1 y2 y3, LeO (sequiturlaw30_ShadowBetween.j0 k y0 y1 y2 y3) (sequiturlaw30_ShadowBetween.j0 (k + 1) y0 y1 y2 y3))
 | 0 => fun _ _ _ _ r h => by simp [sequiturlaw30_ShadowBetween.j0] at h
 | k + 1 => by
  have ih0 := sequiturlaw30_ShadowBetween.mono_l k
  ·intro y0 y1 y2 y3
   unfold sequiturlaw30_ShadowBetween.j0
   repeat' first
   | (with_reducible exact ih0 _ _ _ _)
   | (with_reducible exact sequiturlaw30_alive.mono _)
   | (with_reducible exact sequiturref30_Between.mono _ _ _ _)
   | (with_reducible exact sequiturref30_Long.mono _ _ _)
   | (with_reducible exact shadow_Between.mono _ _ _ _)
   | (with_reducible exact LeO.refl _)
   | (with_reducible exact LeO.none _)
   | (with_reducible refine LeO.ite ?_ ?_)
   | (with_reducible refine LeO.bind ?_ (fun _ => ?_))
   | exact ih0 _ _ _ _
   | exact sequiturlaw30_alive.mono _
   | exact sequiturref30_Between.mono _ _ _ _
   | exact sequiturref30_Long.mono _ _ _
   | exact shadow_Between.mono _ _ _ _
   | exact LeO.none _
   | refine LeO.ite ?_ ?_
   | refine LeO.bind ?_ (fun _ => ?_)
theorem sequiturlaw30_ShadowBetween.mono : ∀ a0 a1 a2 k, LeO (sequiturlaw30_ShadowBetween.f k a0 a1 a2) (sequiturlaw30_ShadowBetween.f (k + 1) a0 a1 a2) := by
 intro a0 a1 a2 k
 have ih0 := sequiturlaw30_ShadowBetween.mono_l k
 unfold sequiturlaw30_ShadowBetween.f
 repeat' first
   | (with_reducible exact ih0 _ _ _ _)
   | (with_reducible exact sequiturlaw30_alive.mono _)
   | (with_reducible exact sequiturref30_Between.mono _ _ _ _)
   | (with_reducible exact sequiturref30_Long.mono _ _ _)
   | (with_reducible exact shadow_Between.mono _ _ _ _)
   | (with_reducible exact LeO.refl _)
   | (with_reducible exact LeO.none _)
   | (with_reducible refine LeO.ite ?_ ?_)
   | (with_reducible refine LeO.bind ?_ (fun _ => ?_))
   | exact ih0 _ _ _ _
   | exact sequiturlaw30_alive.mono _
   | exact sequiturref30_Between.mono _ _ _ _
   | exact sequiturref30_Long.mono _ _ _
   | exact shadow_Between.mono _ _ _ _
   | exact LeO.none _
   | refine LeO.ite ?_ ?_
   | refine LeO.bind ?_ (fun _ => ?_)
set_option maxHeartbeats 8000000 in
set_option maxRecDepth 100000 in
theorem sequiturlaw30_ShadowBetween.calls (k : Nat) (A0 : Option Addr) (c0 : Nat) (l0 : List (S70)) (a1 : Int) (A2 : Option Addr) (c2 : Nat) (l2 : List Int) (r : Bool) (w : World) (hr0 : Kd.C k70 w A0 l0.length l0) (hc0 : l0.length ≤ c0) (hr2 : Kd.C (Kd.int .i64) w A2 l2.length l2) (hc2 : l2.length ≤ c2) (h : sequiturlaw30_ShadowBetween.f k l0 a1 l2 = some r) :
  Calls Try.prog 7 #[.slice A0 l0.length c0, .int .i64 a1, .slice A2 l2.length c2] w fun e w' => e = .returned (.bool r) ∧ Below w.heap.size w w' := by
 have HR0 := zK hr0
 have HC0 := zK hc0; clear hr0 hc0
 have HR2 := zK hr2
 have HC2 := zK hc2; clear hr2 hc2
 have HB := zK (Below.refl w.heap.size w)
 have H : ((sequiturlaw30_alive.f k).bind fun t354 => (if t354 = true then ((sequiturref30_Long.f k l0 20).bind fun t355 => (if t355 = true then (sequiturlaw30_ShadowBetween.j0 k l0 a1 l2 true) else (sequiturlaw30_ShadowBetween.j0 k l0 a1 l2 (decide ((l2.length : Int) > 80))))) else (none))) = some r := h
 clear h; replace H := Option.bind_eq_some_iff.mp H
 obtain ⟨t354, A40, H⟩ := H
 replace H : (if t354 = true then ((sequiturref30_Long.f k l0 20).bind fun t355 => (if t355 = true then (sequiturlaw30_ShadowBetween.j0 k l0 a1 l2 true) else (sequiturlaw30_ShadowBetween.j0 k l0 a1 l2 (decide ((l2.length : Int) > 80))))) else (none)) = some r := H
 have A4 := zK A40; clear A40
 by_cases c5 : t354 = true
 ·subst c5
  have H1 : ((sequiturref30_Long.f k l0 20).bind fun t355 => (if t355 = true then (sequiturlaw30_ShadowBetween.j0 k l0 a1 l2 true) else (sequiturlaw30_ShadowBetween.j0 k l0 a1 l2 (decide ((l2.length : Int) > 80))))) = some r := by rw [if_pos rfl] at H; exact H
  clear H; have H := H1; clear H1
  have HC6 := zK H; clear H
  go_enter Try.func7, Try.ntmps7
  go_upto_region 3 with (first | ((with_reducible refine zC (f := 12) rfl ?_); refine goesL_ (some 17) rfl rfl Try.func12 (by kernel_rfl) rfl #[] rfl (by (try simp only [List.map_toArray, List.map_cons, List.map_nil]); first | done | rfl | (simp only [List.length_drop, List.length_take]; rfl)) ?_; (with_reducible refine (sequiturlaw30_alive.calls k  true _ A4.out).mono ?_); rintro e w7 ⟨rfl, hb⟩; refine ⟨_, rfl, ?_⟩; replace HB := zK (below_step (zo HB) hb); (try clear hb); (try clear hb2); (try clear hk); (try clear hi)))
  (try simp only [Act.put, List.setIfInBounds_toArray, List.set_cons_zero, List.set_cons_succ])
  go_cut [25] (fun v25 wc => ∃ (kq : Nat) (x25_5 : Bool), v25 = .bool x25_5 ∧ Aside0 (sequiturlaw30_ShadowBetween.j0 kq l0 a1 l2 x25_5 = some r) ∧ Aside0 (kq ≤ k) ∧ Aside0 (Below w.heap.size w wc))
  case first =>
   have H := HC6.out; clear HC6; replace H := Option.bind_eq_some_iff.mp H
   obtain ⟨t355, A80, H⟩ := H
   replace H : (if t355 = true then (sequiturlaw30_ShadowBetween.j0 k l0 a1 l2 true) else (sequiturlaw30_ShadowBetween.j0 k l0 a1 l2 (decide ((l2.length : Int) > 80)))) = some r := H
   have A8 := zK A80; clear A80
   by_cases c9 : t355 = true
   ·subst c9
    have H1 : (sequiturlaw30_ShadowBetween.j0 k l0 a1 l2 true) = some r := by rw [if_pos rfl] at H; exact H
    clear H; have H := H1; clear H1
    have H' := zK H; clear H
    go_wp2_with (first | ((with_reducible refine zC (f := 13) rfl ?_); refine goesL_ (some 20) rfl rfl Try.func13 (by kernel_rfl) rfl #[.slice A0 l0.length c0, .int .i64 20] rfl (by (try simp only [List.map_toArray, List.map_cons, List.map_nil]); first | done | rfl | (simp only [List.length_drop, List.length_take]; rfl)) ?_; (with_reducible refine (sequiturref30_Long.calls k _ _ l0 20 true _ ?side1 ?side2 A8.out).mono ?_); (case side1 => repeat (first | exact (Kd.C_below HR0.out HB.out) | (with_reducible refine cA ?_ _) | (with_reducible refine cN ?_ _) | (with_reducible refine cD ?_))); (case side2 => exact HC0.out); rintro e w' ⟨rfl, ⟨nd, rfl⟩⟩; refine ⟨_, rfl, ?_⟩))
    go_meet
    case rel => exact ⟨_, (true), (by first | rfl | (simp; done) | (simp [*]; done)), H', ⟨by first | omega | exact Nat.le_refl _⟩, ⟨zo HB⟩⟩
   ·replace c9 := Bool.eq_false_iff.mpr c9
    subst c9
    have H1 : (sequiturlaw30_ShadowBetween.j0 k l0 a1 l2 (decide ((l2.length : Int) > 80))) = some r := by rw [if_neg (show ¬ (false = true) by decide)] at H; exact H
    clear H; have H := H1; clear H1
    have H' := zK H; clear H
    go_wp2_with (first | ((with_reducible refine zC (f := 13) rfl ?_); refine goesL_ (some 20) rfl rfl Try.func13 (by kernel_rfl) rfl #[.slice A0 l0.length c0, .int .i64 20] rfl (by (try simp only [List.map_toArray, List.map_cons, List.map_nil]); first | done | rfl | (simp only [List.length_drop, List.length_take]; rfl)) ?_; (with_reducible refine (sequiturref30_Long.calls k _ _ l0 20 false _ ?side1 ?side2 A8.out).mono ?_); (case side1 => repeat (first | exact (Kd.C_below HR0.out HB.out) | (with_reducible refine cA ?_ _) | (with_reducible refine cN ?_ _) | (with_reducible refine cD ?_))); (case side2 => exact HC0.out); rintro e w' ⟨rfl, ⟨nd, rfl⟩⟩; refine ⟨_, rfl, ?_⟩))
    go_meet
    case rel => exact ⟨_, (decide ((l2.length : Int) > 80)), (by first | rfl | (simp; done) | (simp [*]; done)), H', ⟨by first | omega | exact Nat.le_refl _⟩, ⟨zo HB⟩⟩
  case rest =>
   clear HC6; try clear c1; try clear c2; try clear p2; try clear c5; try clear c7; try clear c9
   obtain ⟨kq, x25_5, rfl, HA, HJ5, HB⟩ := hcut
   cases kq with
   | zero => exact absurd HA.out (by simp [sequiturlaw30_ShadowBetween.j0])
   | succ kj5 =>
    have H := HA.out; clear HA
    simp only [sequiturlaw30_ShadowBetween.j0] at H
    by_cases c10 : x25_5 = true
    ·subst c10
     have H1 : (some true) = some r := by rw [if_pos rfl] at H; exact H
     clear H; have H := H1; clear H1
     obtain rfl := Option.some.inj H
     go_wp2
     go_ret
     exact ⟨by first | rfl | (simp [errW_none, errW_some] <;> rfl) | (simp [*, errW_none, errW_some] <;> rfl), zo HB⟩
    ·replace c10 := Bool.eq_false_iff.mpr c10
     subst c10
     have H1 : ((shadow_Between.f kj5 l0 a1 l2).bind fun bt356 => ((sequiturref30_Between.f kj5 l0 a1 l2).bind fun bt361 => (if bt356.1 = bt361.1 then (if bt356.2.1 = bt361.2.1 then (if (bt356.2.2.1 == bt361.2.2.1) = true then (if (bt356.2.2.2.1 == bt361.2.2.2.1) = true then (some (bt356.2.2.2.2 == bt361.2.2.2.2)) else (none)) else (none)) else (none)) else (none)))) = some r := by rw [if_neg (show ¬ (false = true) by decide)] at H; exact H
     clear H; have H := H1
     clear H1; replace H := Option.bind_eq_some_iff.mp H
     obtain ⟨⟨t356, t357, t358, t359, t360⟩, A110, H⟩ := H
     replace H : ((sequiturref30_Between.f kj5 l0 a1 l2).bind fun bt361 => (if t356 = bt361.1 then (if t357 = bt361.2.1 then (if (t358 == bt361.2.2.1) = true then (if (t359 == bt361.2.2.2.1) = true then (some (t360 == bt361.2.2.2.2)) else (none)) else (none)) else (none)) else (none))) = some r := H
     have A11 := zK A110; clear A110; replace H := Option.bind_eq_some_iff.mp H
     obtain ⟨⟨t361, t362, t363, t364, t365⟩, A120, H⟩ := H
     replace H : (if t356 = t361 then (if t357 = t362 then (if (t358 == t363) = true then (if (t359 == t364) = true then (some (t360 == t365)) else (none)) else (none)) else (none)) else (none)) = some r := H
     have A12 := zK A120; clear A120
     by_cases c13 : t356 = t361
     ·rw [if_pos c13] at H
      have c13b0 : (t356 == t361) = true := beq_iff_eq.mpr c13
      have c13b1 : (t356 != t361) = false := bne_eq_false_iff_eq.mpr c13
      clear c13
      by_cases c14 : t357 = t362
      ·rw [if_pos c14] at H
       have c14b0 : (t357 == t362) = true := beq_iff_eq.mpr c14
       have c14b1 : (t357 != t362) = false := bne_eq_false_iff_eq.mpr c14
       clear c14
       by_cases c15 : (t358 == t363) = true
       ·rw [if_pos c15] at H
        have c15b0 : (t358 == t363) = true := c15
        (try (have c15b1 : decide (t358 = t363) = true := by simpa using c15))
        (try (have c15b2 : (t358 == t363) = true := by simpa using c15))
        clear c15
        by_cases c16 : (t359 == t364) = true
        ·rw [if_pos c16] at H
         have c16b0 : (t359 == t364) = true := c16
         (try (have c16b1 : decide (t359 = t364) = true := by simpa using c16))
         (try (have c16b2 : (t359 == t364) = true := by simpa using c16))
         clear c16
         obtain rfl := Option.some.inj H
         go_wp2_with (first | ((with_reducible refine zC (f := 29) rfl ?_); refine goesL_ (some 30) rfl rfl Try.func29 (by kernel_rfl) rfl #[.slice A0 l0.length c0, .int .i64 a1, .slice A2 l2.length c2] rfl (by (try simp only [List.map_toArray, List.map_cons, List.map_nil]); first | done | rfl | (simp only [List.length_drop, List.length_take]; rfl)) ?_; (with_reducible refine (shadow_Between.calls kj5 _ _ l0 a1 _ _ l2 t356 t357 t358 t359 t360 _ ?side1 ?side2 ?side3 ?side4 A11.out).mono ?_); (case side1 => repeat (first | exact (Kd.C_below HR0.out HB.out) | (with_reducible refine cA ?_ _) | (with_reducible refine cN ?_ _) | (with_reducible refine cD ?_))); (case side2 => exact HC0.out); (case side3 => repeat (first | exact (Kd.C_below HR2.out HB.out) | (with_reducible refine cA ?_ _) | (with_reducible refine cN ?_ _) | (with_reducible refine cD ?_))); (case side4 => exact HC2.out); rintro e w17 ⟨rfl, hb⟩; refine ⟨_, rfl, ?_⟩; replace HB := zK (below_step (zo HB) hb); (try clear hb); (try clear hb2); (try clear hk); (try clear hi)) | ((with_reducible refine zC (f := 30) rfl ?_); refine goesL_ (some 40) rfl rfl Try.func30 (by kernel_rfl) rfl #[.slice A0 l0.length c0, .int .i64 a1, .slice A2 l2.length c2] rfl (by (try simp only [List.map_toArray, List.map_cons, List.map_nil]); first | done | rfl | (simp only [List.length_drop, List.length_take]; rfl)) ?_; (with_reducible refine (sequiturref30_Between.calls kj5 _ _ l0 a1 _ _ l2 t361 t362 t363 t364 t365 _ ?side1 ?side2 ?side3 ?side4 A12.out).mono ?_); (case side1 => repeat (first | exact (Kd.C_below HR0.out HB.out) | (with_reducible refine cA ?_ _) | (with_reducible refine cN ?_ _) | (with_reducible refine cD ?_))); (case side2 => exact HC0.out); (case side3 => repeat (first | exact (Kd.C_below HR2.out HB.out) | (with_reducible refine cA ?_ _) | (with_reducible refine cN ?_ _) | (with_reducible refine cD ?_))); (case side4 => exact HC2.out); rintro e w18 ⟨rfl, hb⟩; refine ⟨_, rfl, ?_⟩; replace HB := zK (below_step (zo HB) hb); (try clear hb); (try clear hb2); (try clear hk); (try clear hi)))
         go_ret
         exact ⟨by first | rfl | (simp [errW_none, errW_some] <;> rfl) | (simp [*, errW_none, errW_some] <;> rfl), zo HB⟩
        ·rw [if_neg c16] at H
         exact absurd H (by simp)
       ·rw [if_neg c15] at H
        exact absurd H (by simp)
      ·rw [if_neg c14] at H
       exact absurd H (by simp)
     ·rw [if_neg c13] at H
      exact absurd H (by simp)
 ·replace c5 := Bool.eq_false_iff.mpr c5
  subst c5
  have H1 : (none) = some r := by rw [if_neg (show ¬ (false = true) by decide)] at H; exact H
  clear H; have H := H1; clear H1
  exact absurd H (by simp)

end Go.Proofs.Ytkfbfgkdabljiaa.PShadowBetween
