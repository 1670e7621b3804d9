/- What the call of each function that the law reaches comes to: it answers as the plain function of the same name does, wherever that one answers; and the law itself out of its plain form. Written by a program of this session (an extended copy of the printer); no condition but what stands in each theorem. -/
import Derived.Test.YtkfbfgkdabljiaaPShadowSplitsx0
import Derived.Test.YtkfbfgkdabljiaaPShadowSplitsx1
import Derived.Test.YtkfbfgkdabljiaaPShadowSplitsx9
import Derived.Test.YtkfbfgkdabljiaaPShadowSplitsx10
import Derived.Test.YtkfbfgkdabljiaaPShadowSplitsx12
namespace Go.Proofs.Ytkfbfgkdabljiaa.PShadowSplits
open Go.RowKit Go.Proofs.YtkfbfgkdabljiaaW.PrintWords Go.Proofs.YtkfbfgkdabljiaaW.PrintLast Go.Proofs.YtkfbfgkdabljiaaW.PrintMore
open Go.Proofs.YtkfbfgkdabljiaaW.PrintWords renaming blk_drewN → zN, blk_drew → zD, blk_alloc → zA, below_alloc → yA, pw_below_drewN → yN, below_drew1 → yD, below_set → yS, gate_callee → zC, gate_guard → zG
open Go.Proofs.YtkfbfgkdabljiaaW.PrintWords.Kd renaming V_alloc → vA, V_drewN → vN, V_drew → vD, N_alloc → nA, N_drewN → nN, N_drew → nD, C_alloc → cA, C_drewN → cN, C_drew → cD, V_mono → vM, V_far → vF
open Go.Proofs.YtkfbfgkdabljiaaW.PrintWords.Aside0 renaming mk → zK
attribute [local go_sem] max2_int min2_int max_two min_two max_three min_three max_four min_four   -- for this text's walks alone
set_option linter.unusedVariables false
set_option linter.unusedSimpArgs false

attribute [local go_sem high] eqA68
/-! ### sequiturref30_Splits: function 32 -/
mutual
def sequiturref30_Splits.l0 : Nat → List (S70) → Int → Int → List (S62) → Bool → Int → Option ((List (S62)) × Int)
 | 0, _, _, _, _, _, _ => none
 | k + 1, x0, x1, x6, x7, x8, x9 => if x9 < (x0.length : Int) then (if 0 ≤ x9 then ((sequiturref27_By.f k ((rd_T70 x0 x9).f0.f0) ((rd_T70 x0 x9).f0.f1) x1).bind fun t372 => (if t372 ≥ (-1) then (sequiturref30_Splits.j1 k x0 x1 x6 x7 x8 x9 t372 true) else (sequiturref30_Splits.j1 k x0 x1 x6 x7 x8 x9 t372 (decide (x6 < 2))))) else (none)) else (if (x7.length : Int) > 1024 then (some (([] : List (S62)), 2)) else (if x8 = true then (some (x7, 0)) else (some (([] : List (S62)), 5))))
def sequiturref30_Splits.j1 : Nat → List (S70) → Int → Int → List (S62) → Bool → Int → Int → Bool → Option ((List (S62)) × Int)
 | 0, _, _, _, _, _, _, _, _ => none
 | k + 1, x0, x1, x6, x7, x8, x9, x10, x42 => if x42 = true then (sequiturref30_Splits.l0 k x0 x1 x6 x7 x8 (wrap64 (x9 + 1))) else ((sequiturref01_Div.f x10 x6).bind fun bt373 => (if x10 = (-9223372036854775808) then (sequiturref30_Splits.j2 k x0 x1 x6 x7 x8 x9 (wrap64 ((wrap64 ((wrap64 (-x10)) - 1)) + bt373.1)) true) else (if (wrap64 ((wrap64 ((wrap64 (-x10)) - 1)) + bt373.1)) > 1024 then (sequiturref30_Splits.j2 k x0 x1 x6 x7 x8 x9 (wrap64 ((wrap64 ((wrap64 (-x10)) - 1)) + bt373.1)) true) else (sequiturref30_Splits.j2 k x0 x1 x6 x7 x8 x9 (wrap64 ((wrap64 ((wrap64 (-x10)) - 1)) + bt373.1)) (decide ((x7.length : Int) > 1024))))))
def sequiturref30_Splits.j2 : Nat → List (S70) → Int → Int → List (S62) → Bool → Int → Int → Bool → Option ((List (S62)) × Int)
 | 0, _, _, _, _, _, _, _, _ => none
 | k + 1, x0, x1, x6, x7, x8, x9, x13, x64 => if x64 = true then (some (([] : List (S62)), 2)) else (sequiturref30_Splits.l1 k x0 x1 x6 x7 x8 x9 x13 0)
def sequiturref30_Splits.l1 : Nat → List (S70) → Int → Int → List (S62) → Bool → Int → Int → Int → Option ((List (S62)) × Int)
 | 0, _, _, _, _, _, _, _, _ => none
 | k + 1, x0, x1, x6, x7, x8, x9, x13, x14 => if x14 ≤ x13 then (if 0 ≤ x9 then (if x9 < (x0.length : Int) then ((sequiturref27_Sum.f k (([(⟨(rd_T70 x0 x9).f0.f0, (rd_T70 x0 x9).f0.f1⟩ : S62), (⟨x14, ([] : List (S68))⟩ : S62)] : List (S62))) (([(-1), (-1)] : List Int))).bind fun bt382 => (if x8 = true then (if x7.length < 4398046511104 then (sequiturref30_Splits.l1 k x0 x1 x6 (x7 ++ [(⟨bt382.1, bt382.2.1⟩ : S62)]) (bt382.2.2 == 0) x9 x13 (wrap64 (x14 + 1))) else (none)) else (if x7.length < 4398046511104 then (sequiturref30_Splits.l1 k x0 x1 x6 (x7 ++ [(⟨bt382.1, bt382.2.1⟩ : S62)]) false x9 x13 (wrap64 (x14 + 1))) else (none)))) else (none)) else (none)) else (sequiturref30_Splits.l0 k x0 x1 x6 x7 x8 (wrap64 (x9 + 1)))
end
def sequiturref30_Splits.f (k : Nat) (l0 : List (S70)) (a1 : Int) : Option ((List (S62)) × Int) := (sequiturref30_Right.f k l0 a1).bind fun t369 => (if t369 = true then ((sequiturref30_top.f k l0 a1).bind fun t370 => (sequiturref30_Splits.l0 k l0 a1 t370 ([] : List (S62)) true 0)) else (some (([] : List (S62)), 1)))
theorem sequiturref30_Splits.mono_l : ∀ k, (∀ y0 y1 y2 y3 y4 y5, LeO (sequiturref30_Splits.l0 k y0 y1 y2 y3 y4 y5) (sequiturref30_Splits.l0 (k + 1) y0 y1 y2 y3 y4 y5)) ∧ (∀ y0 y1 y2 y3 y4 y5 y6 y7, LeO (sequiturref30_Splits.j1 k y0 y1 y2 y3 y4 y5 y6 y7) (sequiturref30_Splits.j1 (k + 1) y0 y1 y2 y3 y4 y5 y6 y7)) ∧ (∀ y0 y1 y2 y3 y4 y5 y6 y7, LeO (sequiturref30_Splits.j2 k y0 y1 y2 y3 y4 y5 y6 y7) (sequiturref30_Splits.j2 (k + 1) y0 y1 y2 y3 y4 y5 y6 y7)) ∧ (∀ y0 y1 y2 y3 y4 y5 y6 y7, LeO (sequiturref30_Splits.l1 k y0 y1 y2 y3 y4 y5 y6 y7) (sequiturref30_Splits.l1 (k + 1) y0 y1 y2 y3 y4 y5 y6 y7))
 | 0 => ⟨fun _ _ _ _ _ _ r h => by simp [sequiturref30_Splits.l0] at h, fun _ _ _ _ _ _ _ _ r h => by simp [sequiturref30_Splits.j1] at h, fun _ _ _ _ _ _ _ _ r h => by simp [sequiturref30_Splits.j2] at h, fun _ _ _ _ _ _ _ _ r h => by simp [sequiturref30_Splits.l1] at h⟩
 | k + 1 => by
  obtain ⟨ih0, ih1, ih2, ih3⟩ := sequiturref30_Splits.mono_l k
  refine ⟨?_, ?_, ?_, ?_⟩
  ·intro y0 y1 y2 y3 y4 y5
   unfold sequiturref30_Splits.l0
   repeat' first
   | (with_reducible exact ih0 _ _ _ _ _ _)
   | (with_reducible exact ih1 _ _ _ _ _ _ _ _)
   | (with_reducible exact ih2 _ _ _ _ _ _ _ _)
   | (with_reducible exact ih3 _ _ _ _ _ _ _ _)
   | (with_reducible exact sequiturref27_By.mono _ _ _ _)
   | (with_reducible exact sequiturref27_Sum.mono _ _ _)
   | (with_reducible exact sequiturref30_Right.mono _ _ _)
   | (with_reducible exact sequiturref30_top.mono _ _ _)
   | (with_reducible exact LeO.refl _)
   | (with_reducible exact LeO.none _)
   | (with_reducible refine LeO.ite ?_ ?_)
   | (with_reducible refine LeO.bind ?_ (fun _ => ?_))
   | exact ih0 _ _ _ _ _ _
   | exact ih1 _ _ _ _ _ _ _ _
   | exact ih2 _ _ _ _ _ _ _ _
   | exact ih3 _ _ _ _ _ _ _ _
   | exact sequiturref27_By.mono _ _ _ _
   | exact sequiturref27_Sum.mono _ _ _
   | exact sequiturref30_Right.mono _ _ _
   | exact sequiturref30_top.mono _ _ _
   | exact LeO.none _
   | refine LeO.ite ?_ ?_
   | refine LeO.bind ?_ (fun _ => ?_)
  ·intro y0 y1 y2 y3 y4 y5 y6 y7
   unfold sequiturref30_Splits.j1
   repeat' first
   | (with_reducible exact ih0 _ _ _ _ _ _)
   | (with_reducible exact ih1 _ _ _ _ _ _ _ _)
   | (with_reducible exact ih2 _ _ _ _ _ _ _ _)
   | (with_reducible exact ih3 _ _ _ _ _ _ _ _)
   | (with_reducible exact sequiturref27_By.mono _ _ _ _)
   | (with_reducible exact sequiturref27_Sum.mono _ _ _)
   | (with_reducible exact sequiturref30_Right.mono _ _ _)
   | (with_reducible exact sequiturref30_top.mono _ _ _)
   | (with_reducible exact LeO.refl _)
   | (with_reducible exact LeO.none _)
   | (with_reducible refine LeO.ite ?_ ?_)
   | (with_reducible refine LeO.bind ?_ (fun _ => ?_))
   | exact ih0 _ _ _ _ _ _
   | exact ih1 _ _ _ _ _ _ _ _
   | exact ih2 _ _ _ _ _ _ _ _
   | exact ih3 _ _ _ _ _ _ _ _
   | exact sequiturref27_By.mono _ _ _ _
   | exact sequiturref27_Sum.mono _ _ _
   | exact sequiturref30_Right.mono _ _ _
   | exact sequiturref30_top.mono _ _ _
   | exact LeO.none _
   | refine LeO.ite ?_ ?_
   | refine LeO.bind ?_ (fun _ => ?_)
  ·intro y0 y1 y2 y3 y4 y5 y6 y7
   unfold sequiturref30_Splits.j2
   repeat' first
   | (with_reducible exact ih0 _ _ _ _ _ _)
   | (with_reducible exact ih1 _ _ _ _ _ _ _ _)
   | (with_reducible exact ih2 _ _ _ _ _ _ _ _)
   | (with_reducible exact ih3 _ _ _ _ _ _ _ _)
   | (with_reducible exact sequiturref27_By.mono _ _ _ _)
   | (with_reducible exact sequiturref27_Sum.mono _ _ _)
   | (with_reducible exact sequiturref30_Right.mono _ _ _)
   | (with_reducible exact sequiturref30_top.mono _ _ _)
   | (with_reducible exact LeO.refl _)
   | (with_reducible exact LeO.none _)
   | (with_reducible refine LeO.ite ?_ ?_)
   | (with_reducible refine LeO.bind ?_ (fun _ => ?_))
   | exact ih0 _ _ _ _ _ _
   | exact ih1 _ _ _ _ _ _ _ _
   | exact ih2 _ _ _ _ _ _ _ _
   | exact ih3 _ _ _ _ _ _ _ _
   | exact sequiturref27_By.mono _ _ _ _
   | exact sequiturref27_Sum.mono _ _ _
   | exact sequiturref30_Right.mono _ _ _
   | exact sequiturref30_top.mono _ _ _
   | exact LeO.none _
   | refine LeO.ite ?_ ?_
   | refine LeO.bind ?_ (fun _ => ?_)
  ·intro y0 y1 y2 y3 y4 y5 y6 y7
   unfold sequiturref30_Splits.l1
   repeat' first
   | (with_reducible exact ih0 _ _ _ _ _ _)
   | (with_reducible exact ih1 _ _ _ _ _ _ _ _)
   | (with_reducible exact ih2 _ _ _ _ _ _ _ _)
   | (with_reducible exact ih3 _ _ _ _ _ _ _ _)
   | (with_reducible exact sequiturref27_By.mono _ _ _ _)
   | (with_reducible exact sequiturref27_Sum.mono _ _ _)
   | (with_reducible exact sequiturref30_Right.mono _ _ _)
   | (with_reducible exact sequiturref30_top.mono _ _ _)
   | (with_reducible exact LeO.refl _)
   | (with_reducible exact LeO.none _)
   | (with_reducible refine LeO.ite ?_ ?_)
   | (with_reducible refine LeO.bind ?_ (fun _ => ?_))
   | exact ih0 _ _ _ _ _ _
   | exact ih1 _ _ _ _ _ _ _ _
   | exact ih2 _ _ _ _ _ _ _ _
   | exact ih3 _ _ _ _ _ _ _ _
   | exact sequiturref27_By.mono _ _ _ _
   | exact sequiturref27_Sum.mono _ _ _
   | exact sequiturref30_Right.mono _ _ _
   | exact sequiturref30_top.mono _ _ _
   | exact LeO.none _
   | refine LeO.ite ?_ ?_
   | refine LeO.bind ?_ (fun _ => ?_)
theorem sequiturref30_Splits.mono : ∀ a0 a1 k, LeO (sequiturref30_Splits.f k a0 a1) (sequiturref30_Splits.f (k + 1) a0 a1) := by
 intro a0 a1 k
 obtain ⟨ih0, ih1, ih2, ih3⟩ := sequiturref30_Splits.mono_l k
 unfold sequiturref30_Splits.f
 repeat' first
   | (with_reducible exact ih0 _ _ _ _ _ _)
   | (with_reducible exact ih1 _ _ _ _ _ _ _ _)
   | (with_reducible exact ih2 _ _ _ _ _ _ _ _)
   | (with_reducible exact ih3 _ _ _ _ _ _ _ _)
   | (with_reducible exact sequiturref27_By.mono _ _ _ _)
   | (with_reducible exact sequiturref27_Sum.mono _ _ _)
   | (with_reducible exact sequiturref30_Right.mono _ _ _)
   | (with_reducible exact sequiturref30_top.mono _ _ _)
   | (with_reducible exact LeO.refl _)
   | (with_reducible exact LeO.none _)
   | (with_reducible refine LeO.ite ?_ ?_)
   | (with_reducible refine LeO.bind ?_ (fun _ => ?_))
   | exact ih0 _ _ _ _ _ _
   | exact ih1 _ _ _ _ _ _ _ _
   | exact ih2 _ _ _ _ _ _ _ _
   | exact ih3 _ _ _ _ _ _ _ _
   | exact sequiturref27_By.mono _ _ _ _
   | exact sequiturref27_Sum.mono _ _ _
   | exact sequiturref30_Right.mono _ _ _
   | exact sequiturref30_top.mono _ _ _
   | exact LeO.none _
   | refine LeO.ite ?_ ?_
   | refine LeO.bind ?_ (fun _ => ?_)
set_option maxHeartbeats 8000000 in
set_option maxRecDepth 100000 in
theorem sequiturref30_Splits.calls (k : Nat) (P0_ : Nat → Prop) (A0 : Option Addr) (c0 : Nat) (l0 : List (S70)) (a1 : Int) (r1 : List (S62)) (r2 : Int) (w : World) (hs0 : Kd.V k70 70 w w.heap.size (fun k_ => P0_ k_) (.slice A0 l0.length c0) l0) (h : sequiturref30_Splits.f k l0 a1 = some (r1, r2)) :
  Calls Try.prog 32 #[.slice A0 l0.length c0, .int .i64 a1] w fun e w' => ∃ v0_ : Value, e = .returned (.tuple #[v0_, .int .i64 r2]) ∧ Kd.N k62 62 w' w.heap.size (fun k_ => (P0_ k_ ∨ w.heap.size ≤ k_)) v0_ r1 ∧ Below w.heap.size w w' := by
 have hu62 := Try.underlying62
 have HO0 := zK (show Kd.V k70 70 w w.heap.size (fun k_ => (P0_ k_ ∨ w.heap.size ≤ k_)) (.slice A0 l0.length c0) l0 from vM hs0 (fun k_ hk => .inl hk))
 have HB := zK (Below.refl w.heap.size w)
 have H : ((sequiturref30_Right.f k l0 a1).bind fun t369 => (if t369 = true then ((sequiturref30_top.f k l0 a1).bind fun t370 => (sequiturref30_Splits.l0 k l0 a1 t370 ([] : List (S62)) true 0)) else (some (([] : List (S62)), 1)))) = some (r1, r2) := h
 clear h; replace H := Option.bind_eq_some_iff.mp H
 obtain ⟨t369, A30, H⟩ := H
 replace H : (if t369 = true then ((sequiturref30_top.f k l0 a1).bind fun t370 => (sequiturref30_Splits.l0 k l0 a1 t370 ([] : List (S62)) true 0)) else (some (([] : List (S62)), 1))) = some (r1, r2) := H
 have A3 := zK A30; clear A30
 by_cases c4 : t369 = true
 ·subst c4
  have H1 : ((sequiturref30_top.f k l0 a1).bind fun t370 => (sequiturref30_Splits.l0 k l0 a1 t370 ([] : List (S62)) true 0)) = some (r1, r2) := by rw [if_pos rfl] at H; exact H
  clear H; have H := H1
  clear H1; replace H := Option.bind_eq_some_iff.mp H
  obtain ⟨t370, A50, H⟩ := H
  replace H : (sequiturref30_Splits.l0 k l0 a1 t370 ([] : List (S62)) true 0) = some (r1, r2) := H
  have A5 := zK A50; clear A50
  have H' := zK H; clear H
  go_enter Try.func32, Try.ntmps32
  go_wp2_with (first | ((with_reducible refine zC (f := 40) rfl ?_); refine goesL_ (some 19) rfl rfl Try.func40 (by kernel_rfl) rfl #[.slice A0 l0.length c0, .int .i64 a1] rfl (by (try simp only [List.map_toArray, List.map_cons, List.map_nil]); first | done | rfl | (simp only [List.length_drop, List.length_take]; rfl)) ?_; (with_reducible refine (sequiturref30_Right.calls k _ _ l0 a1 true _ ?side1 ?side2 A3.out).mono ?_); (case side1 => repeat (first | exact (Kd.V_reads' HO0.out).2.2 | (with_reducible refine cA ?_ _) | (with_reducible refine cN ?_ _) | (with_reducible refine cD ?_))); (case side2 => exact (Kd.V_reads' HO0.out).2.1); rintro e w6 ⟨rfl, hb⟩; refine ⟨_, rfl, ?_⟩; replace HO0 := zK (Kd.V_below (zv HO0) hb); replace HB := zK (below_step (zo HB) hb); (try clear hb); (try clear hb2); (try clear hk); (try clear hi)) | ((with_reducible refine zC (f := 66) rfl ?_); refine goesL_ (some 23) rfl rfl Try.func66 (by kernel_rfl) rfl #[.slice A0 l0.length c0, .int .i64 a1] rfl (by (try simp only [List.map_toArray, List.map_cons, List.map_nil]); first | done | rfl | (simp only [List.length_drop, List.length_take]; rfl)) ?_; (with_reducible refine (sequiturref30_top.calls k _ _ l0 a1 t370 _ ?side1 ?side2 A5.out).mono ?_); (case side1 => repeat (first | exact (Kd.V_reads' HO0.out).2.2 | (with_reducible refine cA ?_ _) | (with_reducible refine cN ?_ _) | (with_reducible refine cD ?_))); (case side2 => exact (Kd.V_reads' HO0.out).2.1); rintro e w7 ⟨rfl, hb⟩; refine ⟨_, rfl, ?_⟩; replace HO0 := zK (Kd.V_below (zv HO0) hb); replace HB := zK (below_step (zo HB) hb); (try clear hb); (try clear hb2); (try clear hk); (try clear hi)))
  go_loopg [7, 8, 9] k (fun kq v7 v8 v9 w' => ∃ (x7_1 : List (S62)) (x8_1 : Bool) (x9_1 : Int), v8 = .bool x8_1 ∧ v9 = .int .i64 x9_1 ∧ Aside0 (sequiturref30_Splits.l0 kq l0 a1 t370 x7_1 x8_1 x9_1 = some (r1, r2)) ∧ Aside0 (kq ≤ k) ∧ Aside0 (Kd.V k70 70 w' w.heap.size (fun k_ => (P0_ k_ ∨ w.heap.size ≤ k_) ∧ some k_ ≠ (v7 : Value).ownBlock) (.slice A0 l0.length c0) l0) ∧ Aside0 (Kd.N k62 62 w' w.heap.size (fun k_ => (P0_ k_ ∨ w.heap.size ≤ k_)) v7 x7_1) ∧ Aside0 (Below w.heap.size w w'))
  case atStart => exact ⟨(([] : List (S62))), (true), (0), (by first | rfl | (simp; done) | (simp [*]; done)), (by first | rfl | (simp; done) | (simp [*]; done)), H', ⟨Nat.le_refl _⟩, ⟨by (with_reducible repeat (first | apply vA | apply vN | apply vD)); exact vM HO0.out (fun _ hk => ⟨hk, (by simp [Value.ownBlock])⟩)⟩, ⟨by first | exact Kd.S_nil _ _ _ _ _ | exact Kd.N_nil _ _ _ _ _ | exact Kd.V_nil _ _ _ _ _ | exact Kd.Q_nil _ _ _ _ _ | exact Kd.R_nil _ _ _ _ _⟩, ⟨zo HB⟩⟩
  case round =>
   clear H'; try clear p2; try clear c3; try clear c4; try clear c6
   obtain ⟨x7_1, x8_1, x9_1, rfl, rfl, HA, HK1, HO_0, HO_7, HB⟩ := hrel
   cases gk with
   | zero => exact absurd HA.out (by simp [sequiturref30_Splits.l0])
   | succ k1 =>
    have H := HA.out; clear HA
    simp only [sequiturref30_Splits.l0] at H
    by_cases c8 : x9_1 < (l0.length : Int)
    ·rw [if_pos c8] at H
     have c8b0 : decide (x9_1 < (l0.length : Int)) = true := decide_eq_true c8
     clear c8
     by_cases c9 : 0 ≤ x9_1
     ·rw [if_pos c9] at H
      have c9b0 : decide (0 ≤ x9_1) = true := decide_eq_true c9; clear c9
      replace H := Option.bind_eq_some_iff.mp H
      obtain ⟨t372, A100, H⟩ := H
      replace H : (if t372 ≥ (-1) then (sequiturref30_Splits.j1 k1 l0 a1 t370 x7_1 x8_1 x9_1 t372 true) else (sequiturref30_Splits.j1 k1 l0 a1 t370 x7_1 x8_1 x9_1 t372 (decide (t370 < 2)))) = some (r1, r2) := H
      have A10 := zK A100; clear A100
      have HC11 := zK H; clear H
      have p371 : 0 ≤ (x9_1 : Int) := of_decide_eq_true (by first | (with_reducible assumption) | assumption)
      have q371 : x9_1 < (l0.length : Int) := of_decide_eq_true (by first | (with_reducible assumption) | assumption)
      obtain ⟨ad371, A371_1, c371_1, e371, hx371_0, hx371_1, hx371_2, hl371_1, hi371_1⟩ := at_T70 (Kd.V_reads' HO_0.out).2.2 x9_1 p371 q371
      cases e371
      obtain ⟨ce371, hce371, hMe371, hcc371⟩ := Kd.V_get HO_0.out z70 x9_1 p371 (by first | exact q371 | exact of_decide_eq_true (by first | (with_reducible assumption) | assumption) | (have e_ := (Kd.V_reads' HO_0.out).1; omega))
      obtain ⟨ua371_1, uc371_1, rfl, ul371_1, ge371_1⟩ := k70_openF hMe371
      have hv371_1 := hcc371 1 _ rfl
      rw [add_field _ _ 1 (by omega)] at hv371_1
      replace hv371_1 := Option.some.inj (hv371_1.symm.trans hx371_1)
      injection hv371_1 with hva_ hvn_ hvc_
      rw [hva_] at ge371_1
      rw [hvc_] at ul371_1
      have HL371_1 := zK (show Kd.V k68 68 _ w.heap.size _ _ ((rd_T70 l0 x9_1).f0.f1) from Kd.V_mk ul371_1 ge371_1)
      clear hva_ hvn_ hvc_ ge371_1 ul371_1 hcc371 hce371
      have HR371_1 := zK hi371_1
      have HC371_1 := zK hl371_1; clear hi371_1 hl371_1
      replace p371 := eq_true p371
      replace q371 := eq_true q371
      go_upto_region 10 with (first | ((with_reducible refine zC (f := 42) rfl ?_); refine goesL_ (some 36) rfl rfl Try.func42 (by kernel_rfl) rfl #[.agg #[.int .i64 ((rd_T70 l0 x9_1).f0.f0), .slice A371_1 ((rd_T70 l0 x9_1).f0.f1).length c371_1], .int .i64 a1] rfl (by (try simp only [List.map_toArray, List.map_cons, List.map_nil]); first | done | rfl | (simp only [List.length_drop, List.length_take]; rfl)) ?_; (with_reducible refine (sequiturref27_By.calls k1 ((rd_T70 l0 x9_1).f0.f0) _ _ ((rd_T70 l0 x9_1).f0.f1) a1 t372 _ ?side1 ?side2 A10.out).mono ?_); (case side1 => repeat (first | exact (by repeat (first | (with_reducible exact HR371_1.out) | (with_reducible refine cA ?_ _) | (with_reducible refine cN ?_ _) | (with_reducible refine cD ?_) | exact HR371_1.out)) | (with_reducible refine cA ?_ _) | (with_reducible refine cN ?_ _) | (with_reducible refine cD ?_))); (case side2 => exact HC371_1.out); rintro e w12 ⟨rfl, hb⟩; refine ⟨_, rfl, ?_⟩; replace HO_0 := zK (Kd.V_below (zv HO_0) hb); replace HO_7 := zK (Kd.N_below (zn HO_7) hb); replace HL371_1 := zK (Kd.V_below (zv HL371_1) hb); replace HR371_1 := zK (Kd.C_below (by repeat (first | (with_reducible exact HR371_1.out) | (with_reducible refine cA ?_ _) | (with_reducible refine cN ?_ _) | (with_reducible refine cD ?_) | exact HR371_1.out)) hb); replace HB := zK (below_step (zo HB) hb); (try clear hb); (try clear hb2); (try clear hk); (try clear hi)))
      (try simp only [Act.put, List.setIfInBounds_toArray, List.set_cons_zero, List.set_cons_succ])
      go_cut [42] (fun v42 wc => ∃ (kq : Nat) (x42_10 : Bool), v42 = .bool x42_10 ∧ Aside0 (sequiturref30_Splits.j1 kq l0 a1 t370 x7_1 x8_1 x9_1 t372 x42_10 = some (r1, r2)) ∧ Aside0 (kq ≤ k1) ∧ Aside0 (Kd.V k70 70 wc w.heap.size (fun k_ => (P0_ k_ ∨ w.heap.size ≤ k_) ∧ some k_ ≠ (u7 : Value).ownBlock) (.slice (some ad371) l0.length c0) l0) ∧ Aside0 (Kd.N k62 62 wc w.heap.size (fun k_ => (P0_ k_ ∨ w.heap.size ≤ k_)) u7 x7_1) ∧ Aside0 (Kd.C k68 wc A371_1 ((rd_T70 l0 x9_1).f0.f1).length ((rd_T70 l0 x9_1).f0.f1)) ∧ Aside0 (Below w.heap.size w wc))
      case first =>
       have H := HC11.out; clear HC11
       by_cases c13 : t372 ≥ (-1)
       ·rw [if_pos c13] at H
        have c13b0 : decide ((-1) ≤ t372) = true := decide_eq_true c13; clear c13
        (first | rw [c13b0] | (simp only [i64_w, i32_w]; rw [c13b0]) | skip)
        have H' := zK H; clear H
        go_wp2
        go_meet
        case rel => exact ⟨_, (true), (by first | rfl | (simp; done) | (simp [*]; done)), H', ⟨by have := HK1.out; first | omega | exact Nat.le_refl _⟩, ⟨zv HO_0⟩, ⟨zn HO_7⟩, ⟨by repeat (first | (with_reducible exact HR371_1.out) | (with_reducible refine cA ?_ _) | (with_reducible refine cN ?_ _) | (with_reducible refine cD ?_) | exact HR371_1.out)⟩, ⟨zo HB⟩⟩
       ·rw [if_neg c13] at H
        have c13b0 : decide ((-1) ≤ t372) = false := decide_eq_false c13; clear c13
        (first | rw [c13b0] | (simp only [i64_w, i32_w]; rw [c13b0]) | skip)
        have H' := zK H; clear H
        go_wp2
        go_meet
        case rel => exact ⟨_, (decide (t370 < 2)), (by first | rfl | (simp; done) | (simp [*]; done)), H', ⟨by have := HK1.out; first | omega | exact Nat.le_refl _⟩, ⟨zv HO_0⟩, ⟨zn HO_7⟩, ⟨by repeat (first | (with_reducible exact HR371_1.out) | (with_reducible refine cA ?_ _) | (with_reducible refine cN ?_ _) | (with_reducible refine cD ?_) | exact HR371_1.out)⟩, ⟨zo HB⟩⟩
      case rest =>
       clear HC11; try clear c1; try clear p2; try clear c3
       try clear p3; try clear q3; try clear hx3; try clear c4
       try clear c6; try clear c8; try clear c8b0; try clear c9
       try clear c9b0; try clear c13; try clear c13b0; try clear hx371_0
       try clear hx371_1; try clear hx371_2; try clear p2; try clear p371; try clear q371
       obtain ⟨kq, x42_10, rfl, HA, HJ10, HO_0, HO_7, HR371_1, HB⟩ := hcut
       cases kq with
       | zero => exact absurd HA.out (by simp [sequiturref30_Splits.j1])
       | succ kj10 =>
        have H := HA.out; clear HA
        simp only [sequiturref30_Splits.j1] at H
        by_cases c14 : x42_10 = true
        ·subst c14
         have H1 : (sequiturref30_Splits.l0 kj10 l0 a1 t370 x7_1 x8_1 (wrap64 (x9_1 + 1))) = some (r1, r2) := by rw [if_pos rfl] at H; exact H
         clear H; have H := H1; clear H1
         have H' := zK H; clear H
         go_wp2
         go_roundg kj10
         case measure => have := HK1.out; have := HJ10.out; omega
         case rel => exact ⟨(x7_1), (x8_1), (wrap64 (x9_1 + 1)), (by first | rfl | (simp; done) | (simp [*]; done)), (by first | rfl | (simp; done) | (simp [*]; done)), H', ⟨by have := HK1.out; have := HJ10.out; omega⟩, ⟨zv HO_0⟩, ⟨zn HO_7⟩, ⟨zo HB⟩⟩
        ·replace c14 := Bool.eq_false_iff.mpr c14
         subst c14
         have H1 : ((sequiturref01_Div.f t372 t370).bind fun bt373 => (if t372 = (-9223372036854775808) then (sequiturref30_Splits.j2 kj10 l0 a1 t370 x7_1 x8_1 x9_1 (wrap64 ((wrap64 ((wrap64 (-t372)) - 1)) + bt373.1)) true) else (if (wrap64 ((wrap64 ((wrap64 (-t372)) - 1)) + bt373.1)) > 1024 then (sequiturref30_Splits.j2 kj10 l0 a1 t370 x7_1 x8_1 x9_1 (wrap64 ((wrap64 ((wrap64 (-t372)) - 1)) + bt373.1)) true) else (sequiturref30_Splits.j2 kj10 l0 a1 t370 x7_1 x8_1 x9_1 (wrap64 ((wrap64 ((wrap64 (-t372)) - 1)) + bt373.1)) (decide ((x7_1.length : Int) > 1024)))))) = some (r1, r2) := by rw [if_neg (show ¬ (false = true) by decide)] at H; exact H
         clear H; have H := H1
         clear H1; replace H := Option.bind_eq_some_iff.mp H
         obtain ⟨⟨t373, t374⟩, A150, H⟩ := H
         replace H : (if t372 = (-9223372036854775808) then (sequiturref30_Splits.j2 kj10 l0 a1 t370 x7_1 x8_1 x9_1 (wrap64 ((wrap64 ((wrap64 (-t372)) - 1)) + t373)) true) else (if (wrap64 ((wrap64 ((wrap64 (-t372)) - 1)) + t373)) > 1024 then (sequiturref30_Splits.j2 kj10 l0 a1 t370 x7_1 x8_1 x9_1 (wrap64 ((wrap64 ((wrap64 (-t372)) - 1)) + t373)) true) else (sequiturref30_Splits.j2 kj10 l0 a1 t370 x7_1 x8_1 x9_1 (wrap64 ((wrap64 ((wrap64 (-t372)) - 1)) + t373)) (decide ((x7_1.length : Int) > 1024))))) = some (r1, r2) := H
         have A15 := zK A150; clear A150
         have HC16 := zK H; clear H
         go_upto_region 13 with (first | ((with_reducible refine zC (f := 67) rfl ?_); refine goesL_ (some 46) rfl rfl Try.func67 (by kernel_rfl) rfl #[.int .i64 t372, .int .i64 t370] rfl (by (try simp only [List.map_toArray, List.map_cons, List.map_nil]); first | done | rfl | (simp only [List.length_drop, List.length_take]; rfl)) ?_; (with_reducible refine (sequiturref01_Div.calls t372 t370 t373 t374 _ A15.out).mono ?_); rintro e w17 ⟨rfl, hb⟩; refine ⟨_, rfl, ?_⟩; replace HO_0 := zK (Kd.V_below (zv HO_0) hb); replace HO_7 := zK (Kd.N_below (zn HO_7) hb); replace HR371_1 := zK (Kd.C_below (by repeat (first | (with_reducible exact HR371_1.out) | (with_reducible refine cA ?_ _) | (with_reducible refine cN ?_ _) | (with_reducible refine cD ?_) | exact HR371_1.out)) hb); replace HB := zK (below_step (zo HB) hb); (try clear hb); (try clear hb2); (try clear hk); (try clear hi)))
         (try simp only [Act.put, List.setIfInBounds_toArray, List.set_cons_zero, List.set_cons_succ])
         go_cut [64] (fun v64 wc => ∃ (kq : Nat) (x64_15 : Bool), v64 = .bool x64_15 ∧ Aside0 (sequiturref30_Splits.j2 kq l0 a1 t370 x7_1 x8_1 x9_1 (wrap64 ((wrap64 ((wrap64 (-t372)) - 1)) + t373)) x64_15 = some (r1, r2)) ∧ Aside0 (kq ≤ kj10) ∧ Aside0 (Kd.V k70 70 wc w.heap.size (fun k_ => (P0_ k_ ∨ w.heap.size ≤ k_) ∧ some k_ ≠ (u7 : Value).ownBlock) (.slice (some ad371) l0.length c0) l0) ∧ Aside0 (Kd.N k62 62 wc w.heap.size (fun k_ => (P0_ k_ ∨ w.heap.size ≤ k_)) u7 x7_1) ∧ Aside0 (Kd.C k68 wc A371_1 ((rd_T70 l0 x9_1).f0.f1).length ((rd_T70 l0 x9_1).f0.f1)) ∧ Aside0 (Below w.heap.size w wc))
         case first =>
          have H := HC16.out; clear HC16
          by_cases c18 : t372 = (-9223372036854775808)
          ·rw [if_pos c18] at H
           have c18b0 : (t372 == (-9223372036854775808)) = true := beq_iff_eq.mpr c18
           have c18b1 : (t372 != (-9223372036854775808)) = false := bne_eq_false_iff_eq.mpr c18
           clear c18
           (first | rw [c18b0] | (simp only [i64_w, i32_w]; rw [c18b0]) | skip)
           have H' := zK H; clear H
           go_wp2
           go_meet
           case rel => exact ⟨_, (true), (by first | rfl | (simp; done) | (simp [*]; done)), H', ⟨by have := HK1.out; have := HJ10.out; first | omega | exact Nat.le_refl _⟩, ⟨zv HO_0⟩, ⟨zn HO_7⟩, ⟨by repeat (first | (with_reducible exact HR371_1.out) | (with_reducible refine cA ?_ _) | (with_reducible refine cN ?_ _) | (with_reducible refine cD ?_) | exact HR371_1.out)⟩, ⟨zo HB⟩⟩
          ·rw [if_neg c18] at H
           have c18b0 : (t372 == (-9223372036854775808)) = false := beq_eq_false_iff_ne.mpr c18
           have c18b1 : (t372 != (-9223372036854775808)) = true := bne_iff_ne.mpr c18
           (first | rw [c18b0] | (simp only [i64_w, i32_w]; rw [c18b0]) | skip)
           by_cases c19 : (wrap64 ((wrap64 ((wrap64 (-t372)) - 1)) + t373)) > 1024
           ·rw [if_pos c19] at H
            have c19b0 : decide (1024 < (wrap64 ((wrap64 ((wrap64 (-t372)) - 1)) + t373))) = true := decide_eq_true c19
            clear c19
            have H' := zK H; clear H
            go_wp2
            go_meet
            case rel => exact ⟨_, (true), (by first | rfl | (simp; done) | (simp [*]; done)), H', ⟨by have := HK1.out; have := HJ10.out; first | omega | exact Nat.le_refl _⟩, ⟨zv HO_0⟩, ⟨zn HO_7⟩, ⟨by repeat (first | (with_reducible exact HR371_1.out) | (with_reducible refine cA ?_ _) | (with_reducible refine cN ?_ _) | (with_reducible refine cD ?_) | exact HR371_1.out)⟩, ⟨zo HB⟩⟩
           ·rw [if_neg c19] at H
            have c19b0 : decide (1024 < (wrap64 ((wrap64 ((wrap64 (-t372)) - 1)) + t373))) = false := decide_eq_false c19
            clear c19
            have H' := zK H; clear H
            obtain ⟨Ao20, co20, eo20⟩ := Kd.N_slice HO_7.out
            subst eo20
            go_wp2
            go_meet
            case rel => exact ⟨_, (decide ((x7_1.length : Int) > 1024)), (by first | rfl | (simp; done) | (simp [*]; done)), H', ⟨by have := HK1.out; have := HJ10.out; first | omega | exact Nat.le_refl _⟩, ⟨zv HO_0⟩, ⟨zn HO_7⟩, ⟨by repeat (first | (with_reducible exact HR371_1.out) | (with_reducible refine cA ?_ _) | (with_reducible refine cN ?_ _) | (with_reducible refine cD ?_) | exact HR371_1.out)⟩, ⟨zo HB⟩⟩
         case rest =>
          clear HC16; try clear c1; try clear p2; try clear c3
          try clear p3; try clear q3; try clear hx3; try clear c4
          try clear c6; try clear p6; try clear c8; try clear c8b0
          try clear c9; try clear c9b0; try clear c13; try clear c13b0
          try clear c14; try clear c18; try clear c18b0; try clear c18b1
          try clear c19; try clear c19b0; try clear hx371_0; try clear hx371_1
          try clear hx371_2; try clear p2; try clear p3; try clear p371; try clear q3; try clear q371
          obtain ⟨kq, x64_15, rfl, HA, HJ15, HO_0, HO_7, HR371_1, HB⟩ := hcut
          cases kq with
          | zero => exact absurd HA.out (by simp [sequiturref30_Splits.j2])
          | succ kj15 =>
           have H := HA.out; clear HA
           simp only [sequiturref30_Splits.j2] at H
           by_cases c21 : x64_15 = true
           ·subst c21
            have H1 : (some (([] : List (S62)), 2)) = some (r1, r2) := by rw [if_pos rfl] at H; exact H
            clear H; have H := H1; clear H1
            simp only [Option.some.injEq, Prod.mk.injEq] at H
            obtain ⟨rfl, rfl⟩ := H
            go_wp2
            go_ret2
            exact ⟨_, by first | rfl | (simp [errW_none, errW_some] <;> rfl) | (simp [*, errW_none, errW_some] <;> rfl), by first | exact Kd.S_nil _ _ _ _ _ | exact Kd.N_nil _ _ _ _ _ | exact Kd.V_nil _ _ _ _ _ | exact Kd.Q_nil _ _ _ _ _ | exact Kd.R_nil _ _ _ _ _, zo HB⟩
           ·replace c21 := Bool.eq_false_iff.mpr c21
            subst c21
            have H1 : (sequiturref30_Splits.l1 kj15 l0 a1 t370 x7_1 x8_1 x9_1 (wrap64 ((wrap64 ((wrap64 (-t372)) - 1)) + t373)) 0) = some (r1, r2) := by rw [if_neg (show ¬ (false = true) by decide)] at H; exact H
            clear H; have H := H1; clear H1
            have H' := zK H; clear H
            go_wp2
            go_loopg [7, 8, 14] kj15 (fun kq v7 v8 v14 w' => ∃ (x7_4 : List (S62)) (x8_4 : Bool) (x14_4 : Int), v8 = .bool x8_4 ∧ v14 = .int .i64 x14_4 ∧ Aside0 (sequiturref30_Splits.l1 kq l0 a1 t370 x7_4 x8_4 x9_1 (wrap64 ((wrap64 ((wrap64 (-t372)) - 1)) + t373)) x14_4 = some (r1, r2)) ∧ Aside0 (kq ≤ kj15) ∧ Aside0 (Kd.V k70 70 w' w.heap.size (fun k_ => (P0_ k_ ∨ w.heap.size ≤ k_) ∧ some k_ ≠ (v7 : Value).ownBlock) (.slice (some ad371) l0.length c0) l0) ∧ Aside0 (Kd.N k62 62 w' w.heap.size (fun k_ => (P0_ k_ ∨ w.heap.size ≤ k_)) v7 x7_4) ∧ Aside0 (Below w.heap.size w w'))
            case atStart => exact ⟨(x7_1), (x8_1), (0), (by first | rfl | (simp; done) | (simp [*]; done)), (by first | rfl | (simp; done) | (simp [*]; done)), H', ⟨Nat.le_refl _⟩, ⟨zv HO_0⟩, ⟨zn HO_7⟩, ⟨zo HB⟩⟩
            case round =>
             clear H'; try clear c1; try clear c2; try clear p2
             try clear c3; try clear p3; try clear q3; try clear hx3
             try clear c4; try clear c6; try clear p6; try clear c8
             try clear c8b0; try clear c9; try clear c9b0; try clear c13
             try clear c13b0; try clear c14; try clear c18; try clear c18b0
             try clear c18b1; try clear c19; try clear c19b0; try clear c21
             try clear hx371_0; try clear hx371_1; try clear hx371_2; try clear p2
             try clear p3; try clear p371; try clear p6; try clear q3; try clear q371
             obtain ⟨x7_4, x8_4, x14_4, rfl, rfl, HA, HK4, HO_0, HO_7, HB⟩ := hrel
             cases gk with
             | zero => exact absurd HA.out (by simp [sequiturref30_Splits.l1])
             | succ k4 =>
              have H := HA.out; clear HA
              simp only [sequiturref30_Splits.l1] at H
              by_cases c22 : x14_4 ≤ (wrap64 ((wrap64 ((wrap64 (-t372)) - 1)) + t373))
              ·rw [if_pos c22] at H
               have c22b0 : decide (x14_4 ≤ (wrap64 ((wrap64 ((wrap64 (-t372)) - 1)) + t373))) = true := decide_eq_true c22
               clear c22
               by_cases c23 : 0 ≤ x9_1
               ·rw [if_pos c23] at H
                have c23b0 : decide (0 ≤ x9_1) = true := decide_eq_true c23; clear c23
                by_cases c24 : x9_1 < (l0.length : Int)
                ·rw [if_pos c24] at H
                 have c24b0 : decide (x9_1 < (l0.length : Int)) = true := decide_eq_true c24
                 clear c24
                 obtain ⟨y376, hy376⟩ : ∃ y_ : List (S62), y_ = (([(⟨(rd_T70 l0 x9_1).f0.f0, (rd_T70 l0 x9_1).f0.f1⟩ : S62), (⟨x14_4, ([] : List (S68))⟩ : S62)] : List (S62))) := ⟨_, rfl⟩
                 replace H : ((sequiturref27_Sum.f k4 y376 (([(-1), (-1)] : List Int))).bind fun bt382 => (if x8_4 = true then (if x7_4.length < 4398046511104 then (sequiturref30_Splits.l1 k4 l0 a1 t370 (x7_4 ++ [(⟨bt382.1, bt382.2.1⟩ : S62)]) (bt382.2.2 == 0) x9_1 (wrap64 ((wrap64 ((wrap64 (-t372)) - 1)) + t373)) (wrap64 (x14_4 + 1))) else (none)) else (if x7_4.length < 4398046511104 then (sequiturref30_Splits.l1 k4 l0 a1 t370 (x7_4 ++ [(⟨bt382.1, bt382.2.1⟩ : S62)]) false x9_1 (wrap64 ((wrap64 ((wrap64 (-t372)) - 1)) + t373)) (wrap64 (x14_4 + 1))) else (none)))) = some (r1, r2) := by first | (rw [hy376]; with_reducible exact H) | (have H2_ := (Option.bind_some _ _).symm.trans H; rw [hy376]; with_reducible exact H2_) | (have H2_ := (Option.bind_some _ _).symm.trans H; with_reducible exact H2_) | with_reducible exact H | (rw [hy376]; exact H) | exact H
                 have Ny376 := zK hy376; clear hy376
                 obtain ⟨y379, hy379⟩ : ∃ y_ : List Int, y_ = (([(-1), (-1)] : List Int)) := ⟨_, rfl⟩
                 replace H : ((sequiturref27_Sum.f k4 y376 y379).bind fun bt382 => (if x8_4 = true then (if x7_4.length < 4398046511104 then (sequiturref30_Splits.l1 k4 l0 a1 t370 (x7_4 ++ [(⟨bt382.1, bt382.2.1⟩ : S62)]) (bt382.2.2 == 0) x9_1 (wrap64 ((wrap64 ((wrap64 (-t372)) - 1)) + t373)) (wrap64 (x14_4 + 1))) else (none)) else (if x7_4.length < 4398046511104 then (sequiturref30_Splits.l1 k4 l0 a1 t370 (x7_4 ++ [(⟨bt382.1, bt382.2.1⟩ : S62)]) false x9_1 (wrap64 ((wrap64 ((wrap64 (-t372)) - 1)) + t373)) (wrap64 (x14_4 + 1))) else (none)))) = some (r1, r2) := by first | (rw [hy379]; with_reducible exact H) | (have H2_ := (Option.bind_some _ _).symm.trans H; rw [hy379]; with_reducible exact H2_) | (have H2_ := (Option.bind_some _ _).symm.trans H; with_reducible exact H2_) | with_reducible exact H | (rw [hy379]; exact H) | exact H
                 have Ny379 := zK hy379; clear hy379; replace H := Option.bind_eq_some_iff.mp H
                 obtain ⟨⟨t382, t383, t386⟩, A250, H⟩ := H
                 replace H : (if x8_4 = true then (if x7_4.length < 4398046511104 then (sequiturref30_Splits.l1 k4 l0 a1 t370 (x7_4 ++ [(⟨t382, t383⟩ : S62)]) (t386 == 0) x9_1 (wrap64 ((wrap64 ((wrap64 (-t372)) - 1)) + t373)) (wrap64 (x14_4 + 1))) else (none)) else (if x7_4.length < 4398046511104 then (sequiturref30_Splits.l1 k4 l0 a1 t370 (x7_4 ++ [(⟨t382, t383⟩ : S62)]) false x9_1 (wrap64 ((wrap64 ((wrap64 (-t372)) - 1)) + t373)) (wrap64 (x14_4 + 1))) else (none))) = some (r1, r2) := H
                 have A25 := zK A250; clear A250
                 by_cases c26 : x8_4 = true
                 ·subst c26
                  have H1 : (if x7_4.length < 4398046511104 then (sequiturref30_Splits.l1 k4 l0 a1 t370 (x7_4 ++ [(⟨t382, t383⟩ : S62)]) (t386 == 0) x9_1 (wrap64 ((wrap64 ((wrap64 (-t372)) - 1)) + t373)) (wrap64 (x14_4 + 1))) else (none)) = some (r1, r2) := by rw [if_pos rfl] at H; exact H
                  clear H; have H := H1; clear H1
                  by_cases c27 : x7_4.length < 4398046511104
                  ·rw [if_pos c27] at H
                   have LMc27 := zK c27; clear c27
                   obtain ⟨y388, hy388⟩ : ∃ y_ : List (S62), y_ = (x7_4 ++ [(⟨t382, t383⟩ : S62)]) := ⟨_, rfl⟩
                   replace H : (sequiturref30_Splits.l1 k4 l0 a1 t370 y388 (t386 == 0) x9_1 (wrap64 ((wrap64 ((wrap64 (-t372)) - 1)) + t373)) (wrap64 (x14_4 + 1))) = some (r1, r2) := by first | (rw [hy388]; with_reducible exact H) | (have H2_ := (Option.bind_some _ _).symm.trans H; rw [hy388]; with_reducible exact H2_) | (have H2_ := (Option.bind_some _ _).symm.trans H; with_reducible exact H2_) | with_reducible exact H | (rw [hy388]; exact H) | exact H
                   have Ny388 := zK hy388; clear hy388
                   have H' := zK H; clear H
                   have p375 : 0 ≤ (x9_1 : Int) := of_decide_eq_true (by first | (with_reducible assumption) | assumption)
                   have q375 : x9_1 < (l0.length : Int) := of_decide_eq_true (by first | (with_reducible assumption) | assumption)
                   obtain ⟨ad375, A375_1, c375_1, e375, hx375_0, hx375_1, hx375_2, hl375_1, hi375_1⟩ := at_T70 (Kd.V_reads' HO_0.out).2.2 x9_1 p375 q375
                   obtain rfl : ad371 = ad375 := (by injection e375)
                   obtain ⟨ce375, hce375, hMe375, hcc375⟩ := Kd.V_get HO_0.out z70 x9_1 p375 (by first | exact q375 | exact of_decide_eq_true (by first | (with_reducible assumption) | assumption) | (have e_ := (Kd.V_reads' HO_0.out).1; omega))
                   obtain ⟨ua375_1, uc375_1, rfl, ul375_1, ge375_1⟩ := k70_openF hMe375
                   have hv375_1 := hcc375 1 _ rfl
                   rw [add_field _ _ 1 (by omega)] at hv375_1
                   replace hv375_1 := Option.some.inj (hv375_1.symm.trans hx375_1)
                   injection hv375_1 with hva_ hvn_ hvc_
                   rw [hva_] at ge375_1
                   rw [hvc_] at ul375_1
                   have HL375_1 := zK (show Kd.V k68 68 _ w.heap.size _ _ ((rd_T70 l0 x9_1).f0.f1) from Kd.V_mk ul375_1 ge375_1)
                   clear hva_ hvn_ hvc_ ge375_1 ul375_1 hcc375 hce375
                   have HR375_1 := zK hi375_1
                   have HC375_1 := zK hl375_1; clear hi375_1 hl375_1
                   replace p375 := eq_true p375
                   replace q375 := eq_true q375
                   go_wp2_with (first | ((with_reducible refine gate_dst (N := 78) rfl ?_); (try (refine zG (by rfl) ?_; dsimp only)); refine Kd.N_lit k62 _ 62 ?hg (N' := 78) ?hd (xs := ([(⟨(rd_T70 l0 x9_1).f0.f0, (rd_T70 l0 x9_1).f0.f1⟩ : S62), (⟨x14_4, ([] : List (S68))⟩ : S62)] : List (S62))) (inner := [.int .i64 ((rd_T70 l0 x9_1).f0.f0), .slice A375_1 ((rd_T70 l0 x9_1).f0.f1).length c375_1, .int .i64 x14_4, .slice none 0 0]) (ok := (fun k_ => (P0_ k_ ∨ w.heap.size ≤ k_) ∧ some k_ ≠ (u7 : Value).ownBlock)) (okp := (fun k_ => (P0_ k_ ∨ w.heap.size ≤ k_) ∧ some k_ ≠ (u7 : Value).ownBlock)) ?hr ?hp (fun _ hk => hk) ((show ∀ k_, wr.heap.size ≤ k_ → (fun k_ => (P0_ k_ ∨ w.heap.size ≤ k_) ∧ some k_ ≠ (u7 : Value).ownBlock) k_ from fun k_ hk => ⟨(.inr (Nat.le_trans (below_size (zo HB)) hk)), Kd.fresh' (Kd.N_lt (zn HO_7)) k_ hk⟩) _ (Nat.le_refl _)) (Below.refl _ _) (Nat.le_refl _) (by simp) ?_; (case hd => rfl); (case hg => rfl); (case hr => first | (go_simp; done) | (go_simp; rfl)); (case hp => exact (Reps.c2 (show Kd.FK k62 _ _ (⟨(rd_T70 l0 x9_1).f0.f0, (rd_T70 l0 x9_1).f0.f1⟩ : S62) [.int .i64 ((rd_T70 l0 x9_1).f0.f0), .slice A375_1 ((rd_T70 l0 x9_1).f0.f1).length c375_1] from (k62_mkF _ _ (⟨(rd_T70 l0 x9_1).f0.f0, (rd_T70 l0 x9_1).f0.f1⟩ : S62) (Kd.V_reads' (vM (ok' := (fun k_ => (P0_ k_ ∨ w.heap.size ≤ k_) ∧ some k_ ≠ (u7 : Value).ownBlock)) (HL375_1.out) (fun k_ hk => ⟨hk.1, hk.2⟩))).2.1 (Kd.V_F (vM (ok' := (fun k_ => (P0_ k_ ∨ w.heap.size ≤ k_) ∧ some k_ ≠ (u7 : Value).ownBlock)) (HL375_1.out) (fun k_ hk => ⟨hk.1, hk.2⟩))))) (Reps.c2 (show Kd.FK k62 _ _ (⟨x14_4, ([] : List (S68))⟩ : S62) [.int .i64 x14_4, .slice none 0 0] from (k62_mkF _ _ (⟨x14_4, ([] : List (S68))⟩ : S62) (Nat.le_refl _) (Kd.F_nil _ _ _))) (Reps.none _ _)))); intro v377 w28 ho29 hb hg_ hnew_; clear hg_ hnew_; (first | rw [← Ny376.out] at ho29 | (simp only [Int.reduceToNat] at ho29; rw [← Ny376.out] at ho29)); replace HO_0 := zK (Kd.V_elder' (zv HO_0) (Kd.N_base ho29) hb); replace HO_7 := zK (Kd.N_elder' (zn HO_7) (Kd.N_base ho29) hb); replace HL375_1 := zK (Kd.V_elder' (zv HL375_1) (Kd.N_base ho29) hb); have HO378 := zK (Kd.N_lower ho29 (below_size (zo HB))); replace HR375_1 := zK (Kd.C_below (by repeat (first | (with_reducible exact HR375_1.out) | (with_reducible refine cA ?_ _) | (with_reducible refine cN ?_ _) | (with_reducible refine cD ?_) | exact HR375_1.out)) hb); replace HB := zK (below_step (zo HB) hb); clear hb ho29) | ((with_reducible refine gate_dst (N := 79) rfl ?_); (try (refine zG (by rfl) ?_; dsimp only)); refine Kd.R_lit (Kd.int .i64) _ 2 ?hg (N := 79) ?hd (xs := ([(-1), (-1)] : List Int)) (inner := [.int .i64 (-1), .int .i64 (-1)]) (ok := fun _ => True) (okp := fun _ => True) ?hr ?hp (fun _ hk => hk) trivial (Below.refl _ _) (Nat.le_refl _) (by simp) ?_; (case hd => rfl); (case hg => rfl); (case hr => first | (go_simp; done) | (go_simp; rfl)); (case hp => exact (Reps.one (show Kd.M (Kd.int .i64) _ _ _ (-1) [.int .i64 (-1)] from rfl) (Reps.one (show Kd.M (Kd.int .i64) _ _ _ (-1) [.int .i64 (-1)] from rfl) (Reps.none _ _)))); intro v380 w30 ho31 hb hg_ hnew_; clear hg_ hnew_; (first | rw [← Ny379.out] at ho31 | (simp only [Int.reduceToNat] at ho31; rw [← Ny379.out] at ho31)); replace HO_0 := zK (Kd.V_elder' (zv HO_0) (Kd.R_base ho31) hb); replace HO_7 := zK (Kd.N_elder' (zn HO_7) (Kd.R_base ho31) hb); replace HL375_1 := zK (Kd.V_elder' (zv HL375_1) (Kd.R_base ho31) hb); replace HO378 := zK (Kd.N_elder' (zn HO378) (Kd.R_base ho31) hb); have HO381 := zK (Kd.R_lower (Kd.R_newM (M := fun k_ => (w.heap.size ≤ k_)) ho31 (below_size (zo HB)) (fun k_ h_ => h_)) (below_size (zo HB))); replace HR375_1 := zK (Kd.C_below (by repeat (first | (with_reducible exact HR375_1.out) | (with_reducible refine cA ?_ _) | (with_reducible refine cN ?_ _) | (with_reducible refine cD ?_) | exact HR375_1.out)) hb); replace HB := zK (below_step (zo HB) hb); clear hb ho31; obtain ⟨Ao32, co32, eo32⟩ := Kd.N_slice HO378.out; subst eo32; obtain ⟨Ao33, co33, eo33⟩ := Kd.R_slice HO381.out; subst eo33) | ((with_reducible refine zC (f := 68) rfl ?_); refine goesL_ (some 80) rfl rfl Try.func68 (by kernel_rfl) rfl #[.slice Ao32 y376.length co32, .slice Ao33 y379.length co33] rfl (by (try simp only [List.map_toArray, List.map_cons, List.map_nil]); first | done | rfl | (simp only [List.length_drop, List.length_take]; rfl)) ?_; (with_reducible refine (sequiturref27_Sum.calls k4 _ _ y376 _ _ y379 t382 t383 t386 _ ?side1 ?side2 ?side3 ?side4 A25.out).mono ?_); (case side1 => repeat (first | exact (Kd.N_reads' HO378.out).2.2 | (with_reducible refine cA ?_ _) | (with_reducible refine cN ?_ _) | (with_reducible refine cD ?_))); (case side2 => exact (Kd.N_reads' HO378.out).2.1); (case side3 => repeat (first | exact (Kd.R_reads' HO381.out).2.2 | (with_reducible refine cA ?_ _) | (with_reducible refine cN ?_ _) | (with_reducible refine cD ?_))); (case side4 => exact (Kd.R_reads' HO381.out).2.1); rintro e w34 ⟨v384, rfl, ho0, hb⟩; refine ⟨_, rfl, ?_⟩; replace HO_0 := zK (Kd.V_elder' (zv HO_0) (Kd.R_base ho0) hb); replace HO_7 := zK (Kd.N_elder' (zn HO_7) (Kd.R_base ho0) hb); replace HL375_1 := zK (Kd.V_elder' (zv HL375_1) (Kd.R_base ho0) hb); replace HO378 := zK (Kd.N_elder' (zn HO378) (Kd.R_base ho0) hb); replace HO381 := zK (Kd.R_below (zr HO381) hb); have HO385 := zK (Kd.R_lower (Kd.R_newM (M := fun k_ => (w.heap.size ≤ k_)) ho0 (below_size (zo HB)) (fun k_ h_ => h_)) (below_size (zo HB))); replace HR375_1 := zK (Kd.C_below (by repeat (first | (with_reducible exact HR375_1.out) | (with_reducible refine cA ?_ _) | (with_reducible refine cN ?_ _) | (with_reducible refine cD ?_) | exact HR375_1.out)) hb); replace HB := zK (below_step (zo HB) hb); (try clear hb); (try clear hb2); (try clear hk); (try clear hi); (try clear ho0)) | ((with_reducible refine gate_dst (N := 15) rfl ?_); (try (refine zG (by rfl) ?_; dsimp only)); refine box_event ?hg (N := 15) ?hd (cs := #[.int .i64 0, .slice none 0 0]) (t := 62) ?hr ?_; (case hd => rfl); (case hg => rfl); (case hr => first | (go_simp; done) | (go_simp; rfl)); intro gb387 hg w35 hbox hb; replace HO_0 := zK (Kd.V_below (Kd.V_elderB (zv HO_0) gb387 (Nat.le_of_eq hg.symm)) hb); replace HO_7 := zK (Kd.N_below (Kd.N_elderB (zn HO_7) gb387 (Nat.le_of_eq hg.symm)) hb); replace HL375_1 := zK (Kd.V_below (Kd.V_elderB (zv HL375_1) gb387 (Nat.le_of_eq hg.symm)) hb); replace HO378 := zK (Kd.N_below (Kd.N_elderB (zn HO378) gb387 (Nat.le_of_eq hg.symm)) hb); replace HO381 := zK (Kd.R_below (zr HO381) hb); replace HO385 := zK (Kd.R_below (zr HO385) hb); replace HR375_1 := zK (Kd.C_below (by repeat (first | (with_reducible exact HR375_1.out) | (with_reducible refine cA ?_ _) | (with_reducible refine cN ?_ _) | (with_reducible refine cD ?_) | exact HR375_1.out)) hb); have BK387 := zK (hbox); have GW387 := zK ((by rw [hg]; exact (below_size (zo HB)) : w.heap.size ≤ gb387)); have GE387 := zK ((by rw [hg]; exact (below_size (zo HB)) : w.heap.size ≤ gb387)); replace HB := zK (below_step (zo HB) hb); clear hb hbox hg; have hcz36_0 : w35.cell? ⟨gb387, 0, none⟩ = some (.int .i64 0) := (blk_cell BK387.out 0).trans rfl; have hcz36_1 : w35.cell? ⟨gb387, 1, none⟩ = some (.slice none 0 0) := (blk_cell BK387.out 1).trans rfl; have hfz36_0 := blk_frozen BK387.out 0; have hfz36_1 := blk_frozen BK387.out 1; obtain ⟨Ao37, co37, eo37⟩ := Kd.R_slice HO385.out; subst eo37) | ((with_reducible refine gate_store (t := 62) (p := 15) rfl ?_); refine store_event (t := 62) (p := 15) (v := ?vo_w38) (w1 := ((w35.setCell ⟨gb387, 0, none⟩ (.int .i64 t382)).setCell ⟨gb387, 1, none⟩ (.slice Ao37 t383.length co37))) ?hg ?ho ?hn ?hr ?_; (case ho => rfl); (case hg => rfl); (case hn => rfl); (case hr => first | (go_simp; done) | (go_simp; rfl)); intro w38 hw; have n0_ : Aside0 (Kd.V k70 70 w38 w.heap.size (fun k_ => (P0_ k_ ∨ w.heap.size ≤ k_) ∧ some k_ ≠ (u7 : Value).ownBlock ∧ some k_ ≠ (.slice Ao32 y376.length co32 : Value).ownBlock ∧ some k_ ≠ (.slice Ao33 y379.length co33 : Value).ownBlock ∧ some k_ ≠ (.slice Ao37 t383.length co37 : Value).ownBlock ∧ k_ ≠ gb387) (.slice (some ad371) l0.length c0) l0) := ⟨(by rw [hw]; exact (by (with_reducible repeat (first | apply vA | apply vN | apply vD)); exact vM (vF (p := ⟨gb387, 1, none⟩) (vF (p := ⟨gb387, 0, none⟩) (vM HO_0.out (fun k_ hk => (⟨hk, hk.2⟩ : _ ∧ k_ ≠ gb387))) (fun _ hk => hk.2) (.int .i64 t382)) (fun _ hk => hk.2) (.slice Ao37 t383.length co37)) (fun _ hk => ⟨hk.1.1.1.1.1.1, ⟨hk.1.1.1.1.1.2, ⟨hk.1.1.1.1.2, ⟨hk.1.1.1.2, ⟨hk.1.1.2, hk.1.2⟩⟩⟩⟩⟩)))⟩; have n1_ : Aside0 (Kd.N k62 62 w38 w.heap.size (fun k_ => (P0_ k_ ∨ w.heap.size ≤ k_) ∧ some k_ ≠ (.slice Ao32 y376.length co32 : Value).ownBlock ∧ some k_ ≠ (.slice Ao33 y379.length co33 : Value).ownBlock ∧ some k_ ≠ (.slice Ao37 t383.length co37 : Value).ownBlock ∧ k_ ≠ gb387) u7 x7_4) := ⟨(by rw [hw]; exact (by (with_reducible repeat (first | apply nA | apply nN | apply nD)); exact Kd.N_mono (Kd.N_far (p := ⟨gb387, 1, none⟩) (Kd.N_far (p := ⟨gb387, 0, none⟩) (Kd.N_mono HO_7.out (fun k_ hk => (⟨hk, hk.2⟩ : _ ∧ k_ ≠ gb387))) (fun _ hk => hk.2) (.int .i64 t382)) (fun _ hk => hk.2) (.slice Ao37 t383.length co37)) (fun _ hk => ⟨hk.1.1.1.1.1, ⟨hk.1.1.1.1.2, ⟨hk.1.1.1.2, ⟨hk.1.1.2, hk.1.2⟩⟩⟩⟩)))⟩; have n2_ : Aside0 (Kd.V k68 68 w38 w.heap.size (fun k_ => (P0_ k_ ∨ w.heap.size ≤ k_) ∧ some k_ ≠ (u7 : Value).ownBlock ∧ some k_ ≠ (.slice Ao32 y376.length co32 : Value).ownBlock ∧ some k_ ≠ (.slice Ao33 y379.length co33 : Value).ownBlock ∧ some k_ ≠ (.slice Ao37 t383.length co37 : Value).ownBlock ∧ k_ ≠ gb387) (.slice A375_1 ((rd_T70 l0 x9_1).f0.f1).length c375_1) ((rd_T70 l0 x9_1).f0.f1)) := ⟨(by rw [hw]; exact (by (with_reducible repeat (first | apply vA | apply vN | apply vD)); exact vM (vF (p := ⟨gb387, 1, none⟩) (vF (p := ⟨gb387, 0, none⟩) (vM HL375_1.out (fun k_ hk => (⟨hk, hk.2⟩ : _ ∧ k_ ≠ gb387))) (fun _ hk => hk.2) (.int .i64 t382)) (fun _ hk => hk.2) (.slice Ao37 t383.length co37)) (fun _ hk => ⟨hk.1.1.1.1.1.1, ⟨hk.1.1.1.1.1.2, ⟨hk.1.1.1.1.2, ⟨hk.1.1.1.2, ⟨hk.1.1.2, hk.1.2⟩⟩⟩⟩⟩)))⟩; have n3_ : Aside0 (Kd.N k62 62 w38 w.heap.size (fun k_ => (P0_ k_ ∨ w.heap.size ≤ k_) ∧ some k_ ≠ (u7 : Value).ownBlock ∧ some k_ ≠ (.slice Ao33 y379.length co33 : Value).ownBlock ∧ some k_ ≠ (.slice Ao37 t383.length co37 : Value).ownBlock ∧ k_ ≠ gb387) (.slice Ao32 y376.length co32) y376) := ⟨(by rw [hw]; exact (by (with_reducible repeat (first | apply nA | apply nN | apply nD)); exact Kd.N_mono (Kd.N_far (p := ⟨gb387, 1, none⟩) (Kd.N_far (p := ⟨gb387, 0, none⟩) (Kd.N_mono HO378.out (fun k_ hk => (⟨hk, hk.2⟩ : _ ∧ k_ ≠ gb387))) (fun _ hk => hk.2) (.int .i64 t382)) (fun _ hk => hk.2) (.slice Ao37 t383.length co37)) (fun _ hk => ⟨hk.1.1.1.1.1, ⟨hk.1.1.1.1.2, ⟨hk.1.1.1.2, ⟨hk.1.1.2, hk.1.2⟩⟩⟩⟩)))⟩; have n4_ : Aside0 (Kd.R (Kd.int .i64) 2 w38 w.heap.size (fun k_ => (w.heap.size ≤ k_)) (.slice Ao33 y379.length co33) y379) := ⟨(by rw [hw]; exact (by (with_reducible repeat (first | apply Kd.R_alloc | apply Kd.R_drewN | apply Kd.R_drew)); exact Kd.R_mono (Kd.R_far (p := ⟨gb387, 1, none⟩) (Kd.R_far (p := ⟨gb387, 0, none⟩) (Kd.R_types HO381.out BK387.out (by decide)) (fun _ hk => hk.2) (.int .i64 t382)) (fun _ hk => hk.2) (.slice Ao37 t383.length co37)) (fun _ hk => hk.1.1)))⟩; have n5_ : Aside0 (Kd.R k68 68 w38 w.heap.size (fun k_ => (w.heap.size ≤ k_)) (.slice Ao37 t383.length co37) t383) := ⟨(by rw [hw]; exact (by (with_reducible repeat (first | apply Kd.R_alloc | apply Kd.R_drewN | apply Kd.R_drew)); exact Kd.R_mono (Kd.R_far (p := ⟨gb387, 1, none⟩) (Kd.R_far (p := ⟨gb387, 0, none⟩) (Kd.R_types HO385.out BK387.out (by decide)) (fun _ hk => hk.2) (.int .i64 t382)) (fun _ hk => hk.2) (.slice Ao37 t383.length co37)) (fun _ hk => hk.1.1)))⟩; have n6_ : Aside0 (w38.heap[gb387]? = some (.cells #[.int .i64 t382, .slice Ao37 t383.length co37] 62 (0, 0))) := ⟨(by rw [hw]; exact (by refine zM ?_; refine blk_put (cs := #[.int .i64 t382, .slice none 0 0]) ?_ 1 _ rfl; refine zM ?_; refine blk_put (cs := #[.int .i64 0, .slice none 0 0]) ?_ 0 _ rfl; refine zM ?_; exact BK387.out))⟩; have n7_ : Aside0 (Below w.heap.size w w38) := ⟨(by rw [hw]; exact (zo HB))⟩; clear hw HO_0 HO_7 HL375_1 HO378 HO381 HO385 BK387 HB; have HO_0 := n0_; have HO_7 := n1_; have HL375_1 := n2_; have HO378 := n3_; have HO381 := n4_; have HO385 := n5_; have BK387 := n6_; have HB := n7_; clear n0_ n1_ n2_ n3_ n4_ n5_ n6_ n7_; have hcz39_0 : w38.cell? ⟨gb387, 0, none⟩ = some (.int .i64 t382) := (blk_cell BK387.out 0).trans rfl; have hcz39_1 : w38.cell? ⟨gb387, 1, none⟩ = some (.slice Ao37 t383.length co37) := (blk_cell BK387.out 1).trans rfl; have hfz39_0 := blk_frozen BK387.out 0; have hfz39_1 := blk_frozen BK387.out 1) | ((with_reducible refine gate_builtin (b := .append) (xs := #[.tmp 88, .tmp 90]) rfl ?_); (try (refine zG (by rfl) ?_; dsimp only)); at_builtin; refine Kd.N_append k62 (w0 := w) w.heap.size rfl (.tmp 88) (.tmp 90) 54 62 (.agg #[(.int .i64 0), (.slice none 0 0)]) 32 rfl Try.underlying54 info62 rfl (by decide) (by omega) u7 x7_4 (⟨t382, t383⟩ : S62) [.int .i64 t382, .slice Ao37 t383.length co37] (fun k_ => (P0_ k_ ∨ w.heap.size ≤ k_) ∧ some k_ ≠ (.slice Ao32 y376.length co32 : Value).ownBlock ∧ some k_ ≠ (.slice Ao33 y379.length co33 : Value).ownBlock ∧ k_ ≠ gb387) (fun k_ => ((fun k_ => (P0_ k_ ∨ w.heap.size ≤ k_) ∧ some k_ ≠ (.slice Ao32 y376.length co32 : Value).ownBlock ∧ some k_ ≠ (.slice Ao33 y379.length co33 : Value).ownBlock ∧ k_ ≠ gb387)) k_ ∧ some k_ ≠ (u7 : Value).ownBlock) rfl rfl ?aP (fun _ hk => hk) ?aF ?aO ?aB ?aS ?aL ?_; (case aP => exact (k62_mkF _ _ (⟨t382, t383⟩ : S62) (Kd.R_reads' (Kd.R_mono (ok' := (fun k_ => ((fun k_ => (P0_ k_ ∨ w.heap.size ≤ k_) ∧ some k_ ≠ (.slice Ao32 y376.length co32 : Value).ownBlock ∧ some k_ ≠ (.slice Ao33 y379.length co33 : Value).ownBlock ∧ k_ ≠ gb387)) k_ ∧ some k_ ≠ (u7 : Value).ownBlock)) (Kd.R_types (Kd.R_apart' (Kd.R_apart' (Kd.R_apart' (HO385.out) (Kd.N_typed HO378.out) (by decide)) (Kd.R_typed HO381.out) (by decide)) (Kd.N_typed HO_7.out) (by decide)) BK387.out (by decide)) (fun k_ hk => ⟨⟨(.inr (hk.1.1.1.1)), ⟨hk.1.1.1.2, ⟨hk.1.1.2, hk.2⟩⟩⟩, hk.1.2⟩))).2.1 (Kd.R_F (Kd.R_mono (ok' := (fun k_ => ((fun k_ => (P0_ k_ ∨ w.heap.size ≤ k_) ∧ some k_ ≠ (.slice Ao32 y376.length co32 : Value).ownBlock ∧ some k_ ≠ (.slice Ao33 y379.length co33 : Value).ownBlock ∧ k_ ≠ gb387)) k_ ∧ some k_ ≠ (u7 : Value).ownBlock)) (Kd.R_types (Kd.R_apart' (Kd.R_apart' (Kd.R_apart' (HO385.out) (Kd.N_typed HO378.out) (by decide)) (Kd.R_typed HO381.out) (by decide)) (Kd.N_typed HO_7.out) (by decide)) BK387.out (by decide)) (fun k_ hk => ⟨⟨(.inr (hk.1.1.1.1)), ⟨hk.1.1.1.2, ⟨hk.1.1.2, hk.2⟩⟩⟩, hk.1.2⟩))))); (case aB => exact (zo HB)); (case aF => exact (fun k_ hk => ⟨(.inr (Nat.le_trans (below_size (zo HB)) hk)), Kd.fresh' (Kd.N_lt (zn HO378)) k_ hk, Kd.fresh' (Kd.R_lt (zr HO381)) k_ hk, Kd.freshB (g := gb387) (o := .cells #[.int .i64 t382, .slice Ao37 t383.length co37] 62 (0, 0)) (zb BK387) k_ hk⟩)); (case aO => exact (by (with_reducible repeat (first | apply nA | apply nN | apply nD)); exact Kd.N_mono HO_7.out (fun _ hk => ⟨hk.1, ⟨hk.2.1, ⟨hk.2.2.1, hk.2.2.2.2⟩⟩⟩))); (case aS => exact (below_size (zo HB))); (case aL => have := LMc27.out; omega); intro v389 w40 ho hb hg hat; rw [← Ny388.out] at ho; replace HO_0 := zK (Kd.V_afterv (ok := (fun k_ => (P0_ k_ ∨ w.heap.size ≤ k_) ∧ some k_ ≠ (.slice Ao32 y376.length co32 : Value).ownBlock ∧ some k_ ≠ (.slice Ao33 y379.length co33 : Value).ownBlock ∧ some k_ ≠ (.slice Ao37 t383.length co37 : Value).ownBlock ∧ k_ ≠ gb387)) (by (with_reducible repeat (first | apply vA | apply vN | apply vD)); exact vM HO_0.out (fun _ hk => ⟨⟨hk.1, ⟨hk.2.2.1, ⟨hk.2.2.2.1, ⟨hk.2.2.2.2.1, hk.2.2.2.2.2⟩⟩⟩⟩, hk.2.1⟩)) hg hat); replace HL375_1 := zK (Kd.V_afterv (ok := (fun k_ => (P0_ k_ ∨ w.heap.size ≤ k_) ∧ some k_ ≠ (.slice Ao32 y376.length co32 : Value).ownBlock ∧ some k_ ≠ (.slice Ao33 y379.length co33 : Value).ownBlock ∧ some k_ ≠ (.slice Ao37 t383.length co37 : Value).ownBlock ∧ k_ ≠ gb387)) (by (with_reducible repeat (first | apply vA | apply vN | apply vD)); exact vM HL375_1.out (fun _ hk => ⟨⟨hk.1, ⟨hk.2.2.1, ⟨hk.2.2.2.1, ⟨hk.2.2.2.2.1, hk.2.2.2.2.2⟩⟩⟩⟩, hk.2.1⟩)) hg hat); replace HO378 := zK (Kd.N_afterv (ok := (fun k_ => (P0_ k_ ∨ w.heap.size ≤ k_) ∧ some k_ ≠ (.slice Ao33 y379.length co33 : Value).ownBlock ∧ some k_ ≠ (.slice Ao37 t383.length co37 : Value).ownBlock ∧ k_ ≠ gb387)) (by (with_reducible repeat (first | apply nA | apply nN | apply nD)); exact Kd.N_mono HO378.out (fun _ hk => ⟨⟨hk.1, ⟨hk.2.2.1, ⟨hk.2.2.2.1, hk.2.2.2.2⟩⟩⟩, hk.2.1⟩)) hg hat); replace HO381 := zK (Kd.R_over' (zr HO381) (Kd.N_typed (zn HO_7)) (by decide) hg); replace BK387 := zK (blk_grown (g := gb387) (o := .cells #[.int .i64 t382, .slice Ao37 t383.length co37] 62 (0, 0)) (zb BK387) hg (Kd.N_away HO_7.out (fun _ hk => hk.2.2.2.2))); replace HB := zK (hb); have HO390 := zK (ho); clear HO_7 HO385 ho hb hg hat))
                   go_roundg k4
                   case measure => have := HK1.out; have := HJ10.out; have := HJ15.out; have := HK4.out; omega
                   case rel => exact ⟨(y388), ((t386 == 0)), (wrap64 (x14_4 + 1)), (by first | rfl | (simp; done) | (simp [*]; done)), (by first | rfl | (simp; done) | (simp [*]; done)), H', ⟨by have := HK1.out; have := HJ10.out; have := HJ15.out; have := HK4.out; omega⟩, ⟨by (with_reducible repeat (first | apply vA | apply vN | apply vD)); exact vM HO_0.out (fun _ hk => ⟨hk.1.1, hk.2⟩)⟩, ⟨by (with_reducible repeat (first | apply nA | apply nN | apply nD)); exact Kd.N_mono HO390.out (fun _ hk => hk.1)⟩, ⟨zo HB⟩⟩
                  ·rw [if_neg c27] at H
                   exact absurd H (by simp)
                 ·replace c26 := Bool.eq_false_iff.mpr c26
                  subst c26
                  have H1 : (if x7_4.length < 4398046511104 then (sequiturref30_Splits.l1 k4 l0 a1 t370 (x7_4 ++ [(⟨t382, t383⟩ : S62)]) false x9_1 (wrap64 ((wrap64 ((wrap64 (-t372)) - 1)) + t373)) (wrap64 (x14_4 + 1))) else (none)) = some (r1, r2) := by rw [if_neg (show ¬ (false = true) by decide)] at H; exact H
                  clear H; have H := H1; clear H1
                  by_cases c41 : x7_4.length < 4398046511104
                  ·rw [if_pos c41] at H
                   have LMc41 := zK c41; clear c41
                   obtain ⟨y391, hy391⟩ : ∃ y_ : List (S62), y_ = (x7_4 ++ [(⟨t382, t383⟩ : S62)]) := ⟨_, rfl⟩
                   replace H : (sequiturref30_Splits.l1 k4 l0 a1 t370 y391 false x9_1 (wrap64 ((wrap64 ((wrap64 (-t372)) - 1)) + t373)) (wrap64 (x14_4 + 1))) = some (r1, r2) := by first | (rw [hy391]; with_reducible exact H) | (have H2_ := (Option.bind_some _ _).symm.trans H; rw [hy391]; with_reducible exact H2_) | (have H2_ := (Option.bind_some _ _).symm.trans H; with_reducible exact H2_) | with_reducible exact H | (rw [hy391]; exact H) | exact H
                   have Ny391 := zK hy391; clear hy391
                   have H' := zK H; clear H
                   have p375 : 0 ≤ (x9_1 : Int) := of_decide_eq_true (by first | (with_reducible assumption) | assumption)
                   have q375 : x9_1 < (l0.length : Int) := of_decide_eq_true (by first | (with_reducible assumption) | assumption)
                   obtain ⟨ad375, A375_1, c375_1, e375, hx375_0, hx375_1, hx375_2, hl375_1, hi375_1⟩ := at_T70 (Kd.V_reads' HO_0.out).2.2 x9_1 p375 q375
                   obtain rfl : ad371 = ad375 := (by injection e375)
                   obtain ⟨ce375, hce375, hMe375, hcc375⟩ := Kd.V_get HO_0.out z70 x9_1 p375 (by first | exact q375 | exact of_decide_eq_true (by first | (with_reducible assumption) | assumption) | (have e_ := (Kd.V_reads' HO_0.out).1; omega))
                   obtain ⟨ua375_1, uc375_1, rfl, ul375_1, ge375_1⟩ := k70_openF hMe375
                   have hv375_1 := hcc375 1 _ rfl
                   rw [add_field _ _ 1 (by omega)] at hv375_1
                   replace hv375_1 := Option.some.inj (hv375_1.symm.trans hx375_1)
                   injection hv375_1 with hva_ hvn_ hvc_
                   rw [hva_] at ge375_1
                   rw [hvc_] at ul375_1
                   have HL375_1 := zK (show Kd.V k68 68 _ w.heap.size _ _ ((rd_T70 l0 x9_1).f0.f1) from Kd.V_mk ul375_1 ge375_1)
                   clear hva_ hvn_ hvc_ ge375_1 ul375_1 hcc375 hce375
                   have HR375_1 := zK hi375_1
                   have HC375_1 := zK hl375_1; clear hi375_1 hl375_1
                   replace p375 := eq_true p375
                   replace q375 := eq_true q375
                   go_wp2_with (first | ((with_reducible refine gate_dst (N := 78) rfl ?_); (try (refine zG (by rfl) ?_; dsimp only)); refine Kd.N_lit k62 _ 62 ?hg (N' := 78) ?hd (xs := ([(⟨(rd_T70 l0 x9_1).f0.f0, (rd_T70 l0 x9_1).f0.f1⟩ : S62), (⟨x14_4, ([] : List (S68))⟩ : S62)] : List (S62))) (inner := [.int .i64 ((rd_T70 l0 x9_1).f0.f0), .slice A375_1 ((rd_T70 l0 x9_1).f0.f1).length c375_1, .int .i64 x14_4, .slice none 0 0]) (ok := (fun k_ => (P0_ k_ ∨ w.heap.size ≤ k_) ∧ some k_ ≠ (u7 : Value).ownBlock)) (okp := (fun k_ => (P0_ k_ ∨ w.heap.size ≤ k_) ∧ some k_ ≠ (u7 : Value).ownBlock)) ?hr ?hp (fun _ hk => hk) ((show ∀ k_, wr.heap.size ≤ k_ → (fun k_ => (P0_ k_ ∨ w.heap.size ≤ k_) ∧ some k_ ≠ (u7 : Value).ownBlock) k_ from fun k_ hk => ⟨(.inr (Nat.le_trans (below_size (zo HB)) hk)), Kd.fresh' (Kd.N_lt (zn HO_7)) k_ hk⟩) _ (Nat.le_refl _)) (Below.refl _ _) (Nat.le_refl _) (by simp) ?_; (case hd => rfl); (case hg => rfl); (case hr => first | (go_simp; done) | (go_simp; rfl)); (case hp => exact (Reps.c2 (show Kd.FK k62 _ _ (⟨(rd_T70 l0 x9_1).f0.f0, (rd_T70 l0 x9_1).f0.f1⟩ : S62) [.int .i64 ((rd_T70 l0 x9_1).f0.f0), .slice A375_1 ((rd_T70 l0 x9_1).f0.f1).length c375_1] from (k62_mkF _ _ (⟨(rd_T70 l0 x9_1).f0.f0, (rd_T70 l0 x9_1).f0.f1⟩ : S62) (Kd.V_reads' (vM (ok' := (fun k_ => (P0_ k_ ∨ w.heap.size ≤ k_) ∧ some k_ ≠ (u7 : Value).ownBlock)) (HL375_1.out) (fun k_ hk => ⟨hk.1, hk.2⟩))).2.1 (Kd.V_F (vM (ok' := (fun k_ => (P0_ k_ ∨ w.heap.size ≤ k_) ∧ some k_ ≠ (u7 : Value).ownBlock)) (HL375_1.out) (fun k_ hk => ⟨hk.1, hk.2⟩))))) (Reps.c2 (show Kd.FK k62 _ _ (⟨x14_4, ([] : List (S68))⟩ : S62) [.int .i64 x14_4, .slice none 0 0] from (k62_mkF _ _ (⟨x14_4, ([] : List (S68))⟩ : S62) (Nat.le_refl _) (Kd.F_nil _ _ _))) (Reps.none _ _)))); intro v377 w42 ho43 hb hg_ hnew_; clear hg_ hnew_; (first | rw [← Ny376.out] at ho43 | (simp only [Int.reduceToNat] at ho43; rw [← Ny376.out] at ho43)); replace HO_0 := zK (Kd.V_elder' (zv HO_0) (Kd.N_base ho43) hb); replace HO_7 := zK (Kd.N_elder' (zn HO_7) (Kd.N_base ho43) hb); replace HL375_1 := zK (Kd.V_elder' (zv HL375_1) (Kd.N_base ho43) hb); have HO378 := zK (Kd.N_lower ho43 (below_size (zo HB))); replace HR375_1 := zK (Kd.C_below (by repeat (first | (with_reducible exact HR375_1.out) | (with_reducible refine cA ?_ _) | (with_reducible refine cN ?_ _) | (with_reducible refine cD ?_) | exact HR375_1.out)) hb); replace HB := zK (below_step (zo HB) hb); clear hb ho43) | ((with_reducible refine gate_dst (N := 79) rfl ?_); (try (refine zG (by rfl) ?_; dsimp only)); refine Kd.R_lit (Kd.int .i64) _ 2 ?hg (N := 79) ?hd (xs := ([(-1), (-1)] : List Int)) (inner := [.int .i64 (-1), .int .i64 (-1)]) (ok := fun _ => True) (okp := fun _ => True) ?hr ?hp (fun _ hk => hk) trivial (Below.refl _ _) (Nat.le_refl _) (by simp) ?_; (case hd => rfl); (case hg => rfl); (case hr => first | (go_simp; done) | (go_simp; rfl)); (case hp => exact (Reps.one (show Kd.M (Kd.int .i64) _ _ _ (-1) [.int .i64 (-1)] from rfl) (Reps.one (show Kd.M (Kd.int .i64) _ _ _ (-1) [.int .i64 (-1)] from rfl) (Reps.none _ _)))); intro v380 w44 ho45 hb hg_ hnew_; clear hg_ hnew_; (first | rw [← Ny379.out] at ho45 | (simp only [Int.reduceToNat] at ho45; rw [← Ny379.out] at ho45)); replace HO_0 := zK (Kd.V_elder' (zv HO_0) (Kd.R_base ho45) hb); replace HO_7 := zK (Kd.N_elder' (zn HO_7) (Kd.R_base ho45) hb); replace HL375_1 := zK (Kd.V_elder' (zv HL375_1) (Kd.R_base ho45) hb); replace HO378 := zK (Kd.N_elder' (zn HO378) (Kd.R_base ho45) hb); have HO381 := zK (Kd.R_lower (Kd.R_newM (M := fun k_ => (w.heap.size ≤ k_)) ho45 (below_size (zo HB)) (fun k_ h_ => h_)) (below_size (zo HB))); replace HR375_1 := zK (Kd.C_below (by repeat (first | (with_reducible exact HR375_1.out) | (with_reducible refine cA ?_ _) | (with_reducible refine cN ?_ _) | (with_reducible refine cD ?_) | exact HR375_1.out)) hb); replace HB := zK (below_step (zo HB) hb); clear hb ho45; obtain ⟨Ao46, co46, eo46⟩ := Kd.N_slice HO378.out; subst eo46; obtain ⟨Ao47, co47, eo47⟩ := Kd.R_slice HO381.out; subst eo47) | ((with_reducible refine zC (f := 68) rfl ?_); refine goesL_ (some 80) rfl rfl Try.func68 (by kernel_rfl) rfl #[.slice Ao46 y376.length co46, .slice Ao47 y379.length co47] rfl (by (try simp only [List.map_toArray, List.map_cons, List.map_nil]); first | done | rfl | (simp only [List.length_drop, List.length_take]; rfl)) ?_; (with_reducible refine (sequiturref27_Sum.calls k4 _ _ y376 _ _ y379 t382 t383 t386 _ ?side1 ?side2 ?side3 ?side4 A25.out).mono ?_); (case side1 => repeat (first | exact (Kd.N_reads' HO378.out).2.2 | (with_reducible refine cA ?_ _) | (with_reducible refine cN ?_ _) | (with_reducible refine cD ?_))); (case side2 => exact (Kd.N_reads' HO378.out).2.1); (case side3 => repeat (first | exact (Kd.R_reads' HO381.out).2.2 | (with_reducible refine cA ?_ _) | (with_reducible refine cN ?_ _) | (with_reducible refine cD ?_))); (case side4 => exact (Kd.R_reads' HO381.out).2.1); rintro e w48 ⟨v384, rfl, ho0, hb⟩; refine ⟨_, rfl, ?_⟩; replace HO_0 := zK (Kd.V_elder' (zv HO_0) (Kd.R_base ho0) hb); replace HO_7 := zK (Kd.N_elder' (zn HO_7) (Kd.R_base ho0) hb); replace HL375_1 := zK (Kd.V_elder' (zv HL375_1) (Kd.R_base ho0) hb); replace HO378 := zK (Kd.N_elder' (zn HO378) (Kd.R_base ho0) hb); replace HO381 := zK (Kd.R_below (zr HO381) hb); have HO385 := zK (Kd.R_lower (Kd.R_newM (M := fun k_ => (w.heap.size ≤ k_)) ho0 (below_size (zo HB)) (fun k_ h_ => h_)) (below_size (zo HB))); replace HR375_1 := zK (Kd.C_below (by repeat (first | (with_reducible exact HR375_1.out) | (with_reducible refine cA ?_ _) | (with_reducible refine cN ?_ _) | (with_reducible refine cD ?_) | exact HR375_1.out)) hb); replace HB := zK (below_step (zo HB) hb); (try clear hb); (try clear hb2); (try clear hk); (try clear hi); (try clear ho0)) | ((with_reducible refine gate_dst (N := 15) rfl ?_); (try (refine zG (by rfl) ?_; dsimp only)); refine box_event ?hg (N := 15) ?hd (cs := #[.int .i64 0, .slice none 0 0]) (t := 62) ?hr ?_; (case hd => rfl); (case hg => rfl); (case hr => first | (go_simp; done) | (go_simp; rfl)); intro gb387 hg w49 hbox hb; replace HO_0 := zK (Kd.V_below (Kd.V_elderB (zv HO_0) gb387 (Nat.le_of_eq hg.symm)) hb); replace HO_7 := zK (Kd.N_below (Kd.N_elderB (zn HO_7) gb387 (Nat.le_of_eq hg.symm)) hb); replace HL375_1 := zK (Kd.V_below (Kd.V_elderB (zv HL375_1) gb387 (Nat.le_of_eq hg.symm)) hb); replace HO378 := zK (Kd.N_below (Kd.N_elderB (zn HO378) gb387 (Nat.le_of_eq hg.symm)) hb); replace HO381 := zK (Kd.R_below (zr HO381) hb); replace HO385 := zK (Kd.R_below (zr HO385) hb); replace HR375_1 := zK (Kd.C_below (by repeat (first | (with_reducible exact HR375_1.out) | (with_reducible refine cA ?_ _) | (with_reducible refine cN ?_ _) | (with_reducible refine cD ?_) | exact HR375_1.out)) hb); have BK387 := zK (hbox); have GW387 := zK ((by rw [hg]; exact (below_size (zo HB)) : w.heap.size ≤ gb387)); have GE387 := zK ((by rw [hg]; exact (below_size (zo HB)) : w.heap.size ≤ gb387)); replace HB := zK (below_step (zo HB) hb); clear hb hbox hg; have hcz50_0 : w49.cell? ⟨gb387, 0, none⟩ = some (.int .i64 0) := (blk_cell BK387.out 0).trans rfl; have hcz50_1 : w49.cell? ⟨gb387, 1, none⟩ = some (.slice none 0 0) := (blk_cell BK387.out 1).trans rfl; have hfz50_0 := blk_frozen BK387.out 0; have hfz50_1 := blk_frozen BK387.out 1; obtain ⟨Ao51, co51, eo51⟩ := Kd.R_slice HO385.out; subst eo51) | ((with_reducible refine gate_store (t := 62) (p := 15) rfl ?_); refine store_event (t := 62) (p := 15) (v := ?vo_w52) (w1 := ((w49.setCell ⟨gb387, 0, none⟩ (.int .i64 t382)).setCell ⟨gb387, 1, none⟩ (.slice Ao51 t383.length co51))) ?hg ?ho ?hn ?hr ?_; (case ho => rfl); (case hg => rfl); (case hn => rfl); (case hr => first | (go_simp; done) | (go_simp; rfl)); intro w52 hw; have n0_ : Aside0 (Kd.V k70 70 w52 w.heap.size (fun k_ => (P0_ k_ ∨ w.heap.size ≤ k_) ∧ some k_ ≠ (u7 : Value).ownBlock ∧ some k_ ≠ (.slice Ao46 y376.length co46 : Value).ownBlock ∧ some k_ ≠ (.slice Ao47 y379.length co47 : Value).ownBlock ∧ some k_ ≠ (.slice Ao51 t383.length co51 : Value).ownBlock ∧ k_ ≠ gb387) (.slice (some ad371) l0.length c0) l0) := ⟨(by rw [hw]; exact (by (with_reducible repeat (first | apply vA | apply vN | apply vD)); exact vM (vF (p := ⟨gb387, 1, none⟩) (vF (p := ⟨gb387, 0, none⟩) (vM HO_0.out (fun k_ hk => (⟨hk, hk.2⟩ : _ ∧ k_ ≠ gb387))) (fun _ hk => hk.2) (.int .i64 t382)) (fun _ hk => hk.2) (.slice Ao51 t383.length co51)) (fun _ hk => ⟨hk.1.1.1.1.1.1, ⟨hk.1.1.1.1.1.2, ⟨hk.1.1.1.1.2, ⟨hk.1.1.1.2, ⟨hk.1.1.2, hk.1.2⟩⟩⟩⟩⟩)))⟩; have n1_ : Aside0 (Kd.N k62 62 w52 w.heap.size (fun k_ => (P0_ k_ ∨ w.heap.size ≤ k_) ∧ some k_ ≠ (.slice Ao46 y376.length co46 : Value).ownBlock ∧ some k_ ≠ (.slice Ao47 y379.length co47 : Value).ownBlock ∧ some k_ ≠ (.slice Ao51 t383.length co51 : Value).ownBlock ∧ k_ ≠ gb387) u7 x7_4) := ⟨(by rw [hw]; exact (by (with_reducible repeat (first | apply nA | apply nN | apply nD)); exact Kd.N_mono (Kd.N_far (p := ⟨gb387, 1, none⟩) (Kd.N_far (p := ⟨gb387, 0, none⟩) (Kd.N_mono HO_7.out (fun k_ hk => (⟨hk, hk.2⟩ : _ ∧ k_ ≠ gb387))) (fun _ hk => hk.2) (.int .i64 t382)) (fun _ hk => hk.2) (.slice Ao51 t383.length co51)) (fun _ hk => ⟨hk.1.1.1.1.1, ⟨hk.1.1.1.1.2, ⟨hk.1.1.1.2, ⟨hk.1.1.2, hk.1.2⟩⟩⟩⟩)))⟩; have n2_ : Aside0 (Kd.V k68 68 w52 w.heap.size (fun k_ => (P0_ k_ ∨ w.heap.size ≤ k_) ∧ some k_ ≠ (u7 : Value).ownBlock ∧ some k_ ≠ (.slice Ao46 y376.length co46 : Value).ownBlock ∧ some k_ ≠ (.slice Ao47 y379.length co47 : Value).ownBlock ∧ some k_ ≠ (.slice Ao51 t383.length co51 : Value).ownBlock ∧ k_ ≠ gb387) (.slice A375_1 ((rd_T70 l0 x9_1).f0.f1).length c375_1) ((rd_T70 l0 x9_1).f0.f1)) := ⟨(by rw [hw]; exact (by (with_reducible repeat (first | apply vA | apply vN | apply vD)); exact vM (vF (p := ⟨gb387, 1, none⟩) (vF (p := ⟨gb387, 0, none⟩) (vM HL375_1.out (fun k_ hk => (⟨hk, hk.2⟩ : _ ∧ k_ ≠ gb387))) (fun _ hk => hk.2) (.int .i64 t382)) (fun _ hk => hk.2) (.slice Ao51 t383.length co51)) (fun _ hk => ⟨hk.1.1.1.1.1.1, ⟨hk.1.1.1.1.1.2, ⟨hk.1.1.1.1.2, ⟨hk.1.1.1.2, ⟨hk.1.1.2, hk.1.2⟩⟩⟩⟩⟩)))⟩; have n3_ : Aside0 (Kd.N k62 62 w52 w.heap.size (fun k_ => (P0_ k_ ∨ w.heap.size ≤ k_) ∧ some k_ ≠ (u7 : Value).ownBlock ∧ some k_ ≠ (.slice Ao47 y379.length co47 : Value).ownBlock ∧ some k_ ≠ (.slice Ao51 t383.length co51 : Value).ownBlock ∧ k_ ≠ gb387) (.slice Ao46 y376.length co46) y376) := ⟨(by rw [hw]; exact (by (with_reducible repeat (first | apply nA | apply nN | apply nD)); exact Kd.N_mono (Kd.N_far (p := ⟨gb387, 1, none⟩) (Kd.N_far (p := ⟨gb387, 0, none⟩) (Kd.N_mono HO378.out (fun k_ hk => (⟨hk, hk.2⟩ : _ ∧ k_ ≠ gb387))) (fun _ hk => hk.2) (.int .i64 t382)) (fun _ hk => hk.2) (.slice Ao51 t383.length co51)) (fun _ hk => ⟨hk.1.1.1.1.1, ⟨hk.1.1.1.1.2, ⟨hk.1.1.1.2, ⟨hk.1.1.2, hk.1.2⟩⟩⟩⟩)))⟩; have n4_ : Aside0 (Kd.R (Kd.int .i64) 2 w52 w.heap.size (fun k_ => (w.heap.size ≤ k_)) (.slice Ao47 y379.length co47) y379) := ⟨(by rw [hw]; exact (by (with_reducible repeat (first | apply Kd.R_alloc | apply Kd.R_drewN | apply Kd.R_drew)); exact Kd.R_mono (Kd.R_far (p := ⟨gb387, 1, none⟩) (Kd.R_far (p := ⟨gb387, 0, none⟩) (Kd.R_types HO381.out BK387.out (by decide)) (fun _ hk => hk.2) (.int .i64 t382)) (fun _ hk => hk.2) (.slice Ao51 t383.length co51)) (fun _ hk => hk.1.1)))⟩; have n5_ : Aside0 (Kd.R k68 68 w52 w.heap.size (fun k_ => (w.heap.size ≤ k_)) (.slice Ao51 t383.length co51) t383) := ⟨(by rw [hw]; exact (by (with_reducible repeat (first | apply Kd.R_alloc | apply Kd.R_drewN | apply Kd.R_drew)); exact Kd.R_mono (Kd.R_far (p := ⟨gb387, 1, none⟩) (Kd.R_far (p := ⟨gb387, 0, none⟩) (Kd.R_types HO385.out BK387.out (by decide)) (fun _ hk => hk.2) (.int .i64 t382)) (fun _ hk => hk.2) (.slice Ao51 t383.length co51)) (fun _ hk => hk.1.1)))⟩; have n6_ : Aside0 (w52.heap[gb387]? = some (.cells #[.int .i64 t382, .slice Ao51 t383.length co51] 62 (0, 0))) := ⟨(by rw [hw]; exact (by refine zM ?_; refine blk_put (cs := #[.int .i64 t382, .slice none 0 0]) ?_ 1 _ rfl; refine zM ?_; refine blk_put (cs := #[.int .i64 0, .slice none 0 0]) ?_ 0 _ rfl; refine zM ?_; exact BK387.out))⟩; have n7_ : Aside0 (Below w.heap.size w w52) := ⟨(by rw [hw]; exact (zo HB))⟩; clear hw HO_0 HO_7 HL375_1 HO378 HO381 HO385 BK387 HB; have HO_0 := n0_; have HO_7 := n1_; have HL375_1 := n2_; have HO378 := n3_; have HO381 := n4_; have HO385 := n5_; have BK387 := n6_; have HB := n7_; clear n0_ n1_ n2_ n3_ n4_ n5_ n6_ n7_; have hcz53_0 : w52.cell? ⟨gb387, 0, none⟩ = some (.int .i64 t382) := (blk_cell BK387.out 0).trans rfl; have hcz53_1 : w52.cell? ⟨gb387, 1, none⟩ = some (.slice Ao51 t383.length co51) := (blk_cell BK387.out 1).trans rfl; have hfz53_0 := blk_frozen BK387.out 0; have hfz53_1 := blk_frozen BK387.out 1) | ((with_reducible refine gate_builtin (b := .append) (xs := #[.tmp 88, .tmp 90]) rfl ?_); (try (refine zG (by rfl) ?_; dsimp only)); at_builtin; refine Kd.N_append k62 (w0 := w) w.heap.size rfl (.tmp 88) (.tmp 90) 54 62 (.agg #[(.int .i64 0), (.slice none 0 0)]) 32 rfl Try.underlying54 info62 rfl (by decide) (by omega) u7 x7_4 (⟨t382, t383⟩ : S62) [.int .i64 t382, .slice Ao51 t383.length co51] (fun k_ => (P0_ k_ ∨ w.heap.size ≤ k_) ∧ some k_ ≠ (.slice Ao46 y376.length co46 : Value).ownBlock ∧ some k_ ≠ (.slice Ao47 y379.length co47 : Value).ownBlock ∧ k_ ≠ gb387) (fun k_ => ((fun k_ => (P0_ k_ ∨ w.heap.size ≤ k_) ∧ some k_ ≠ (.slice Ao46 y376.length co46 : Value).ownBlock ∧ some k_ ≠ (.slice Ao47 y379.length co47 : Value).ownBlock ∧ k_ ≠ gb387)) k_ ∧ some k_ ≠ (u7 : Value).ownBlock) rfl rfl ?aP (fun _ hk => hk) ?aF ?aO ?aB ?aS ?aL ?_; (case aP => exact (k62_mkF _ _ (⟨t382, t383⟩ : S62) (Kd.R_reads' (Kd.R_mono (ok' := (fun k_ => ((fun k_ => (P0_ k_ ∨ w.heap.size ≤ k_) ∧ some k_ ≠ (.slice Ao46 y376.length co46 : Value).ownBlock ∧ some k_ ≠ (.slice Ao47 y379.length co47 : Value).ownBlock ∧ k_ ≠ gb387)) k_ ∧ some k_ ≠ (u7 : Value).ownBlock)) (Kd.R_types (Kd.R_apart' (Kd.R_apart' (Kd.R_apart' (HO385.out) (Kd.N_typed HO378.out) (by decide)) (Kd.R_typed HO381.out) (by decide)) (Kd.N_typed HO_7.out) (by decide)) BK387.out (by decide)) (fun k_ hk => ⟨⟨(.inr (hk.1.1.1.1)), ⟨hk.1.1.1.2, ⟨hk.1.1.2, hk.2⟩⟩⟩, hk.1.2⟩))).2.1 (Kd.R_F (Kd.R_mono (ok' := (fun k_ => ((fun k_ => (P0_ k_ ∨ w.heap.size ≤ k_) ∧ some k_ ≠ (.slice Ao46 y376.length co46 : Value).ownBlock ∧ some k_ ≠ (.slice Ao47 y379.length co47 : Value).ownBlock ∧ k_ ≠ gb387)) k_ ∧ some k_ ≠ (u7 : Value).ownBlock)) (Kd.R_types (Kd.R_apart' (Kd.R_apart' (Kd.R_apart' (HO385.out) (Kd.N_typed HO378.out) (by decide)) (Kd.R_typed HO381.out) (by decide)) (Kd.N_typed HO_7.out) (by decide)) BK387.out (by decide)) (fun k_ hk => ⟨⟨(.inr (hk.1.1.1.1)), ⟨hk.1.1.1.2, ⟨hk.1.1.2, hk.2⟩⟩⟩, hk.1.2⟩))))); (case aB => exact (zo HB)); (case aF => exact (fun k_ hk => ⟨(.inr (Nat.le_trans (below_size (zo HB)) hk)), Kd.fresh' (Kd.N_lt (zn HO378)) k_ hk, Kd.fresh' (Kd.R_lt (zr HO381)) k_ hk, Kd.freshB (g := gb387) (o := .cells #[.int .i64 t382, .slice Ao51 t383.length co51] 62 (0, 0)) (zb BK387) k_ hk⟩)); (case aO => exact (by (with_reducible repeat (first | apply nA | apply nN | apply nD)); exact Kd.N_mono HO_7.out (fun _ hk => ⟨hk.1, ⟨hk.2.1, ⟨hk.2.2.1, hk.2.2.2.2⟩⟩⟩))); (case aS => exact (below_size (zo HB))); (case aL => have := LMc41.out; omega); intro v392 w54 ho hb hg hat; rw [← Ny391.out] at ho; replace HO_0 := zK (Kd.V_afterv (ok := (fun k_ => (P0_ k_ ∨ w.heap.size ≤ k_) ∧ some k_ ≠ (.slice Ao46 y376.length co46 : Value).ownBlock ∧ some k_ ≠ (.slice Ao47 y379.length co47 : Value).ownBlock ∧ some k_ ≠ (.slice Ao51 t383.length co51 : Value).ownBlock ∧ k_ ≠ gb387)) (by (with_reducible repeat (first | apply vA | apply vN | apply vD)); exact vM HO_0.out (fun _ hk => ⟨⟨hk.1, ⟨hk.2.2.1, ⟨hk.2.2.2.1, ⟨hk.2.2.2.2.1, hk.2.2.2.2.2⟩⟩⟩⟩, hk.2.1⟩)) hg hat); replace HL375_1 := zK (Kd.V_afterv (ok := (fun k_ => (P0_ k_ ∨ w.heap.size ≤ k_) ∧ some k_ ≠ (.slice Ao46 y376.length co46 : Value).ownBlock ∧ some k_ ≠ (.slice Ao47 y379.length co47 : Value).ownBlock ∧ some k_ ≠ (.slice Ao51 t383.length co51 : Value).ownBlock ∧ k_ ≠ gb387)) (by (with_reducible repeat (first | apply vA | apply vN | apply vD)); exact vM HL375_1.out (fun _ hk => ⟨⟨hk.1, ⟨hk.2.2.1, ⟨hk.2.2.2.1, ⟨hk.2.2.2.2.1, hk.2.2.2.2.2⟩⟩⟩⟩, hk.2.1⟩)) hg hat); replace HO378 := zK (Kd.N_afterv (ok := (fun k_ => (P0_ k_ ∨ w.heap.size ≤ k_) ∧ some k_ ≠ (.slice Ao47 y379.length co47 : Value).ownBlock ∧ some k_ ≠ (.slice Ao51 t383.length co51 : Value).ownBlock ∧ k_ ≠ gb387)) (by (with_reducible repeat (first | apply nA | apply nN | apply nD)); exact Kd.N_mono HO378.out (fun _ hk => ⟨⟨hk.1, ⟨hk.2.2.1, ⟨hk.2.2.2.1, hk.2.2.2.2⟩⟩⟩, hk.2.1⟩)) hg hat); replace HO381 := zK (Kd.R_over' (zr HO381) (Kd.N_typed (zn HO_7)) (by decide) hg); replace BK387 := zK (blk_grown (g := gb387) (o := .cells #[.int .i64 t382, .slice Ao51 t383.length co51] 62 (0, 0)) (zb BK387) hg (Kd.N_away HO_7.out (fun _ hk => hk.2.2.2.2))); replace HB := zK (hb); have HO393 := zK (ho); clear HO_7 HO385 ho hb hg hat))
                   go_roundg k4
                   case measure => have := HK1.out; have := HJ10.out; have := HJ15.out; have := HK4.out; omega
                   case rel => exact ⟨(y391), (false), (wrap64 (x14_4 + 1)), (by first | rfl | (simp; done) | (simp [*]; done)), (by first | rfl | (simp; done) | (simp [*]; done)), H', ⟨by have := HK1.out; have := HJ10.out; have := HJ15.out; have := HK4.out; omega⟩, ⟨by (with_reducible repeat (first | apply vA | apply vN | apply vD)); exact vM HO_0.out (fun _ hk => ⟨hk.1.1, hk.2⟩)⟩, ⟨by (with_reducible repeat (first | apply nA | apply nN | apply nD)); exact Kd.N_mono HO393.out (fun _ hk => hk.1)⟩, ⟨zo HB⟩⟩
                  ·rw [if_neg c41] at H
                   exact absurd H (by simp)
                ·rw [if_neg c24] at H
                 exact absurd H (by simp)
               ·rw [if_neg c23] at H
                exact absurd H (by simp)
              ·rw [if_neg c22] at H
               have c22b0 : decide (x14_4 ≤ (wrap64 ((wrap64 ((wrap64 (-t372)) - 1)) + t373))) = false := decide_eq_false c22
               clear c22
               have H' := zK H; clear H
               go_wp2
               go_roundg k4
               case measure => have := HK1.out; have := HJ10.out; have := HJ15.out; have := HK4.out; omega
               case rel => exact ⟨(x7_4), (x8_4), (wrap64 (x9_1 + 1)), (by first | rfl | (simp; done) | (simp [*]; done)), (by first | rfl | (simp; done) | (simp [*]; done)), H', ⟨by have := HK1.out; have := HJ10.out; have := HJ15.out; have := HK4.out; omega⟩, ⟨zv HO_0⟩, ⟨zn HO_7⟩, ⟨zo HB⟩⟩
     ·rw [if_neg c9] at H
      exact absurd H (by simp)
    ·rw [if_neg c8] at H
     have c8b0 : decide (x9_1 < (l0.length : Int)) = false := decide_eq_false c8
     clear c8
     by_cases c55 : (x7_1.length : Int) > 1024
     ·rw [if_pos c55] at H
      have c55b0 : decide (1024 < (x7_1.length : Int)) = true := decide_eq_true c55
      have c55b1 : decide (1024 < x7_1.length) = true := decide_eq_true (by omega)
      clear c55
      simp only [Option.some.injEq, Prod.mk.injEq] at H
      obtain ⟨rfl, rfl⟩ := H
      obtain ⟨Ao56, co56, eo56⟩ := Kd.N_slice HO_7.out
      subst eo56
      go_wp2
      go_ret2
      exact ⟨_, by first | rfl | (simp [errW_none, errW_some] <;> rfl) | (simp [*, errW_none, errW_some] <;> rfl), by first | exact Kd.S_nil _ _ _ _ _ | exact Kd.N_nil _ _ _ _ _ | exact Kd.V_nil _ _ _ _ _ | exact Kd.Q_nil _ _ _ _ _ | exact Kd.R_nil _ _ _ _ _, zo HB⟩
     ·rw [if_neg c55] at H
      have c55b0 : decide (1024 < (x7_1.length : Int)) = false := decide_eq_false c55
      have c55b1 : decide (1024 < x7_1.length) = false := decide_eq_false (by omega)
      clear c55
      by_cases c57 : x8_1 = true
      ·subst c57
       have H1 : (some (x7_1, 0)) = some (r1, r2) := by rw [if_pos rfl] at H; exact H
       clear H; have H := H1; clear H1
       simp only [Option.some.injEq, Prod.mk.injEq] at H
       obtain ⟨rfl, rfl⟩ := H
       obtain ⟨Ao58, co58, eo58⟩ := Kd.N_slice HO_7.out
       subst eo58
       go_wp2
       go_ret2
       exact ⟨_, by first | rfl | (simp [errW_none, errW_some] <;> rfl) | (simp [*, errW_none, errW_some] <;> rfl), by (with_reducible repeat (first | apply nA | apply nN | apply nD)); exact HO_7.out, zo HB⟩
      ·replace c57 := Bool.eq_false_iff.mpr c57
       subst c57
       have H1 : (some (([] : List (S62)), 5)) = some (r1, r2) := by rw [if_neg (show ¬ (false = true) by decide)] at H; exact H
       clear H; have H := H1; clear H1
       simp only [Option.some.injEq, Prod.mk.injEq] at H
       obtain ⟨rfl, rfl⟩ := H
       obtain ⟨Ao59, co59, eo59⟩ := Kd.N_slice HO_7.out
       subst eo59
       go_wp2
       go_ret2
       exact ⟨_, by first | rfl | (simp [errW_none, errW_some] <;> rfl) | (simp [*, errW_none, errW_some] <;> rfl), by first | exact Kd.S_nil _ _ _ _ _ | exact Kd.N_nil _ _ _ _ _ | exact Kd.V_nil _ _ _ _ _ | exact Kd.Q_nil _ _ _ _ _ | exact Kd.R_nil _ _ _ _ _, zo HB⟩
 ·replace c4 := Bool.eq_false_iff.mpr c4
  subst c4
  have H1 : (some (([] : List (S62)), 1)) = some (r1, r2) := by rw [if_neg (show ¬ (false = true) by decide)] at H; exact H
  clear H; have H := H1; clear H1
  simp only [Option.some.injEq, Prod.mk.injEq] at H
  obtain ⟨rfl, rfl⟩ := H
  go_enter Try.func32, Try.ntmps32
  go_wp2_with (first | ((with_reducible refine zC (f := 40) rfl ?_); refine goesL_ (some 19) rfl rfl Try.func40 (by kernel_rfl) rfl #[.slice A0 l0.length c0, .int .i64 a1] rfl (by (try simp only [List.map_toArray, List.map_cons, List.map_nil]); first | done | rfl | (simp only [List.length_drop, List.length_take]; rfl)) ?_; (with_reducible refine (sequiturref30_Right.calls k _ _ l0 a1 false _ ?side1 ?side2 A3.out).mono ?_); (case side1 => repeat (first | exact (Kd.V_reads' HO0.out).2.2 | (with_reducible refine cA ?_ _) | (with_reducible refine cN ?_ _) | (with_reducible refine cD ?_))); (case side2 => exact (Kd.V_reads' HO0.out).2.1); rintro e w60 ⟨rfl, hb⟩; refine ⟨_, rfl, ?_⟩; replace HO0 := zK (Kd.V_below (zv HO0) hb); replace HB := zK (below_step (zo HB) hb); (try clear hb); (try clear hb2); (try clear hk); (try clear hi)))
  go_ret2
  exact ⟨_, by first | rfl | (simp [errW_none, errW_some] <;> rfl) | (simp [*, errW_none, errW_some] <;> rfl), by first | exact Kd.S_nil _ _ _ _ _ | exact Kd.N_nil _ _ _ _ _ | exact Kd.V_nil _ _ _ _ _ | exact Kd.Q_nil _ _ _ _ _ | exact Kd.R_nil _ _ _ _ _, zo HB⟩

/-! ### sequiturbase_Monos: function 95 -/
def sequiturbase_Monos.l0 : Nat → List (S68) → List (S68) → Int → Option (Bool)
 | 0, _, _, _ => none
 | k + 1, x0, x1, x5 => if x5 < (x0.length : Int) then (if 0 ≤ x5 then (if x5 < (x1.length : Int) then (if (!(((rd_T68 x0 x5).f0) == ((rd_T68 x1 x5).f0)) || (!(((rd_T68 x0 x5).f1) == ((rd_T68 x1 x5).f1)))) = true then (some false) else (sequiturbase_Monos.l0 k x0 x1 (wrap64 (x5 + 1)))) else (none)) else (none)) else (some true)
def sequiturbase_Monos.f (k : Nat) (l0 : List (S68)) (l1 : List (S68)) : Option (Bool) := if (l0.length : Int) = (l1.length : Int) then (sequiturbase_Monos.l0 k l0 l1 0) else (some false)
theorem sequiturbase_Monos.mono_l : ∀ k, (∀ y0 y1 y2, LeO (sequiturbase_Monos.l0 k y0 y1 y2) (sequiturbase_Monos.l0 (k + 1) y0 y1 y2))
 | 0 => fun _ _ _ r h => by simp [sequiturbase_Monos.l0] at h
 | k + 1 => by
  have ih0 := sequiturbase_Monos.mono_l k
  ·intro y0 y1 y2
   unfold sequiturbase_Monos.l0
   repeat' first
   | (with_reducible exact ih0 _ _ _)
   | (with_reducible exact LeO.refl _)
   | (with_reducible exact LeO.none _)
   | (with_reducible refine LeO.ite ?_ ?_)
   | (with_reducible refine LeO.bind ?_ (fun _ => ?_))
   | exact ih0 _ _ _
   | exact LeO.none _
   | refine LeO.ite ?_ ?_
   | refine LeO.bind ?_ (fun _ => ?_)
theorem sequiturbase_Monos.mono : ∀ a0 a1 k, LeO (sequiturbase_Monos.f k a0 a1) (sequiturbase_Monos.f (k + 1) a0 a1) := by
 intro a0 a1 k
 have ih0 := sequiturbase_Monos.mono_l k
 unfold sequiturbase_Monos.f
 repeat' first
   | (with_reducible exact ih0 _ _ _)
   | (with_reducible exact LeO.refl _)
   | (with_reducible exact LeO.none _)
   | (with_reducible refine LeO.ite ?_ ?_)
   | (with_reducible refine LeO.bind ?_ (fun _ => ?_))
   | exact ih0 _ _ _
   | exact LeO.none _
   | refine LeO.ite ?_ ?_
   | refine LeO.bind ?_ (fun _ => ?_)
set_option maxHeartbeats 8000000 in
set_option maxRecDepth 100000 in
theorem sequiturbase_Monos.calls (k : Nat) (A0 : Option Addr) (c0 : Nat) (l0 : List (S68)) (A1 : Option Addr) (c1 : Nat) (l1 : List (S68)) (r : Bool) (w : World) (hr0 : Kd.C k68 w A0 l0.length l0) (hc0 : l0.length ≤ c0) (hr1 : Kd.C k68 w A1 l1.length l1) (hc1 : l1.length ≤ c1) (h : sequiturbase_Monos.f k l0 l1 = some r) :
  Calls Try.prog 95 #[.slice A0 l0.length c0, .slice A1 l1.length c1] w fun e w' => e = .returned (.bool r) ∧ Drawn0 w w' := by
 have hu68 := Try.underlying68
 have HR0 := zK hr0
 have HC0 := zK hc0; clear hr0 hc0
 have HR1 := zK hr1
 have HC1 := zK hc1; clear hr1 hc1
 have H : (if (l0.length : Int) = (l1.length : Int) then (sequiturbase_Monos.l0 k l0 l1 0) else (some false)) = some r := h
 clear h
 by_cases c3 : (l0.length : Int) = (l1.length : Int)
 ·rw [if_pos c3] at H
  have c3b0 : ((l0.length : Int) == (l1.length : Int)) = true := beq_iff_eq.mpr c3
  have c3b1 : ((l0.length : Int) != (l1.length : Int)) = false := bne_eq_false_iff_eq.mpr c3
  have c3b2 : (l0.length == l1.length) = true := by first | simpa using c3 | (simp at c3 ⊢; omega)
  clear c3
  have H' := zK H; clear H
  go_enter Try.func95, Try.ntmps95
  go_wp2
  repeat (go_quiet (fail); try go_wp2)
  go_loopg [5] k (fun kq v5 w' => ∃ (x5_1 : Int), v5 = .int .i64 x5_1 ∧ Aside0 (sequiturbase_Monos.l0 kq l0 l1 x5_1 = some r) ∧ Aside0 (kq ≤ k) ∧ Drawn0 w w')
  case atStart => exact ⟨(0), (by first | rfl | (simp; done) | (simp [*]; done)), H', ⟨Nat.le_refl _⟩, by repeat (first | exact Drawn0.refl _ | apply Drawn0.step)⟩
  case round =>
   clear H'; try clear c1; try clear p2; try clear c3; try clear c3b0; try clear c3b1; try clear c3b2
   obtain ⟨x5_1, rfl, HA, HK1, ⟨m1, rfl⟩⟩ := hrel
   cases gk with
   | zero => exact absurd HA.out (by simp [sequiturbase_Monos.l0])
   | succ k1 =>
    have H := HA.out; clear HA
    simp only [sequiturbase_Monos.l0] at H
    by_cases c4 : x5_1 < (l0.length : Int)
    ·rw [if_pos c4] at H
     have c4b0 : decide (x5_1 < (l0.length : Int)) = true := decide_eq_true c4
     clear c4
     by_cases c5 : 0 ≤ x5_1
     ·rw [if_pos c5] at H
      have c5b0 : decide (0 ≤ x5_1) = true := decide_eq_true c5; clear c5
      by_cases c6 : x5_1 < (l1.length : Int)
      ·rw [if_pos c6] at H
       have c6b0 : decide (x5_1 < (l1.length : Int)) = true := decide_eq_true c6
       clear c6
       by_cases c7 : (!(((rd_T68 l0 x5_1).f0) == ((rd_T68 l1 x5_1).f0)) || (!(((rd_T68 l0 x5_1).f1) == ((rd_T68 l1 x5_1).f1)))) = true
       ·rw [if_pos c7] at H
        have c7b0 : (!(((rd_T68 l0 x5_1).f0) == ((rd_T68 l1 x5_1).f0)) || (!(((rd_T68 l0 x5_1).f1) == ((rd_T68 l1 x5_1).f1)))) = true := c7
        clear c7
        obtain rfl := Option.some.inj H
        have p394 : 0 ≤ (x5_1 : Int) := of_decide_eq_true (by first | (with_reducible assumption) | assumption)
        have q394 : x5_1 < (l0.length : Int) := of_decide_eq_true (by first | (with_reducible assumption) | assumption)
        obtain ⟨ad394, e394, hx394_0, hx394_1⟩ := at_T68 HR0.out x5_1 p394 q394
        cases e394
        replace p394 := eq_true p394
        replace q394 := eq_true q394
        have p395 : 0 ≤ (x5_1 : Int) := of_decide_eq_true (by first | (with_reducible assumption) | assumption)
        have q395 : x5_1 < (l1.length : Int) := of_decide_eq_true (by first | (with_reducible assumption) | assumption)
        obtain ⟨ad395, e395, hx395_0, hx395_1⟩ := at_T68 HR1.out x5_1 p395 q395
        cases e395
        replace p395 := eq_true p395
        replace q395 := eq_true q395
        go_wp2
        repeat (go_quiet (fail); try go_wp2)
        go_ret
        exact ⟨by first | rfl | (simp; done) | (simp [*]; done), by repeat (first | exact Drawn0.refl _ | apply Drawn0.step)⟩
       ·rw [if_neg c7] at H
        have c7b0 : (!(((rd_T68 l0 x5_1).f0) == ((rd_T68 l1 x5_1).f0)) || (!(((rd_T68 l0 x5_1).f1) == ((rd_T68 l1 x5_1).f1)))) = false := by simpa using c7
        clear c7
        have H' := zK H; clear H
        have p394 : 0 ≤ (x5_1 : Int) := of_decide_eq_true (by first | (with_reducible assumption) | assumption)
        have q394 : x5_1 < (l0.length : Int) := of_decide_eq_true (by first | (with_reducible assumption) | assumption)
        obtain ⟨ad394, e394, hx394_0, hx394_1⟩ := at_T68 HR0.out x5_1 p394 q394
        cases e394
        replace p394 := eq_true p394
        replace q394 := eq_true q394
        have p395 : 0 ≤ (x5_1 : Int) := of_decide_eq_true (by first | (with_reducible assumption) | assumption)
        have q395 : x5_1 < (l1.length : Int) := of_decide_eq_true (by first | (with_reducible assumption) | assumption)
        obtain ⟨ad395, e395, hx395_0, hx395_1⟩ := at_T68 HR1.out x5_1 p395 q395
        cases e395
        replace p395 := eq_true p395
        replace q395 := eq_true q395
        go_wp2
        repeat (go_quiet (fail); try go_wp2)
        go_roundg k1
        case measure => have := HK1.out; omega
        case rel => exact ⟨(wrap64 (x5_1 + 1)), (by first | rfl | (simp; done) | (simp [*]; done)), H', ⟨by have := HK1.out; omega⟩, by repeat (first | exact Drawn0.refl _ | apply Drawn0.step)⟩
      ·rw [if_neg c6] at H
       exact absurd H (by simp)
     ·rw [if_neg c5] at H
      exact absurd H (by simp)
    ·rw [if_neg c4] at H
     have c4b0 : decide (x5_1 < (l0.length : Int)) = false := decide_eq_false c4
     clear c4
     obtain rfl := Option.some.inj H
     go_wp2
     repeat (go_quiet (fail); try go_wp2)
     go_ret
     exact ⟨by first | rfl | (simp; done) | (simp [*]; done), by repeat (first | exact Drawn0.refl _ | apply Drawn0.step)⟩
 ·rw [if_neg c3] at H
  have c3b0 : ((l0.length : Int) == (l1.length : Int)) = false := beq_eq_false_iff_ne.mpr c3
  have c3b1 : ((l0.length : Int) != (l1.length : Int)) = true := bne_iff_ne.mpr c3
  have c3b2 : (l0.length == l1.length) = false := by first | simpa using c3 | (simp at c3 ⊢; omega)
  obtain rfl := Option.some.inj H
  go_enter Try.func95, Try.ntmps95
  go_wp2
  repeat (go_quiet (fail); try go_wp2)
  go_ret
  exact ⟨by first | rfl | (simp; done) | (simp [*]; done), by repeat (first | exact Drawn0.refl _ | apply Drawn0.step)⟩

/-! ### sequiturbase_Lin: function 69 -/
def sequiturbase_Lin.f (k : Nat) (a0_0 : Int) (l0_1 : List (S68)) (a1_0 : Int) (l1_1 : List (S68)) : Option (Bool) := if a0_0 = a1_0 then ((sequiturbase_Monos.f k l0_1 l1_1).bind fun t398 => (some t398)) else (some false)
theorem sequiturbase_Lin.mono : ∀ a0 a1 a2 a3 k, LeO (sequiturbase_Lin.f k a0 a1 a2 a3) (sequiturbase_Lin.f (k + 1) a0 a1 a2 a3) := by
 intro a0 a1 a2 a3 k
 unfold sequiturbase_Lin.f
 repeat' first
   | (with_reducible exact sequiturbase_Monos.mono _ _ _)
   | (with_reducible exact LeO.refl _)
   | (with_reducible exact LeO.none _)
   | (with_reducible refine LeO.ite ?_ ?_)
   | (with_reducible refine LeO.bind ?_ (fun _ => ?_))
   | exact sequiturbase_Monos.mono _ _ _
   | exact LeO.none _
   | refine LeO.ite ?_ ?_
   | refine LeO.bind ?_ (fun _ => ?_)
set_option maxHeartbeats 8000000 in
set_option maxRecDepth 100000 in
theorem sequiturbase_Lin.calls (k : Nat) (a0_0 : Int) (A0_1 : Option Addr) (c0_1 : Nat) (l0_1 : List (S68)) (a1_0 : Int) (A1_1 : Option Addr) (c1_1 : Nat) (l1_1 : List (S68)) (r : Bool) (w : World) (hr0_1 : Kd.C k68 w A0_1 l0_1.length l0_1) (hc0_1 : l0_1.length ≤ c0_1) (hr1_1 : Kd.C k68 w A1_1 l1_1.length l1_1) (hc1_1 : l1_1.length ≤ c1_1) (h : sequiturbase_Lin.f k a0_0 l0_1 a1_0 l1_1 = some r) :
  Calls Try.prog 69 #[.agg #[.int .i64 a0_0, .slice A0_1 l0_1.length c0_1], .agg #[.int .i64 a1_0, .slice A1_1 l1_1.length c1_1]] w fun e w' => e = .returned (.bool r) ∧ Below w.heap.size w w' := by
 have hu62 := Try.underlying62
 have HR0_1 := zK hr0_1
 have HC0_1 := zK hc0_1; clear hr0_1 hc0_1
 have HR1_1 := zK hr1_1
 have HC1_1 := zK hc1_1; clear hr1_1 hc1_1
 have HB := zK (Below.refl w.heap.size w)
 have H : (if a0_0 = a1_0 then ((sequiturbase_Monos.f k l0_1 l1_1).bind fun t398 => (some t398)) else (some false)) = some r := h
 clear h
 by_cases c3 : a0_0 = a1_0
 ·rw [if_pos c3] at H
  have c3b0 : (a0_0 == a1_0) = true := beq_iff_eq.mpr c3
  have c3b1 : (a0_0 != a1_0) = false := bne_eq_false_iff_eq.mpr c3; clear c3
  replace H := Option.bind_eq_some_iff.mp H
  obtain ⟨t398, A40, H⟩ := H; replace H : (some t398) = some r := H
  have A4 := zK A40; clear A40
  obtain rfl := Option.some.inj H
  go_enter Try.func69, Try.ntmps69
  go_wp2_with (first | ((with_reducible refine gate_dst (N := 2) rfl ?_); refine box_event ?hg (N := 2) ?hd (cs := #[.int .i64 a0_0, .slice A0_1 l0_1.length c0_1]) (t := 62) ?hr ?_; (case hd => rfl); (case hg => rfl); (case hr => first | (go_simp; done) | (go_simp; rfl)); intro gb396 hg w5 hbox hb; have BK396 := zK (hbox); have GW396 := zK ((by rw [hg]; exact (below_size (zo HB)) : w.heap.size ≤ gb396)); have GE396 := zK ((by rw [hg]; exact (below_size (zo HB)) : w.heap.size ≤ gb396)); replace HB := zK (below_step (zo HB) hb); clear hb hbox hg) | ((with_reducible refine gate_dst (N := 3) rfl ?_); refine box_event ?hg (N := 3) ?hd (cs := #[.int .i64 a1_0, .slice A1_1 l1_1.length c1_1]) (t := 62) ?hr ?_; (case hd => rfl); (case hg => rfl); (case hr => first | (go_simp; done) | (go_simp; rfl)); intro gb397 hg w6 hbox hb; have BK397 := zK (hbox); have GW397 := zK ((by rw [hg]; exact (below_size (zo HB)) : w.heap.size ≤ gb397)); have GE397 := zK ((by rw [hg]; exact (below_size (zo HB)) : w.heap.size ≤ gb397)); replace HB := zK (below_step (zo HB) hb); have NB396_397 := zK ((by rw [hg]; exact Nat.ne_of_lt (blk_lt (g := gb396) (o := .cells #[.int .i64 a0_0, .slice A0_1 l0_1.length c0_1] 62 (0, 0)) (zb BK396)) : gb396 ≠ gb397)); have NB397_396 := zK ((by rw [hg]; exact Nat.ne_of_gt (blk_lt (g := gb396) (o := .cells #[.int .i64 a0_0, .slice A0_1 l0_1.length c0_1] 62 (0, 0)) (zb BK396)) : gb397 ≠ gb396)); replace BK396 := zK (blk_below (g := gb396) (o := .cells #[.int .i64 a0_0, .slice A0_1 l0_1.length c0_1] 62 (0, 0)) (zb BK396) hb); clear hb hbox hg; have hnb7 := NB396_397.out; have hnc7 := NB397_396.out; have hcz8_0 : w6.cell? ⟨gb396, 0, none⟩ = some (.int .i64 a0_0) := (blk_cell BK396.out 0).trans rfl; have hcz8_1 : w6.cell? ⟨gb396, 1, none⟩ = some (.slice A0_1 l0_1.length c0_1) := (blk_cell BK396.out 1).trans rfl; have hfz8_0 := blk_frozen BK396.out 0; have hfz8_1 := blk_frozen BK396.out 1; have hcz9_0 : w6.cell? ⟨gb397, 0, none⟩ = some (.int .i64 a1_0) := (blk_cell BK397.out 0).trans rfl; have hcz9_1 : w6.cell? ⟨gb397, 1, none⟩ = some (.slice A1_1 l1_1.length c1_1) := (blk_cell BK397.out 1).trans rfl; have hfz9_0 := blk_frozen BK397.out 0; have hfz9_1 := blk_frozen BK397.out 1) | (go_at_call 95; (with_reducible refine (sequiturbase_Monos.calls k _ _ l0_1 _ _ l1_1 t398 _ ?side1 ?side2 ?side3 ?side4 A4.out).mono ?_); (case side1 => repeat (first | exact (Kd.C_below HR0_1.out HB.out) | (with_reducible refine cA ?_ _) | (with_reducible refine cN ?_ _) | (with_reducible refine cD ?_))); (case side2 => exact HC0_1.out); (case side3 => repeat (first | exact (Kd.C_below HR1_1.out HB.out) | (with_reducible refine cA ?_ _) | (with_reducible refine cN ?_ _) | (with_reducible refine cD ?_))); (case side4 => exact HC1_1.out); rintro e w' ⟨rfl, ⟨nd, rfl⟩⟩))
  go_ret
  exact ⟨by first | rfl | (simp [errW_none, errW_some] <;> rfl) | (simp [*, errW_none, errW_some] <;> rfl), zo HB⟩
 ·rw [if_neg c3] at H
  have c3b0 : (a0_0 == a1_0) = false := beq_eq_false_iff_ne.mpr c3
  have c3b1 : (a0_0 != a1_0) = true := bne_iff_ne.mpr c3
  obtain rfl := Option.some.inj H
  go_enter Try.func69, Try.ntmps69
  go_wp2_with (first | ((with_reducible refine gate_dst (N := 2) rfl ?_); refine box_event ?hg (N := 2) ?hd (cs := #[.int .i64 a0_0, .slice A0_1 l0_1.length c0_1]) (t := 62) ?hr ?_; (case hd => rfl); (case hg => rfl); (case hr => first | (go_simp; done) | (go_simp; rfl)); intro gb396 hg w10 hbox hb; have BK396 := zK (hbox); have GW396 := zK ((by rw [hg]; exact (below_size (zo HB)) : w.heap.size ≤ gb396)); have GE396 := zK ((by rw [hg]; exact (below_size (zo HB)) : w.heap.size ≤ gb396)); replace HB := zK (below_step (zo HB) hb); clear hb hbox hg) | ((with_reducible refine gate_dst (N := 3) rfl ?_); refine box_event ?hg (N := 3) ?hd (cs := #[.int .i64 a1_0, .slice A1_1 l1_1.length c1_1]) (t := 62) ?hr ?_; (case hd => rfl); (case hg => rfl); (case hr => first | (go_simp; done) | (go_simp; rfl)); intro gb397 hg w11 hbox hb; have BK397 := zK (hbox); have GW397 := zK ((by rw [hg]; exact (below_size (zo HB)) : w.heap.size ≤ gb397)); have GE397 := zK ((by rw [hg]; exact (below_size (zo HB)) : w.heap.size ≤ gb397)); replace HB := zK (below_step (zo HB) hb); have NB396_397 := zK ((by rw [hg]; exact Nat.ne_of_lt (blk_lt (g := gb396) (o := .cells #[.int .i64 a0_0, .slice A0_1 l0_1.length c0_1] 62 (0, 0)) (zb BK396)) : gb396 ≠ gb397)); have NB397_396 := zK ((by rw [hg]; exact Nat.ne_of_gt (blk_lt (g := gb396) (o := .cells #[.int .i64 a0_0, .slice A0_1 l0_1.length c0_1] 62 (0, 0)) (zb BK396)) : gb397 ≠ gb396)); replace BK396 := zK (blk_below (g := gb396) (o := .cells #[.int .i64 a0_0, .slice A0_1 l0_1.length c0_1] 62 (0, 0)) (zb BK396) hb); clear hb hbox hg; have hnb12 := NB396_397.out; have hnc12 := NB397_396.out; have hcz13_0 : w11.cell? ⟨gb396, 0, none⟩ = some (.int .i64 a0_0) := (blk_cell BK396.out 0).trans rfl; have hcz13_1 : w11.cell? ⟨gb396, 1, none⟩ = some (.slice A0_1 l0_1.length c0_1) := (blk_cell BK396.out 1).trans rfl; have hfz13_0 := blk_frozen BK396.out 0; have hfz13_1 := blk_frozen BK396.out 1; have hcz14_0 : w11.cell? ⟨gb397, 0, none⟩ = some (.int .i64 a1_0) := (blk_cell BK397.out 0).trans rfl; have hcz14_1 : w11.cell? ⟨gb397, 1, none⟩ = some (.slice A1_1 l1_1.length c1_1) := (blk_cell BK397.out 1).trans rfl; have hfz14_0 := blk_frozen BK397.out 0; have hfz14_1 := blk_frozen BK397.out 1))
  go_ret
  exact ⟨by first | rfl | (simp [errW_none, errW_some] <;> rfl) | (simp [*, errW_none, errW_some] <;> rfl), zo HB⟩

end Go.Proofs.Ytkfbfgkdabljiaa.PShadowSplits
