/- What the call of each function that the law reaches comes to: it answers as the plain function of the same name does, wherever that one answers; and the law itself out of its plain form. Written by a program of this session (an extended copy of the printer); no condition but what stands in each theorem. -/
import Derived.Test.YtkfbfgkdabljiaaPShadowSplitsx0
import Derived.Test.YtkfbfgkdabljiaaPShadowSplitsx2
import Derived.Test.YtkfbfgkdabljiaaPShadowSplitsx3
import Derived.Test.YtkfbfgkdabljiaaPShadowSplitsx4
namespace Go.Proofs.Ytkfbfgkdabljiaa.PShadowSplits
open Go.RowKit Go.Proofs.YtkfbfgkdabljiaaW.PrintWords Go.Proofs.YtkfbfgkdabljiaaW.PrintLast Go.Proofs.YtkfbfgkdabljiaaW.PrintMore
open Go.Proofs.YtkfbfgkdabljiaaW.PrintWords renaming blk_drewN → zN, blk_drew → zD, blk_alloc → zA, below_alloc → yA, pw_below_drewN → yN, below_drew1 → yD, below_set → yS, gate_callee → zC
open Go.Proofs.YtkfbfgkdabljiaaW.PrintWords.Kd renaming V_alloc → vA, V_drewN → vN, V_drew → vD, N_alloc → nA, N_drewN → nN, N_drew → nD, C_alloc → cA, C_drewN → cN, C_drew → cD, V_mono → vM, V_far → vF
open Go.Proofs.YtkfbfgkdabljiaaW.PrintWords.Aside0 renaming mk → zK
open Bool renaming true → T_, false → F_
open List renaming setIfInBounds_toArray → zt, set_cons_zero → zz, set_cons_succ → zs
attribute [local go_sem] max2_int min2_int max_two min_two max_three min_three max_four min_four   -- for this text's walks alone
set_option linter.unusedVariables false
set_option linter.unusedSimpArgs false

theorem cellA5 {W : World} {a : Addr} {n m g j : Nat} {u v : Value} (hne : (a.add m).block ≠ g) (h : W.cell? (a.add n) = some v) : (W.setCell ⟨g, j, none⟩ u).cell? (a.add n) = some v :=
  (cell_far (p := ⟨g, j, none⟩) (by show (Addr.add _ _).block ≠ _; rw [add_block] at hne ⊢; exact hne) u).trans h
theorem cellB5 {W : World} {a : Addr} {n m g j o : Nat} {u v : Value} (hne : (a.add m).block ≠ g) (h : W.cell? ⟨(a.add n).block, o, none⟩ = some v) : (W.setCell ⟨g, j, none⟩ u).cell? ⟨(a.add n).block, o, none⟩ = some v :=
  (cell_far (p := ⟨g, j, none⟩) (by show (Addr.add _ _).block ≠ _; rw [add_block] at hne ⊢; exact hne) u).trans h
theorem V_apart5 {α : Type} {d : Kd α} {e base g n c : Nat} {ok : Nat → Prop} {W : World} {xs : List α} {ad a : Addr} {v : Value} {x : Int} (h : Kd.V d e W base ok (.slice (some ad) n c) xs) (hc : W.cell? a = some v)
    (hat : ∀ W', Kd.V d e W' base ok (.slice (some ad) n c) xs → W'.cell? a = some (.int .i64 x)) (hok : ∀ k, ok k → k ≠ g) : a.block ≠ g := by
  intro he
  have h2 := Kd.V_far h (p := a) (fun k hk => by rw [he]; exact hok k hk) (.bool true)
  have h3 := hat _ h2
  rw [World.cell?_setCell_same _ _ _ hc] at h3
  injection h3 with h3
  cases h3
/-! ### shadow_all: function 39 -/
mutual
def shadow_all.l0 : Nat → List (S70) → Int → Bool → List Int → List Int → List (S72) → List Int → Int → Int → Option ((List (S72)) × Int)
 | 0, _, _, _, _, _, _, _, _, _ => none
 | k + 1, x0, x1, x2, x10, x11, x12, x42, x43, x44 => if x44 < x43 then (if 0 ≤ x44 then (if x44 < (x42.length : Int) then (if 0 ≤ (rd x42 x44) then (if (rd x42 x44) < (x0.length : Int) then (if x12.length < 2513169434916 then (shadow_all.l0 k x0 x1 x2 x10 x11 (x12 ++ [(⟨(⟨(⟨(rd_T70 x0 (rd x42 x44)).f0.f0, (rd_T70 x0 (rd x42 x44)).f0.f1⟩ : S62), (rd_T70 x0 (rd x42 x44)).f1⟩ : S70), rd x42 x44, rd x42 x44⟩ : S72)]) x42 x43 (wrap64 (x44 + 1))) else (none)) else (none)) else (none)) else (none)) else (none)) else (shadow_all.l1 k x0 x1 x2 x11 x12 x10 (x10.length : Int) 0)
def shadow_all.l1 : Nat → List (S70) → Int → Bool → List Int → List (S72) → List Int → Int → Int → Option ((List (S72)) × Int)
 | 0, _, _, _, _, _, _, _, _ => none
 | k + 1, x0, x1, x2, x11, x12, x59, x60, x61 => if x61 < x60 then (if 0 ≤ x61 then (if x61 < (x59.length : Int) then (shadow_all.l2 k x0 x1 x2 x11 x12 (rd x59 x61) x59 x60 x61 x11 (x11.length : Int) 0) else (none)) else (none)) else (some (x12, 0))
def shadow_all.l2 : Nat → List (S70) → Int → Bool → List Int → List (S72) → Int → List Int → Int → Int → List Int → Int → Int → Option ((List (S72)) × Int)
 | 0, _, _, _, _, _, _, _, _, _, _, _, _ => none
 | k + 1, x0, x1, x2, x11, x12, x16, x59, x60, x61, x65, x66, x67 => if x67 < x66 then (if 0 ≤ x67 then (if x67 < (x65.length : Int) then (if 0 ≤ x16 then (if x16 < (x0.length : Int) then (if 0 ≤ (rd x65 x67) then (if (rd x65 x67) < (x0.length : Int) then ((shadow_shade.f k ((rd_T70 x0 x16).f0.f0) ((rd_T70 x0 x16).f0.f1) ((rd_T70 x0 (rd x65 x67)).f0.f0) ((rd_T70 x0 (rd x65 x67)).f0.f1) x1 x2).bind fun bt165 => (if bt165.2.2 = true then (if x12.length < 2513169434916 then (shadow_all.l2 k x0 x1 x2 x11 (x12 ++ [(⟨(⟨(⟨bt165.1, bt165.2.1⟩ : S62), false⟩ : S70), x16, rd x65 x67⟩ : S72)]) x16 x59 x60 x61 x65 x66 (wrap64 (x67 + 1))) else (none)) else (some (([] : List (S72)), 5)))) else (none)) else (none)) else (none)) else (none)) else (none)) else (none)) else (shadow_all.l1 k x0 x1 x2 x11 x12 x59 x60 (wrap64 (x61 + 1)))
end
def shadow_all.f (k : Nat) (l0 : List (S70)) (a1 : Int) (a2 : Bool) : Option ((List (S72)) × Int) := (shadow_wrong.f k l0 a1).bind fun t144 => (if t144 = true then (some (([] : List (S72)), 1)) else ((shadow_bounds_1.f k 0 l0 a1).bind fun t147 => ((shadow_bounds_1.f k (-1) l0 a1).bind fun t150 => ((shadow_bounds_1.f k 1 l0 a1).bind fun t153 => (if (wrap64 ((t147.length : Int) + (wrap64 ((t150.length : Int) * (t153.length : Int))))) > 1024 then (some (([] : List (S72)), 2)) else (shadow_all.l0 k l0 a1 a2 t150 t153 ([] : List (S72)) t147 (t147.length : Int) 0))))))
theorem shadow_all.mono_l : ∀ k, (∀ y0 y1 y2 y3 y4 y5 y6 y7 y8, LeO (shadow_all.l0 k y0 y1 y2 y3 y4 y5 y6 y7 y8) (shadow_all.l0 (k + 1) y0 y1 y2 y3 y4 y5 y6 y7 y8)) ∧ (∀ y0 y1 y2 y3 y4 y5 y6 y7, LeO (shadow_all.l1 k y0 y1 y2 y3 y4 y5 y6 y7) (shadow_all.l1 (k + 1) y0 y1 y2 y3 y4 y5 y6 y7)) ∧ (∀ y0 y1 y2 y3 y4 y5 y6 y7 y8 y9 y10 y11, LeO (shadow_all.l2 k y0 y1 y2 y3 y4 y5 y6 y7 y8 y9 y10 y11) (shadow_all.l2 (k + 1) y0 y1 y2 y3 y4 y5 y6 y7 y8 y9 y10 y11))
 | 0 => ⟨fun _ _ _ _ _ _ _ _ _ r h => by simp [shadow_all.l0] at h, fun _ _ _ _ _ _ _ _ r h => by simp [shadow_all.l1] at h, fun _ _ _ _ _ _ _ _ _ _ _ _ r h => by simp [shadow_all.l2] at h⟩
 | k + 1 => by
  obtain ⟨ih0, ih1, ih2⟩ := shadow_all.mono_l k
  refine ⟨?_, ?_, ?_⟩
  ·intro y0 y1 y2 y3 y4 y5 y6 y7 y8
   unfold shadow_all.l0
   repeat' first
   | (with_reducible exact ih0 _ _ _ _ _ _ _ _ _)
   | (with_reducible exact ih1 _ _ _ _ _ _ _ _)
   | (with_reducible exact ih2 _ _ _ _ _ _ _ _ _ _ _ _)
   | (with_reducible exact shadow_bounds_1.mono _ _ _ _)
   | (with_reducible exact shadow_shade.mono _ _ _ _ _ _ _)
   | (with_reducible exact shadow_wrong.mono _ _ _)
   | (with_reducible exact LeO.refl _)
   | (with_reducible exact LeO.none _)
   | (with_reducible refine LeO.ite ?_ ?_)
   | (with_reducible refine LeO.bind ?_ (fun _ => ?_))
   | exact ih0 _ _ _ _ _ _ _ _ _
   | exact ih1 _ _ _ _ _ _ _ _
   | exact ih2 _ _ _ _ _ _ _ _ _ _ _ _
   | exact shadow_bounds_1.mono _ _ _ _
   | exact shadow_shade.mono _ _ _ _ _ _ _
   | exact shadow_wrong.mono _ _ _
   | exact LeO.none _
   | refine LeO.ite ?_ ?_
   | refine LeO.bind ?_ (fun _ => ?_)
  ·intro y0 y1 y2 y3 y4 y5 y6 y7
   unfold shadow_all.l1
   repeat' first
   | (with_reducible exact ih0 _ _ _ _ _ _ _ _ _)
   | (with_reducible exact ih1 _ _ _ _ _ _ _ _)
   | (with_reducible exact ih2 _ _ _ _ _ _ _ _ _ _ _ _)
   | (with_reducible exact shadow_bounds_1.mono _ _ _ _)
   | (with_reducible exact shadow_shade.mono _ _ _ _ _ _ _)
   | (with_reducible exact shadow_wrong.mono _ _ _)
   | (with_reducible exact LeO.refl _)
   | (with_reducible exact LeO.none _)
   | (with_reducible refine LeO.ite ?_ ?_)
   | (with_reducible refine LeO.bind ?_ (fun _ => ?_))
   | exact ih0 _ _ _ _ _ _ _ _ _
   | exact ih1 _ _ _ _ _ _ _ _
   | exact ih2 _ _ _ _ _ _ _ _ _ _ _ _
   | exact shadow_bounds_1.mono _ _ _ _
   | exact shadow_shade.mono _ _ _ _ _ _ _
   | exact shadow_wrong.mono _ _ _
   | exact LeO.none _
   | refine LeO.ite ?_ ?_
   | refine LeO.bind ?_ (fun _ => ?_)
  ·intro y0 y1 y2 y3 y4 y5 y6 y7 y8 y9 y10 y11
   unfold shadow_all.l2
   repeat' first
   | (with_reducible exact ih0 _ _ _ _ _ _ _ _ _)
   | (with_reducible exact ih1 _ _ _ _ _ _ _ _)
   | (with_reducible exact ih2 _ _ _ _ _ _ _ _ _ _ _ _)
   | (with_reducible exact shadow_bounds_1.mono _ _ _ _)
   | (with_reducible exact shadow_shade.mono _ _ _ _ _ _ _)
   | (with_reducible exact shadow_wrong.mono _ _ _)
   | (with_reducible exact LeO.refl _)
   | (with_reducible exact LeO.none _)
   | (with_reducible refine LeO.ite ?_ ?_)
   | (with_reducible refine LeO.bind ?_ (fun _ => ?_))
   | exact ih0 _ _ _ _ _ _ _ _ _
   | exact ih1 _ _ _ _ _ _ _ _
   | exact ih2 _ _ _ _ _ _ _ _ _ _ _ _
   | exact shadow_bounds_1.mono _ _ _ _
   | exact shadow_shade.mono _ _ _ _ _ _ _
   | exact shadow_wrong.mono _ _ _
   | exact LeO.none _
   | refine LeO.ite ?_ ?_
   | refine LeO.bind ?_ (fun _ => ?_)
theorem shadow_all.mono : ∀ a0 a1 a2 k, LeO (shadow_all.f k a0 a1 a2) (shadow_all.f (k + 1) a0 a1 a2) := by
 intro a0 a1 a2 k
 obtain ⟨ih0, ih1, ih2⟩ := shadow_all.mono_l k
 unfold shadow_all.f
 repeat' first
   | (with_reducible exact ih0 _ _ _ _ _ _ _ _ _)
   | (with_reducible exact ih1 _ _ _ _ _ _ _ _)
   | (with_reducible exact ih2 _ _ _ _ _ _ _ _ _ _ _ _)
   | (with_reducible exact shadow_bounds_1.mono _ _ _ _)
   | (with_reducible exact shadow_shade.mono _ _ _ _ _ _ _)
   | (with_reducible exact shadow_wrong.mono _ _ _)
   | (with_reducible exact LeO.refl _)
   | (with_reducible exact LeO.none _)
   | (with_reducible refine LeO.ite ?_ ?_)
   | (with_reducible refine LeO.bind ?_ (fun _ => ?_))
   | exact ih0 _ _ _ _ _ _ _ _ _
   | exact ih1 _ _ _ _ _ _ _ _
   | exact ih2 _ _ _ _ _ _ _ _ _ _ _ _
   | exact shadow_bounds_1.mono _ _ _ _
   | exact shadow_shade.mono _ _ _ _ _ _ _
   | exact shadow_wrong.mono _ _ _
   | exact LeO.none _
   | refine LeO.ite ?_ ?_
   | refine LeO.bind ?_ (fun _ => ?_)
def shadow_all.T19 : Bool × List (List Nat × List Nat) := (true, [([], []), ([], []), ([0, 1], [0, 1]), ([2], [2]), ([3], [3]), ([], []), ([], []), ([5, 6], [5, 6]), ([7], [7]), ([8], [8]), ([], []), ([], []), ([4, 9, 10, 11], [4, 9, 10, 11]), ([12], [12]), ([13], [13]), ([13], [13]), ([], []), ([16, 14, 12, 0, 1, 2, 3, 4, 5, 6, 7, 8, 9, 10, 11, 12, 13, 14, 16], [14, 16]), ([15, 17, 0, 1, 2, 3, 4, 5, 6, 7, 8, 9, 10, 11, 12, 13, 14, 15, 16, 17], [15])])
def shadow_all.B19 : List Nat := [0, 0, 3, 7, 15, 0, 0, 96, 224, 480, 0, 0, 4095, 8191, 16383, 16383, 0, 98303, 262143]
theorem shadow_all.tab19 : rtab .any (opsOf Try.f39 19) = shadow_all.T19 := by kernel_rfl
theorem shadow_all.bits19 : waitsOk shadow_all.T19.2 shadow_all.B19 = true := by kernel_rfl
set_option maxHeartbeats 8000000 in
set_option maxRecDepth 100000 in
theorem shadow_all.calls (k : Nat) (P0_ : Nat → Prop) (A0 : Option Addr) (c0 : Nat) (l0 : List (S70)) (a1 : Int) (a2 : Bool) (r1 : List (S72)) (r2 : Int) (w : World) (hs0 : Kd.V k70 70 w w.heap.size (fun k_ => P0_ k_) (.slice A0 l0.length c0) l0) (h : shadow_all.f k l0 a1 a2 = some (r1, r2)) :
  Calls Try.prog 39 #[.slice A0 l0.length c0, .int .i64 a1, .bool a2] w fun e w' => ∃ v0_ : Value, e = .returned (.tuple #[v0_, .int .i64 r2]) ∧ Kd.N k72 72 w' w.heap.size (fun k_ => (P0_ k_ ∨ w.heap.size ≤ k_)) v0_ r1 ∧ Below w.heap.size w w' := by
 have hu70 := Try.underlying70
 have hu72 := Try.underlying72
 have hu62 := Try.underlying62
 have HO0 := zK (show Kd.V k70 70 w w.heap.size (fun k_ => (P0_ k_ ∨ w.heap.size ≤ k_)) (.slice A0 l0.length c0) l0 from vM hs0 (fun k_ hk => .inl hk))
 have HB := zK (Below.refl w.heap.size w)
 have H : ((shadow_wrong.f k l0 a1).bind fun t144 => (if t144 = true then (some (([] : List (S72)), 1)) else ((shadow_bounds_1.f k 0 l0 a1).bind fun t147 => ((shadow_bounds_1.f k (-1) l0 a1).bind fun t150 => ((shadow_bounds_1.f k 1 l0 a1).bind fun t153 => (if (wrap64 ((t147.length : Int) + (wrap64 ((t150.length : Int) * (t153.length : Int))))) > 1024 then (some (([] : List (S72)), 2)) else (shadow_all.l0 k l0 a1 a2 t150 t153 ([] : List (S72)) t147 (t147.length : Int) 0))))))) = some (r1, r2) := h
 clear h; replace H := Option.bind_eq_some_iff.mp H
 obtain ⟨t144, A40, H⟩ := H
 replace H : (if t144 = true then (some (([] : List (S72)), 1)) else ((shadow_bounds_1.f k 0 l0 a1).bind fun t147 => ((shadow_bounds_1.f k (-1) l0 a1).bind fun t150 => ((shadow_bounds_1.f k 1 l0 a1).bind fun t153 => (if (wrap64 ((t147.length : Int) + (wrap64 ((t150.length : Int) * (t153.length : Int))))) > 1024 then (some (([] : List (S72)), 2)) else (shadow_all.l0 k l0 a1 a2 t150 t153 ([] : List (S72)) t147 (t147.length : Int) 0)))))) = some (r1, r2) := H
 have A4 := zK A40; clear A40
 by_cases c5 : t144 = true
 ·subst c5
  have H1 : (some (([] : List (S72)), 1)) = some (r1, r2) := by rw [if_pos rfl] at H; exact H
  clear H; have H := H1; clear H1
  simp only [Option.some.injEq, Prod.mk.injEq] at H
  obtain ⟨rfl, rfl⟩ := H
  go_enter Try.func39, Try.ntmps39
  go_wp2_with (first | ((with_reducible refine zC (f := 56) rfl ?_); refine goesL_ (some 23) rfl rfl Try.func56 (by kernel_rfl) rfl #[.slice A0 l0.length c0, .int .i64 a1] rfl (by (try simp only [List.map_toArray, List.map_cons, List.map_nil]); first | done | rfl | (simp only [List.length_drop, List.length_take]; rfl)) ?_; (with_reducible refine (shadow_wrong.calls k _ _ l0 a1 true _ ?side1 ?side2 A4.out).mono ?_); (case side1 => repeat (first | exact (Kd.V_reads' HO0.out).2.2 | (with_reducible refine cA ?_ _) | (with_reducible refine cN ?_ _) | (with_reducible refine cD ?_))); (case side2 => exact (Kd.V_reads' HO0.out).2.1); rintro e w6 ⟨rfl, hb⟩; refine ⟨_, rfl, ?_⟩; replace HO0 := zK (Kd.V_below (zv HO0) hb); replace HB := zK (below_step (zo HB) hb); (try clear hb); (try clear hb2); (try clear hk); (try clear hi)))
  go_ret2
  exact ⟨_, by first | rfl | (simp [errW_none, errW_some] <;> rfl) | (simp [*, errW_none, errW_some] <;> rfl), by first | exact Kd.S_nil _ _ _ _ _ | exact Kd.N_nil _ _ _ _ _ | exact Kd.V_nil _ _ _ _ _ | exact Kd.Q_nil _ _ _ _ _ | exact Kd.R_nil _ _ _ _ _, zo HB⟩
 ·replace c5 := Bool.eq_false_iff.mpr c5
  subst c5
  have H1 : ((shadow_bounds_1.f k 0 l0 a1).bind fun t147 => ((shadow_bounds_1.f k (-1) l0 a1).bind fun t150 => ((shadow_bounds_1.f k 1 l0 a1).bind fun t153 => (if (wrap64 ((t147.length : Int) + (wrap64 ((t150.length : Int) * (t153.length : Int))))) > 1024 then (some (([] : List (S72)), 2)) else (shadow_all.l0 k l0 a1 a2 t150 t153 ([] : List (S72)) t147 (t147.length : Int) 0))))) = some (r1, r2) := by rw [if_neg (show ¬ (false = true) by decide)] at H; exact H
  clear H; have H := H1
  clear H1; replace H := Option.bind_eq_some_iff.mp H
  obtain ⟨t147, A70, H⟩ := H
  replace H : ((shadow_bounds_1.f k (-1) l0 a1).bind fun t150 => ((shadow_bounds_1.f k 1 l0 a1).bind fun t153 => (if (wrap64 ((t147.length : Int) + (wrap64 ((t150.length : Int) * (t153.length : Int))))) > 1024 then (some (([] : List (S72)), 2)) else (shadow_all.l0 k l0 a1 a2 t150 t153 ([] : List (S72)) t147 (t147.length : Int) 0)))) = some (r1, r2) := H
  have A7 := zK A70; clear A70; replace H := Option.bind_eq_some_iff.mp H
  obtain ⟨t150, A80, H⟩ := H
  replace H : ((shadow_bounds_1.f k 1 l0 a1).bind fun t153 => (if (wrap64 ((t147.length : Int) + (wrap64 ((t150.length : Int) * (t153.length : Int))))) > 1024 then (some (([] : List (S72)), 2)) else (shadow_all.l0 k l0 a1 a2 t150 t153 ([] : List (S72)) t147 (t147.length : Int) 0))) = some (r1, r2) := H
  have A8 := zK A80; clear A80; replace H := Option.bind_eq_some_iff.mp H
  obtain ⟨t153, A90, H⟩ := H
  replace H : (if (wrap64 ((t147.length : Int) + (wrap64 ((t150.length : Int) * (t153.length : Int))))) > 1024 then (some (([] : List (S72)), 2)) else (shadow_all.l0 k l0 a1 a2 t150 t153 ([] : List (S72)) t147 (t147.length : Int) 0)) = some (r1, r2) := H
  have A9 := zK A90; clear A90
  by_cases c10 : (wrap64 ((t147.length : Int) + (wrap64 ((t150.length : Int) * (t153.length : Int))))) > 1024
  ·rw [if_pos c10] at H
   have c10b0 : decide (1024 < (wrap64 ((t147.length : Int) + (wrap64 ((t150.length : Int) * (t153.length : Int)))))) = true := decide_eq_true c10
   clear c10
   simp only [Option.some.injEq, Prod.mk.injEq] at H
   obtain ⟨rfl, rfl⟩ := H
   go_enter Try.func39, Try.ntmps39
   go_wp2_with (first | ((with_reducible refine zC (f := 56) rfl ?_); refine goesL_ (some 23) rfl rfl Try.func56 (by kernel_rfl) rfl #[.slice A0 l0.length c0, .int .i64 a1] rfl (by (try simp only [List.map_toArray, List.map_cons, List.map_nil]); first | done | rfl | (simp only [List.length_drop, List.length_take]; rfl)) ?_; (with_reducible refine (shadow_wrong.calls k _ _ l0 a1 false _ ?side1 ?side2 A4.out).mono ?_); (case side1 => repeat (first | exact (Kd.V_reads' HO0.out).2.2 | (with_reducible refine cA ?_ _) | (with_reducible refine cN ?_ _) | (with_reducible refine cD ?_))); (case side2 => exact (Kd.V_reads' HO0.out).2.1); rintro e w11 ⟨rfl, hb⟩; refine ⟨_, rfl, ?_⟩; replace HO0 := zK (Kd.V_below (zv HO0) hb); replace HB := zK (below_step (zo HB) hb); (try clear hb); (try clear hb2); (try clear hk); (try clear hi)) | (go_at_call 45; refine shadow_bounds.gate ?_; intro gb145 hg w12 hbox hb; replace HO0 := zK (Kd.V_below (Kd.V_elderB (zv HO0) gb145 (Nat.le_of_eq hg.symm)) hb); have BK145 := zK (hbox); have GW145 := zK ((by rw [hg]; exact (below_size (zo HB)) : w.heap.size ≤ gb145)); have GE145 := zK ((by rw [hg]; exact (below_size (zo HB)) : w.heap.size ≤ gb145)); replace HB := zK (below_step (zo HB) hb); clear hb hbox hg; intro gb146 hg w13 hbox hb; replace HO0 := zK (Kd.V_below (Kd.V_elderB (zv HO0) gb146 (Nat.le_of_eq hg.symm)) hb); have BK146 := zK (hbox); have GW146 := zK ((by rw [hg]; exact (below_size (zo HB)) : w.heap.size ≤ gb146)); have GE146 := zK ((by rw [hg]; exact (below_size (zo HB)) : w.heap.size ≤ gb146)); replace HB := zK (below_step (zo HB) hb); have NB145_146 := zK ((by rw [hg]; exact Nat.ne_of_lt (blk_lt (g := gb145) (o := .cells #[.slice A0 l0.length c0] 22 (0, 0)) (zb BK145)) : gb145 ≠ gb146)); have NB146_145 := zK ((by rw [hg]; exact Nat.ne_of_gt (blk_lt (g := gb145) (o := .cells #[.slice A0 l0.length c0] 22 (0, 0)) (zb BK145)) : gb146 ≠ gb145)); replace BK145 := zK (blk_below (g := gb145) (o := .cells #[.slice A0 l0.length c0] 22 (0, 0)) (zb BK145) hb); clear hb hbox hg) | (go_at_call 82; (with_reducible refine (shadow_bounds_1.calls k 0 A0 c0 l0 gb145 a1 gb146 t147 _ ?side1 ?side2 ?side3 ?side4 ?side5 A7.out).mono ?_); (case side1 => repeat (first | exact (Kd.V_reads' HO0.out).2.2 | (with_reducible refine cA ?_ _) | (with_reducible refine cN ?_ _) | (with_reducible refine cD ?_))); (case side2 => exact (Kd.V_reads' HO0.out).2.1); (case side3 => exact (zb BK145)); (case side4 => exact (zb BK146)); (case side5 => exact NB145_146.out); rintro e w14 ⟨v148, rfl, ho0, hb⟩; replace HO0 := zK (Kd.V_elder' (zv HO0) (Kd.R_base ho0) hb); have HO149 := zK (Kd.R_lower (Kd.R_newB (Kd.R_newM (M := fun k_ => (w.heap.size ≤ k_)) ho0 (below_size (zo HB)) (fun k_ h_ => h_)) (g := gb146) (o := .cells #[.int .i64 a1] 3 (0, 0)) (zb BK146)) (below_size (zo HB))); replace BK145 := zK (blk_below (g := gb145) (o := .cells #[.slice A0 l0.length c0] 22 (0, 0)) (zb BK145) hb); replace BK146 := zK (blk_below (g := gb146) (o := .cells #[.int .i64 a1] 3 (0, 0)) (zb BK146) hb); replace HB := zK (below_step (zo HB) hb); (try clear hb); (try clear hb2); (try clear hk); (try clear hi); (try clear ho0)) | (go_at_call 82; (with_reducible refine (shadow_bounds_1.calls k (-1) A0 c0 l0 gb145 a1 gb146 t150 _ ?side1 ?side2 ?side3 ?side4 ?side5 A8.out).mono ?_); (case side1 => repeat (first | exact (Kd.V_reads' HO0.out).2.2 | (with_reducible refine cA ?_ _) | (with_reducible refine cN ?_ _) | (with_reducible refine cD ?_))); (case side2 => exact (Kd.V_reads' HO0.out).2.1); (case side3 => exact (zb BK145)); (case side4 => exact (zb BK146)); (case side5 => exact NB145_146.out); rintro e w15 ⟨v151, rfl, ho0, hb⟩; replace HO0 := zK (Kd.V_elder' (zv HO0) (Kd.R_base ho0) hb); have HO152 := zK (Kd.R_lower (Kd.R_newB (Kd.R_new' (Kd.R_newM (M := fun k_ => (w.heap.size ≤ k_)) ho0 (below_size (zo HB)) (fun k_ h_ => h_)) (Kd.R_lt (zr HO149))) (g := gb146) (o := .cells #[.int .i64 a1] 3 (0, 0)) (zb BK146)) (below_size (zo HB))); replace HO149 := zK (Kd.R_elder' (zr HO149) (Kd.R_base ho0) hb); replace BK145 := zK (blk_below (g := gb145) (o := .cells #[.slice A0 l0.length c0] 22 (0, 0)) (zb BK145) hb); replace BK146 := zK (blk_below (g := gb146) (o := .cells #[.int .i64 a1] 3 (0, 0)) (zb BK146) hb); replace HB := zK (below_step (zo HB) hb); (try clear hb); (try clear hb2); (try clear hk); (try clear hi); (try clear ho0)) | (go_at_call 82; (with_reducible refine (shadow_bounds_1.calls k 1 A0 c0 l0 gb145 a1 gb146 t153 _ ?side1 ?side2 ?side3 ?side4 ?side5 A9.out).mono ?_); (case side1 => repeat (first | exact (Kd.V_reads' HO0.out).2.2 | (with_reducible refine cA ?_ _) | (with_reducible refine cN ?_ _) | (with_reducible refine cD ?_))); (case side2 => exact (Kd.V_reads' HO0.out).2.1); (case side3 => exact (zb BK145)); (case side4 => exact (zb BK146)); (case side5 => exact NB145_146.out); rintro e w16 ⟨v154, rfl, ho0, hb⟩; replace HO0 := zK (Kd.V_elder' (zv HO0) (Kd.R_base ho0) hb); have HO155 := zK (Kd.R_lower (Kd.R_newB (Kd.R_new' (Kd.R_new' (Kd.R_newM (M := fun k_ => (w.heap.size ≤ k_)) ho0 (below_size (zo HB)) (fun k_ h_ => h_)) (Kd.R_lt (zr HO149))) (Kd.R_lt (zr HO152))) (g := gb146) (o := .cells #[.int .i64 a1] 3 (0, 0)) (zb BK146)) (below_size (zo HB))); replace HO149 := zK (Kd.R_elder' (zr HO149) (Kd.R_base ho0) hb); replace HO152 := zK (Kd.R_elder' (zr HO152) (Kd.R_base ho0) hb); replace BK145 := zK (blk_below (g := gb145) (o := .cells #[.slice A0 l0.length c0] 22 (0, 0)) (zb BK145) hb); replace BK146 := zK (blk_below (g := gb146) (o := .cells #[.int .i64 a1] 3 (0, 0)) (zb BK146) hb); replace HB := zK (below_step (zo HB) hb); (try clear hb); (try clear hb2); (try clear hk); (try clear hi); (try clear ho0); obtain ⟨Ao17, co17, eo17⟩ := Kd.R_slice HO149.out; subst eo17; obtain ⟨Ao18, co18, eo18⟩ := Kd.R_slice HO152.out; subst eo18; obtain ⟨Ao19, co19, eo19⟩ := Kd.R_slice HO155.out; subst eo19))
   go_ret2
   exact ⟨_, by first | rfl | (simp [errW_none, errW_some] <;> rfl) | (simp [*, errW_none, errW_some] <;> rfl), by first | exact Kd.S_nil _ _ _ _ _ | exact Kd.N_nil _ _ _ _ _ | exact Kd.V_nil _ _ _ _ _ | exact Kd.Q_nil _ _ _ _ _ | exact Kd.R_nil _ _ _ _ _, zo HB⟩
  ·rw [if_neg c10] at H
   have c10b0 : decide (1024 < (wrap64 ((t147.length : Int) + (wrap64 ((t150.length : Int) * (t153.length : Int)))))) = false := decide_eq_false c10
   clear c10
   have H' := zK H; clear H
   go_enter Try.func39, Try.ntmps39
   go_wp2_with (first | ((with_reducible refine zC (f := 56) rfl ?_); refine goesL_ (some 23) rfl rfl Try.func56 (by kernel_rfl) rfl #[.slice A0 l0.length c0, .int .i64 a1] rfl (by (try simp only [List.map_toArray, List.map_cons, List.map_nil]); first | done | rfl | (simp only [List.length_drop, List.length_take]; rfl)) ?_; (with_reducible refine (shadow_wrong.calls k _ _ l0 a1 false _ ?side1 ?side2 A4.out).mono ?_); (case side1 => repeat (first | exact (Kd.V_reads' HO0.out).2.2 | (with_reducible refine cA ?_ _) | (with_reducible refine cN ?_ _) | (with_reducible refine cD ?_))); (case side2 => exact (Kd.V_reads' HO0.out).2.1); rintro e w20 ⟨rfl, hb⟩; refine ⟨_, rfl, ?_⟩; replace HO0 := zK (Kd.V_below (zv HO0) hb); replace HB := zK (below_step (zo HB) hb); (try clear hb); (try clear hb2); (try clear hk); (try clear hi)) | (go_at_call 45; refine shadow_bounds.gate ?_; intro gb145 hg w21 hbox hb; replace HO0 := zK (Kd.V_below (Kd.V_elderB (zv HO0) gb145 (Nat.le_of_eq hg.symm)) hb); have BK145 := zK (hbox); have GW145 := zK ((by rw [hg]; exact (below_size (zo HB)) : w.heap.size ≤ gb145)); have GE145 := zK ((by rw [hg]; exact (below_size (zo HB)) : w.heap.size ≤ gb145)); replace HB := zK (below_step (zo HB) hb); clear hb hbox hg; intro gb146 hg w22 hbox hb; replace HO0 := zK (Kd.V_below (Kd.V_elderB (zv HO0) gb146 (Nat.le_of_eq hg.symm)) hb); have BK146 := zK (hbox); have GW146 := zK ((by rw [hg]; exact (below_size (zo HB)) : w.heap.size ≤ gb146)); have GE146 := zK ((by rw [hg]; exact (below_size (zo HB)) : w.heap.size ≤ gb146)); replace HB := zK (below_step (zo HB) hb); have NB145_146 := zK ((by rw [hg]; exact Nat.ne_of_lt (blk_lt (g := gb145) (o := .cells #[.slice A0 l0.length c0] 22 (0, 0)) (zb BK145)) : gb145 ≠ gb146)); have NB146_145 := zK ((by rw [hg]; exact Nat.ne_of_gt (blk_lt (g := gb145) (o := .cells #[.slice A0 l0.length c0] 22 (0, 0)) (zb BK145)) : gb146 ≠ gb145)); replace BK145 := zK (blk_below (g := gb145) (o := .cells #[.slice A0 l0.length c0] 22 (0, 0)) (zb BK145) hb); clear hb hbox hg) | (go_at_call 82; (with_reducible refine (shadow_bounds_1.calls k 0 A0 c0 l0 gb145 a1 gb146 t147 _ ?side1 ?side2 ?side3 ?side4 ?side5 A7.out).mono ?_); (case side1 => repeat (first | exact (Kd.V_reads' HO0.out).2.2 | (with_reducible refine cA ?_ _) | (with_reducible refine cN ?_ _) | (with_reducible refine cD ?_))); (case side2 => exact (Kd.V_reads' HO0.out).2.1); (case side3 => exact (zb BK145)); (case side4 => exact (zb BK146)); (case side5 => exact NB145_146.out); rintro e w23 ⟨v148, rfl, ho0, hb⟩; replace HO0 := zK (Kd.V_elder' (zv HO0) (Kd.R_base ho0) hb); have HO149 := zK (Kd.R_lower (Kd.R_newB (Kd.R_newM (M := fun k_ => (w.heap.size ≤ k_)) ho0 (below_size (zo HB)) (fun k_ h_ => h_)) (g := gb146) (o := .cells #[.int .i64 a1] 3 (0, 0)) (zb BK146)) (below_size (zo HB))); replace BK145 := zK (blk_below (g := gb145) (o := .cells #[.slice A0 l0.length c0] 22 (0, 0)) (zb BK145) hb); replace BK146 := zK (blk_below (g := gb146) (o := .cells #[.int .i64 a1] 3 (0, 0)) (zb BK146) hb); replace HB := zK (below_step (zo HB) hb); (try clear hb); (try clear hb2); (try clear hk); (try clear hi); (try clear ho0)) | (go_at_call 82; (with_reducible refine (shadow_bounds_1.calls k (-1) A0 c0 l0 gb145 a1 gb146 t150 _ ?side1 ?side2 ?side3 ?side4 ?side5 A8.out).mono ?_); (case side1 => repeat (first | exact (Kd.V_reads' HO0.out).2.2 | (with_reducible refine cA ?_ _) | (with_reducible refine cN ?_ _) | (with_reducible refine cD ?_))); (case side2 => exact (Kd.V_reads' HO0.out).2.1); (case side3 => exact (zb BK145)); (case side4 => exact (zb BK146)); (case side5 => exact NB145_146.out); rintro e w24 ⟨v151, rfl, ho0, hb⟩; replace HO0 := zK (Kd.V_elder' (zv HO0) (Kd.R_base ho0) hb); have HO152 := zK (Kd.R_lower (Kd.R_newB (Kd.R_new' (Kd.R_newM (M := fun k_ => (w.heap.size ≤ k_)) ho0 (below_size (zo HB)) (fun k_ h_ => h_)) (Kd.R_lt (zr HO149))) (g := gb146) (o := .cells #[.int .i64 a1] 3 (0, 0)) (zb BK146)) (below_size (zo HB))); replace HO149 := zK (Kd.R_elder' (zr HO149) (Kd.R_base ho0) hb); replace BK145 := zK (blk_below (g := gb145) (o := .cells #[.slice A0 l0.length c0] 22 (0, 0)) (zb BK145) hb); replace BK146 := zK (blk_below (g := gb146) (o := .cells #[.int .i64 a1] 3 (0, 0)) (zb BK146) hb); replace HB := zK (below_step (zo HB) hb); (try clear hb); (try clear hb2); (try clear hk); (try clear hi); (try clear ho0)) | (go_at_call 82; (with_reducible refine (shadow_bounds_1.calls k 1 A0 c0 l0 gb145 a1 gb146 t153 _ ?side1 ?side2 ?side3 ?side4 ?side5 A9.out).mono ?_); (case side1 => repeat (first | exact (Kd.V_reads' HO0.out).2.2 | (with_reducible refine cA ?_ _) | (with_reducible refine cN ?_ _) | (with_reducible refine cD ?_))); (case side2 => exact (Kd.V_reads' HO0.out).2.1); (case side3 => exact (zb BK145)); (case side4 => exact (zb BK146)); (case side5 => exact NB145_146.out); rintro e w25 ⟨v154, rfl, ho0, hb⟩; replace HO0 := zK (Kd.V_elder' (zv HO0) (Kd.R_base ho0) hb); have HO155 := zK (Kd.R_lower (Kd.R_newB (Kd.R_new' (Kd.R_new' (Kd.R_newM (M := fun k_ => (w.heap.size ≤ k_)) ho0 (below_size (zo HB)) (fun k_ h_ => h_)) (Kd.R_lt (zr HO149))) (Kd.R_lt (zr HO152))) (g := gb146) (o := .cells #[.int .i64 a1] 3 (0, 0)) (zb BK146)) (below_size (zo HB))); replace HO149 := zK (Kd.R_elder' (zr HO149) (Kd.R_base ho0) hb); replace HO152 := zK (Kd.R_elder' (zr HO152) (Kd.R_base ho0) hb); replace BK145 := zK (blk_below (g := gb145) (o := .cells #[.slice A0 l0.length c0] 22 (0, 0)) (zb BK145) hb); replace BK146 := zK (blk_below (g := gb146) (o := .cells #[.int .i64 a1] 3 (0, 0)) (zb BK146) hb); replace HB := zK (below_step (zo HB) hb); (try clear hb); (try clear hb2); (try clear hk); (try clear hi); (try clear ho0); obtain ⟨Ao26, co26, eo26⟩ := Kd.R_slice HO149.out; subst eo26; obtain ⟨Ao27, co27, eo27⟩ := Kd.R_slice HO152.out; subst eo27; obtain ⟨Ao28, co28, eo28⟩ := Kd.R_slice HO155.out; subst eo28))
   go_loopg [12, 44] k (fun kq v12 v44 w' => ∃ (x12_1 : List (S72)) (x44_1 : Int), v44 = .int .i64 x44_1 ∧ Aside0 (shadow_all.l0 kq l0 a1 a2 t150 t153 x12_1 t147 (t147.length : Int) x44_1 = some (r1, r2)) ∧ Aside0 (kq ≤ k) ∧ Aside0 (Kd.V k70 70 w' w.heap.size (fun k_ => (P0_ k_ ∨ w.heap.size ≤ k_) ∧ some k_ ≠ ((.slice Ao27 t150.length co27) : Value).ownBlock ∧ some k_ ≠ ((.slice Ao28 t153.length co28) : Value).ownBlock ∧ some k_ ≠ (v12 : Value).ownBlock ∧ some k_ ≠ ((.slice Ao26 t147.length co26) : Value).ownBlock ∧ k_ ≠ gb145 ∧ k_ ≠ gb146) (.slice A0 l0.length c0) l0) ∧ Aside0 (Kd.R (Kd.int .i64) 3 w' w.heap.size (fun k_ => (w.heap.size ≤ k_) ∧ some k_ ≠ ((.slice Ao28 t153.length co28) : Value).ownBlock ∧ some k_ ≠ ((.slice Ao26 t147.length co26) : Value).ownBlock ∧ k_ ≠ gb146) (.slice Ao27 t150.length co27) t150) ∧ Aside0 (Kd.R (Kd.int .i64) 3 w' w.heap.size (fun k_ => (w.heap.size ≤ k_) ∧ some k_ ≠ ((.slice Ao27 t150.length co27) : Value).ownBlock ∧ some k_ ≠ ((.slice Ao26 t147.length co26) : Value).ownBlock ∧ k_ ≠ gb146) (.slice Ao28 t153.length co28) t153) ∧ Aside0 (Kd.N k72 72 w' w.heap.size (fun k_ => (P0_ k_ ∨ w.heap.size ≤ k_) ∧ some k_ ≠ ((.slice Ao27 t150.length co27) : Value).ownBlock ∧ some k_ ≠ ((.slice Ao28 t153.length co28) : Value).ownBlock ∧ some k_ ≠ ((.slice Ao26 t147.length co26) : Value).ownBlock ∧ k_ ≠ gb145 ∧ k_ ≠ gb146) v12 x12_1) ∧ Aside0 (Kd.R (Kd.int .i64) 3 w' w.heap.size (fun k_ => (w.heap.size ≤ k_) ∧ some k_ ≠ ((.slice Ao27 t150.length co27) : Value).ownBlock ∧ some k_ ≠ ((.slice Ao28 t153.length co28) : Value).ownBlock ∧ k_ ≠ gb146) (.slice Ao26 t147.length co26) t147) ∧ Aside0 (Kd.V k70 70 w' w.heap.size (fun k_ => (P0_ k_ ∨ w.heap.size ≤ k_) ∧ some k_ ≠ ((.slice Ao27 t150.length co27) : Value).ownBlock ∧ some k_ ≠ ((.slice Ao28 t153.length co28) : Value).ownBlock ∧ some k_ ≠ (v12 : Value).ownBlock ∧ some k_ ≠ ((.slice Ao26 t147.length co26) : Value).ownBlock ∧ k_ ≠ gb145 ∧ k_ ≠ gb146) (.slice A0 l0.length c0) l0) ∧ Aside0 (w'.heap[gb145]? = some (.cells #[(.slice A0 l0.length c0)] 22 (0, 0))) ∧ Aside0 (w'.heap[gb146]? = some (.cells #[.int .i64 a1] 3 (0, 0))) ∧ Aside0 (Below w.heap.size w w'))
   case atStart => exact ⟨(([] : List (S72))), (0), (by first | rfl | (simp; done) | (simp [*]; done)), H', ⟨Nat.le_refl _⟩, ⟨by (with_reducible repeat (first | apply vA | apply vN | apply vD)); exact vM HO0.out (fun _ hk => ⟨hk.1.1.1.1.1, ⟨hk.1.2, ⟨hk.2, ⟨(by simp [Value.ownBlock]), ⟨hk.1.1.2, ⟨hk.1.1.1.1.2, hk.1.1.1.2⟩⟩⟩⟩⟩⟩)⟩, ⟨by (with_reducible repeat (first | apply Kd.R_alloc | apply Kd.R_drewN | apply Kd.R_drew)); exact Kd.R_mono HO152.out (fun _ hk => ⟨hk.1.1.1.1, ⟨hk.2, ⟨hk.1.1.2, hk.1.2⟩⟩⟩)⟩, ⟨by (with_reducible repeat (first | apply Kd.R_alloc | apply Kd.R_drewN | apply Kd.R_drew)); exact Kd.R_mono HO155.out (fun _ hk => ⟨hk.1.1.1.1, ⟨hk.1.2, ⟨hk.1.1.2, hk.2⟩⟩⟩)⟩, ⟨by first | exact Kd.S_nil _ _ _ _ _ | exact Kd.N_nil _ _ _ _ _ | exact Kd.V_nil _ _ _ _ _ | exact Kd.Q_nil _ _ _ _ _ | exact Kd.R_nil _ _ _ _ _⟩, ⟨by (with_reducible repeat (first | apply Kd.R_alloc | apply Kd.R_drewN | apply Kd.R_drew)); exact Kd.R_mono HO149.out (fun _ hk => ⟨hk.1.1.1.1, ⟨hk.1.2, ⟨hk.2, hk.1.1.2⟩⟩⟩)⟩, ⟨by (with_reducible repeat (first | apply vA | apply vN | apply vD)); exact vM HO0.out (fun _ hk => ⟨hk.1.1.1.1.1, ⟨hk.1.2, ⟨hk.2, ⟨(by simp [Value.ownBlock]), ⟨hk.1.1.2, ⟨hk.1.1.1.1.2, hk.1.1.1.2⟩⟩⟩⟩⟩⟩)⟩, ⟨zb BK145⟩, ⟨zb BK146⟩, ⟨zo HB⟩⟩
   case round =>
    clear H'; try clear c1; try clear p2; try clear c3
    try clear c5; try clear p6; try clear c10; try clear c10b0
    obtain ⟨x12_1, x44_1, rfl, HA, HK1, HO_0, HO_10, HO_11, HO_12, HO_42, HO_146000, BK145, BK146, HB⟩ := hrel
    cases gk with
    | zero => exact absurd HA.out (by simp [shadow_all.l0])
    | succ k1 =>
     have H := HA.out; clear HA
     simp only [shadow_all.l0] at H
     by_cases c29 : x44_1 < (t147.length : Int)
     ·rw [if_pos c29] at H
      have c29b0 : decide (x44_1 < (t147.length : Int)) = true := decide_eq_true c29
      clear c29
      by_cases c30 : 0 ≤ x44_1
      ·rw [if_pos c30] at H
       have c30b0 : decide (0 ≤ x44_1) = true := decide_eq_true c30; clear c30
       by_cases c31 : x44_1 < (t147.length : Int)
       ·rw [if_pos c31] at H
        have c31b0 : decide (x44_1 < (t147.length : Int)) = true := decide_eq_true c31
        clear c31
        by_cases c32 : 0 ≤ (rd t147 x44_1)
        ·rw [if_pos c32] at H
         have c32b0 : decide (0 ≤ (rd t147 x44_1)) = true := decide_eq_true c32
         clear c32
         by_cases c33 : (rd t147 x44_1) < (l0.length : Int)
         ·rw [if_pos c33] at H
          have c33b0 : decide ((rd t147 x44_1) < (l0.length : Int)) = true := decide_eq_true c33
          clear c33
          by_cases c34 : x12_1.length < 2513169434916
          ·rw [if_pos c34] at H
           have LMc34 := zK c34; clear c34
           obtain ⟨y158, hy158⟩ : ∃ y_ : List (S72), y_ = (x12_1 ++ [(⟨(⟨(⟨(rd_T70 l0 (rd t147 x44_1)).f0.f0, (rd_T70 l0 (rd t147 x44_1)).f0.f1⟩ : S62), (rd_T70 l0 (rd t147 x44_1)).f1⟩ : S70), rd t147 x44_1, rd t147 x44_1⟩ : S72)]) := ⟨_, rfl⟩
           replace H : (shadow_all.l0 k1 l0 a1 a2 t150 t153 y158 t147 (t147.length : Int) (wrap64 (x44_1 + 1))) = some (r1, r2) := by first | (rw [hy158]; with_reducible exact H) | (have H2_ := (Option.bind_some _ _).symm.trans H; rw [hy158]; with_reducible exact H2_) | (have H2_ := (Option.bind_some _ _).symm.trans H; with_reducible exact H2_) | with_reducible exact H | (rw [hy158]; exact H) | exact H
           have Ny158 := zK hy158; clear hy158
           have H' := zK H; clear H
           have p156 : 0 ≤ (x44_1 : Int) := of_decide_eq_true (by first | (with_reducible assumption) | assumption)
           have q156 : x44_1 < (t147.length : Int) := of_decide_eq_true (by first | (with_reducible assumption) | assumption)
           obtain ⟨ad156, e156, hx156_0⟩ := Kd.at_int (Kd.R_reads' HO_42.out).2.2 x44_1 p156 q156
           cases e156
           replace p156 := eq_true p156
           replace q156 := eq_true q156
           have p157 : 0 ≤ ((rd t147 x44_1) : Int) := of_decide_eq_true (by first | (with_reducible assumption) | assumption)
           have q157 : (rd t147 x44_1) < (l0.length : Int) := of_decide_eq_true (by first | (with_reducible assumption) | assumption)
           obtain ⟨ad157, A157_1, c157_1, e157, hx157_0, hx157_1, hx157_2, hl157_1, hi157_1⟩ := at_T70 (Kd.V_reads' HO_0.out).2.2 (rd t147 x44_1) p157 q157
           cases e157
           obtain ⟨ce157, hce157, hMe157, hcc157⟩ := Kd.V_get HO_0.out z70 (rd t147 x44_1) p157 (by first | exact q157 | exact of_decide_eq_true (by first | (with_reducible assumption) | assumption) | (have e_ := (Kd.V_reads' HO_0.out).1; omega))
           obtain ⟨ua157_1, uc157_1, rfl, ul157_1, ge157_1⟩ := k70_openF hMe157
           have hv157_1 := hcc157 1 _ rfl
           rw [add_field _ _ 1 (by omega)] at hv157_1
           replace hv157_1 := Option.some.inj (hv157_1.symm.trans hx157_1)
           injection hv157_1 with hva_ hvn_ hvc_
           rw [hva_] at ge157_1
           rw [hvc_] at ul157_1
           have HL157_1 := zK (show Kd.V k68 68 _ w.heap.size _ _ ((rd_T70 l0 (rd t147 x44_1)).f0.f1) from Kd.V_mk ul157_1 ge157_1)
           clear hva_ hvn_ hvc_ ge157_1 ul157_1 hcc157 hce157
           have HR157_1 := zK hi157_1
           have HC157_1 := zK hl157_1; clear hi157_1 hl157_1
           replace p157 := eq_true p157
           replace q157 := eq_true q157
           go_wp2_with (first | ((with_reducible refine gate_builtin (b := .append) (xs := #[.tmp 48, .tmp 56]) rfl ?_); at_builtin; refine Kd.N_append k72 (w0 := w) w.heap.size rfl (.tmp 48) (.tmp 56) 25 72 (.agg #[(.int .i64 0), (.slice none 0 0), (.bool false), (.int .i64 0), (.int .i64 0)]) 56 rfl Try.underlying25 info72 rfl (by decide) (by omega) u12 x12_1 (⟨(⟨(⟨(rd_T70 l0 (rd t147 x44_1)).f0.f0, (rd_T70 l0 (rd t147 x44_1)).f0.f1⟩ : S62), (rd_T70 l0 (rd t147 x44_1)).f1⟩ : S70), rd t147 x44_1, rd t147 x44_1⟩ : S72) [.int .i64 ((rd_T70 l0 (rd t147 x44_1)).f0.f0), .slice A157_1 ((rd_T70 l0 (rd t147 x44_1)).f0.f1).length c157_1, .bool ((rd_T70 l0 (rd t147 x44_1)).f1), .int .i64 (rd t147 x44_1), .int .i64 (rd t147 x44_1)] (fun k_ => (P0_ k_ ∨ w.heap.size ≤ k_) ∧ some k_ ≠ (.slice Ao27 t150.length co27 : Value).ownBlock ∧ some k_ ≠ (.slice Ao28 t153.length co28 : Value).ownBlock ∧ some k_ ≠ (.slice (some ad156) t147.length co26 : Value).ownBlock ∧ k_ ≠ gb145 ∧ k_ ≠ gb146) (fun k_ => ((fun k_ => (P0_ k_ ∨ w.heap.size ≤ k_) ∧ some k_ ≠ (.slice Ao27 t150.length co27 : Value).ownBlock ∧ some k_ ≠ (.slice Ao28 t153.length co28 : Value).ownBlock ∧ some k_ ≠ (.slice (some ad156) t147.length co26 : Value).ownBlock ∧ k_ ≠ gb145 ∧ k_ ≠ gb146)) k_ ∧ some k_ ≠ (u12 : Value).ownBlock) rfl rfl ?aP (fun _ hk => hk) ?aF ?aO ?aB ?aS ?aL ?_; (case aP => exact (k72_mkF _ _ (⟨(⟨(⟨(rd_T70 l0 (rd t147 x44_1)).f0.f0, (rd_T70 l0 (rd t147 x44_1)).f0.f1⟩ : S62), (rd_T70 l0 (rd t147 x44_1)).f1⟩ : S70), rd t147 x44_1, rd t147 x44_1⟩ : S72) (Kd.V_reads' (vM (ok' := (fun k_ => ((fun k_ => (P0_ k_ ∨ w.heap.size ≤ k_) ∧ some k_ ≠ (.slice Ao27 t150.length co27 : Value).ownBlock ∧ some k_ ≠ (.slice Ao28 t153.length co28 : Value).ownBlock ∧ some k_ ≠ (.slice (some ad156) t147.length co26 : Value).ownBlock ∧ k_ ≠ gb145 ∧ k_ ≠ gb146)) k_ ∧ some k_ ≠ (u12 : Value).ownBlock)) (HL157_1.out) (fun k_ hk => ⟨⟨hk.1, ⟨hk.2.1, ⟨hk.2.2.1, ⟨hk.2.2.2.2.1, ⟨hk.2.2.2.2.2.1, hk.2.2.2.2.2.2⟩⟩⟩⟩⟩, hk.2.2.2.1⟩))).2.1 (Kd.V_F (vM (ok' := (fun k_ => ((fun k_ => (P0_ k_ ∨ w.heap.size ≤ k_) ∧ some k_ ≠ (.slice Ao27 t150.length co27 : Value).ownBlock ∧ some k_ ≠ (.slice Ao28 t153.length co28 : Value).ownBlock ∧ some k_ ≠ (.slice (some ad156) t147.length co26 : Value).ownBlock ∧ k_ ≠ gb145 ∧ k_ ≠ gb146)) k_ ∧ some k_ ≠ (u12 : Value).ownBlock)) (HL157_1.out) (fun k_ hk => ⟨⟨hk.1, ⟨hk.2.1, ⟨hk.2.2.1, ⟨hk.2.2.2.2.1, ⟨hk.2.2.2.2.2.1, hk.2.2.2.2.2.2⟩⟩⟩⟩⟩, hk.2.2.2.1⟩))))); (case aB => exact (zo HB)); (case aF => exact (fun k_ hk => ⟨(.inr (Nat.le_trans (below_size (zo HB)) hk)), Kd.fresh' (Kd.R_lt (zr HO_10)) k_ hk, Kd.fresh' (Kd.R_lt (zr HO_11)) k_ hk, Kd.fresh' (Kd.R_lt (zr HO_42)) k_ hk, Kd.freshB (g := gb145) (o := .cells #[.slice (some ad157) l0.length c0] 22 (0, 0)) (zb BK145) k_ hk, Kd.freshB (g := gb146) (o := .cells #[.int .i64 a1] 3 (0, 0)) (zb BK146) k_ hk⟩)); (case aO => exact (zn HO_12)); (case aS => exact (below_size (zo HB))); (case aL => have := LMc34.out; omega); intro v159 w35 ho hb hg hat; rw [← Ny158.out] at ho; replace HO_0 := zK (Kd.V_afterv (ok := (fun k_ => (P0_ k_ ∨ w.heap.size ≤ k_) ∧ some k_ ≠ (.slice Ao27 t150.length co27 : Value).ownBlock ∧ some k_ ≠ (.slice Ao28 t153.length co28 : Value).ownBlock ∧ some k_ ≠ (.slice (some ad156) t147.length co26 : Value).ownBlock ∧ k_ ≠ gb145 ∧ k_ ≠ gb146)) (by (with_reducible repeat (first | apply vA | apply vN | apply vD)); exact vM HO_0.out (fun _ hk => ⟨⟨hk.1, ⟨hk.2.1, ⟨hk.2.2.1, ⟨hk.2.2.2.2.1, ⟨hk.2.2.2.2.2.1, hk.2.2.2.2.2.2⟩⟩⟩⟩⟩, hk.2.2.2.1⟩)) hg hat); replace HO_10 := zK (Kd.R_over' (zr HO_10) (Kd.N_typed (zn HO_12)) (by decide) hg); replace HO_11 := zK (Kd.R_over' (zr HO_11) (Kd.N_typed (zn HO_12)) (by decide) hg); replace HO_42 := zK (Kd.R_over' (zr HO_42) (Kd.N_typed (zn HO_12)) (by decide) hg); replace HO_146000 := zK (Kd.V_afterv (ok := (fun k_ => (P0_ k_ ∨ w.heap.size ≤ k_) ∧ some k_ ≠ (.slice Ao27 t150.length co27 : Value).ownBlock ∧ some k_ ≠ (.slice Ao28 t153.length co28 : Value).ownBlock ∧ some k_ ≠ (.slice (some ad156) t147.length co26 : Value).ownBlock ∧ k_ ≠ gb145 ∧ k_ ≠ gb146)) (by (with_reducible repeat (first | apply vA | apply vN | apply vD)); exact vM HO_146000.out (fun _ hk => ⟨⟨hk.1, ⟨hk.2.1, ⟨hk.2.2.1, ⟨hk.2.2.2.2.1, ⟨hk.2.2.2.2.2.1, hk.2.2.2.2.2.2⟩⟩⟩⟩⟩, hk.2.2.2.1⟩)) hg hat); replace BK145 := zK (blk_grown (g := gb145) (o := .cells #[.slice (some ad157) l0.length c0] 22 (0, 0)) (zb BK145) hg (Kd.N_ne HO_12.out BK145.out (by decide))); replace BK146 := zK (blk_grown (g := gb146) (o := .cells #[.int .i64 a1] 3 (0, 0)) (zb BK146) hg (Kd.N_ne HO_12.out BK146.out (by decide))); replace HL157_1 := zK (Kd.V_afterv (ok := (fun k_ => (P0_ k_ ∨ w.heap.size ≤ k_) ∧ some k_ ≠ (.slice Ao27 t150.length co27 : Value).ownBlock ∧ some k_ ≠ (.slice Ao28 t153.length co28 : Value).ownBlock ∧ some k_ ≠ (.slice (some ad156) t147.length co26 : Value).ownBlock ∧ k_ ≠ gb145 ∧ k_ ≠ gb146)) (by (with_reducible repeat (first | apply vA | apply vN | apply vD)); exact vM HL157_1.out (fun _ hk => ⟨⟨hk.1, ⟨hk.2.1, ⟨hk.2.2.1, ⟨hk.2.2.2.2.1, ⟨hk.2.2.2.2.2.1, hk.2.2.2.2.2.2⟩⟩⟩⟩⟩, hk.2.2.2.1⟩)) hg hat); replace HB := zK (hb); have HO160 := zK (ho); clear HO_12 ho hb hg hat))
           go_roundg k1
           case measure => have := HK1.out; omega
           case rel => exact ⟨(y158), (wrap64 (x44_1 + 1)), (by first | rfl | (simp; done) | (simp [*]; done)), H', ⟨by have := HK1.out; omega⟩, ⟨by (with_reducible repeat (first | apply vA | apply vN | apply vD)); exact vM HO_0.out (fun _ hk => ⟨hk.1.1, ⟨hk.1.2.1, ⟨hk.1.2.2.1, ⟨hk.2, ⟨hk.1.2.2.2.1, ⟨hk.1.2.2.2.2.1, hk.1.2.2.2.2.2⟩⟩⟩⟩⟩⟩)⟩, ⟨zr HO_10⟩, ⟨zr HO_11⟩, ⟨zn HO160⟩, ⟨zr HO_42⟩, ⟨by (with_reducible repeat (first | apply vA | apply vN | apply vD)); exact vM HO_146000.out (fun _ hk => ⟨hk.1.1, ⟨hk.1.2.1, ⟨hk.1.2.2.1, ⟨hk.2, ⟨hk.1.2.2.2.1, ⟨hk.1.2.2.2.2.1, hk.1.2.2.2.2.2⟩⟩⟩⟩⟩⟩)⟩, ⟨zb BK145⟩, ⟨zb BK146⟩, ⟨zo HB⟩⟩
          ·rw [if_neg c34] at H
           exact absurd H (by simp)
         ·rw [if_neg c33] at H
          exact absurd H (by simp)
        ·rw [if_neg c32] at H
         exact absurd H (by simp)
       ·rw [if_neg c31] at H
        exact absurd H (by simp)
      ·rw [if_neg c30] at H
       exact absurd H (by simp)
     ·rw [if_neg c29] at H
      have c29b0 : decide (x44_1 < (t147.length : Int)) = false := decide_eq_false c29
      clear c29
      have H' := zK H; clear H
      go_wp2
      go_loopg [12, 61] k1 (fun kq v12 v61 w' => ∃ (x12_2 : List (S72)) (x61_2 : Int), v61 = .int .i64 x61_2 ∧ Aside0 (shadow_all.l1 kq l0 a1 a2 t153 x12_2 t150 (t150.length : Int) x61_2 = some (r1, r2)) ∧ Aside0 (kq ≤ k1) ∧ Aside0 (Kd.V k70 70 w' w.heap.size (fun k_ => (P0_ k_ ∨ w.heap.size ≤ k_) ∧ some k_ ≠ ((.slice Ao28 t153.length co28) : Value).ownBlock ∧ some k_ ≠ (v12 : Value).ownBlock ∧ some k_ ≠ ((.slice Ao27 t150.length co27) : Value).ownBlock ∧ k_ ≠ gb145 ∧ k_ ≠ gb146) (.slice A0 l0.length c0) l0) ∧ Aside0 (Kd.R (Kd.int .i64) 3 w' w.heap.size (fun k_ => (w.heap.size ≤ k_) ∧ some k_ ≠ ((.slice Ao27 t150.length co27) : Value).ownBlock ∧ k_ ≠ gb146) (.slice Ao28 t153.length co28) t153) ∧ Aside0 (Kd.N k72 72 w' w.heap.size (fun k_ => (P0_ k_ ∨ w.heap.size ≤ k_) ∧ some k_ ≠ ((.slice Ao28 t153.length co28) : Value).ownBlock ∧ some k_ ≠ ((.slice Ao27 t150.length co27) : Value).ownBlock ∧ k_ ≠ gb145 ∧ k_ ≠ gb146) v12 x12_2) ∧ Aside0 (Kd.R (Kd.int .i64) 3 w' w.heap.size (fun k_ => (w.heap.size ≤ k_) ∧ some k_ ≠ ((.slice Ao28 t153.length co28) : Value).ownBlock ∧ k_ ≠ gb146) (.slice Ao27 t150.length co27) t150) ∧ Aside0 (Kd.V k70 70 w' w.heap.size (fun k_ => (P0_ k_ ∨ w.heap.size ≤ k_) ∧ some k_ ≠ ((.slice Ao28 t153.length co28) : Value).ownBlock ∧ some k_ ≠ (v12 : Value).ownBlock ∧ some k_ ≠ ((.slice Ao27 t150.length co27) : Value).ownBlock ∧ k_ ≠ gb145 ∧ k_ ≠ gb146) (.slice A0 l0.length c0) l0) ∧ Aside0 (w'.heap[gb145]? = some (.cells #[(.slice A0 l0.length c0)] 22 (0, 0))) ∧ Aside0 (w'.heap[gb146]? = some (.cells #[.int .i64 a1] 3 (0, 0))) ∧ Aside0 (Below w.heap.size w w'))
      case atStart => exact ⟨(x12_1), (0), (by first | rfl | (simp; done) | (simp [*]; done)), H', ⟨Nat.le_refl _⟩, ⟨by (with_reducible repeat (first | apply vA | apply vN | apply vD)); exact vM HO_0.out (fun _ hk => ⟨hk.1, ⟨hk.2.2.1, ⟨hk.2.2.2.1, ⟨hk.2.1, ⟨hk.2.2.2.2.2.1, hk.2.2.2.2.2.2⟩⟩⟩⟩⟩)⟩, ⟨by (with_reducible repeat (first | apply Kd.R_alloc | apply Kd.R_drewN | apply Kd.R_drew)); exact Kd.R_mono HO_11.out (fun _ hk => ⟨hk.1, ⟨hk.2.1, hk.2.2.2⟩⟩)⟩, ⟨by (with_reducible repeat (first | apply nA | apply nN | apply nD)); exact Kd.N_mono HO_12.out (fun _ hk => ⟨hk.1, ⟨hk.2.2.1, ⟨hk.2.1, ⟨hk.2.2.2.2.1, hk.2.2.2.2.2⟩⟩⟩⟩)⟩, ⟨by (with_reducible repeat (first | apply Kd.R_alloc | apply Kd.R_drewN | apply Kd.R_drew)); exact Kd.R_mono HO_10.out (fun _ hk => ⟨hk.1, ⟨hk.2.1, hk.2.2.2⟩⟩)⟩, ⟨by (with_reducible repeat (first | apply vA | apply vN | apply vD)); exact vM HO_146000.out (fun _ hk => ⟨hk.1, ⟨hk.2.2.1, ⟨hk.2.2.2.1, ⟨hk.2.1, ⟨hk.2.2.2.2.2.1, hk.2.2.2.2.2.2⟩⟩⟩⟩⟩)⟩, ⟨zb BK145⟩, ⟨zb BK146⟩, ⟨zo HB⟩⟩
      case round =>
       clear H'; try clear c1; try clear p1; try clear q1
       try clear hx1; try clear c2; try clear p2; try clear c3
       try clear c5; try clear p6; try clear c10; try clear c10b0
       try clear c15; try clear p15; try clear q15; try clear hx15
       try clear c29; try clear c29b0; try clear c30; try clear c30b0
       try clear c31; try clear c31b0; try clear c32; try clear c32b0
       try clear c33; try clear c33b0; try clear c34; try clear hx156_0
       try clear hx157_0; try clear hx157_1; try clear hx157_2; try clear p156
       try clear p157; try clear p2; try clear p6; try clear q156; try clear q157
       obtain ⟨x12_2, x61_2, rfl, HA, HK2, HO_0, HO_11, HO_12, HO_59, HO_146000, BK145, BK146, HB⟩ := hrel
       cases gk with
       | zero => exact absurd HA.out (by simp [shadow_all.l1])
       | succ k2 =>
        have H := HA.out; clear HA
        simp only [shadow_all.l1] at H
        by_cases c36 : x61_2 < (t150.length : Int)
        ·rw [if_pos c36] at H
         have c36b0 : decide (x61_2 < (t150.length : Int)) = true := decide_eq_true c36
         clear c36
         by_cases c37 : 0 ≤ x61_2
         ·rw [if_pos c37] at H
          have c37b0 : decide (0 ≤ x61_2) = true := decide_eq_true c37; clear c37
          by_cases c38 : x61_2 < (t150.length : Int)
          ·rw [if_pos c38] at H
           have c38b0 : decide (x61_2 < (t150.length : Int)) = true := decide_eq_true c38
           clear c38
           have H' := zK H; clear H
           have p161 : 0 ≤ (x61_2 : Int) := of_decide_eq_true (by first | (with_reducible assumption) | assumption)
           have q161 : x61_2 < (t150.length : Int) := of_decide_eq_true (by first | (with_reducible assumption) | assumption)
           obtain ⟨ad161, e161, hx161_0⟩ := Kd.at_int (Kd.R_reads' HO_59.out).2.2 x61_2 p161 q161
           cases e161
           replace p161 := eq_true p161
           replace q161 := eq_true q161
           go_wp2
           go_loopg [12, 67] k2 (fun kq v12 v67 w' => ∃ (x12_3 : List (S72)) (x67_3 : Int), v67 = .int .i64 x67_3 ∧ Aside0 (shadow_all.l2 kq l0 a1 a2 t153 x12_3 (rd t150 x61_2) t150 (t150.length : Int) x61_2 t153 (t153.length : Int) x67_3 = some (r1, r2)) ∧ Aside0 (kq ≤ k2) ∧ Aside0 (Kd.V k70 70 w' w.heap.size (fun k_ => (P0_ k_ ∨ w.heap.size ≤ k_) ∧ some k_ ≠ ((.slice Ao28 t153.length co28) : Value).ownBlock ∧ some k_ ≠ (v12 : Value).ownBlock ∧ some k_ ≠ ((.slice (some ad161) t150.length co27) : Value).ownBlock ∧ some k_ ≠ ((.slice Ao28 t153.length co28) : Value).ownBlock ∧ k_ ≠ gb145 ∧ k_ ≠ gb146) (.slice A0 l0.length c0) l0) ∧ Aside0 (Kd.R (Kd.int .i64) 3 w' w.heap.size (fun k_ => (w.heap.size ≤ k_) ∧ some k_ ≠ ((.slice (some ad161) t150.length co27) : Value).ownBlock ∧ k_ ≠ gb146) (.slice Ao28 t153.length co28) t153) ∧ Aside0 (Kd.N k72 72 w' w.heap.size (fun k_ => (P0_ k_ ∨ w.heap.size ≤ k_) ∧ some k_ ≠ ((.slice Ao28 t153.length co28) : Value).ownBlock ∧ some k_ ≠ ((.slice (some ad161) t150.length co27) : Value).ownBlock ∧ some k_ ≠ ((.slice Ao28 t153.length co28) : Value).ownBlock ∧ k_ ≠ gb145 ∧ k_ ≠ gb146) v12 x12_3) ∧ Aside0 (Kd.R (Kd.int .i64) 3 w' w.heap.size (fun k_ => (w.heap.size ≤ k_) ∧ some k_ ≠ ((.slice Ao28 t153.length co28) : Value).ownBlock ∧ some k_ ≠ ((.slice Ao28 t153.length co28) : Value).ownBlock ∧ k_ ≠ gb146) (.slice (some ad161) t150.length co27) t150) ∧ Aside0 (Kd.R (Kd.int .i64) 3 w' w.heap.size (fun k_ => (w.heap.size ≤ k_) ∧ some k_ ≠ ((.slice (some ad161) t150.length co27) : Value).ownBlock ∧ k_ ≠ gb146) (.slice Ao28 t153.length co28) t153) ∧ Aside0 (Kd.V k70 70 w' w.heap.size (fun k_ => (P0_ k_ ∨ w.heap.size ≤ k_) ∧ some k_ ≠ ((.slice Ao28 t153.length co28) : Value).ownBlock ∧ some k_ ≠ (v12 : Value).ownBlock ∧ some k_ ≠ ((.slice (some ad161) t150.length co27) : Value).ownBlock ∧ some k_ ≠ ((.slice Ao28 t153.length co28) : Value).ownBlock ∧ k_ ≠ gb145 ∧ k_ ≠ gb146) (.slice A0 l0.length c0) l0) ∧ Aside0 (w'.heap[gb145]? = some (.cells #[(.slice A0 l0.length c0)] 22 (0, 0))) ∧ Aside0 (w'.heap[gb146]? = some (.cells #[.int .i64 a1] 3 (0, 0))) ∧ Aside0 (Below w.heap.size w w'))
           case atStart => exact ⟨(x12_2), (0), (by first | rfl | (simp; done) | (simp [*]; done)), H', ⟨Nat.le_refl _⟩, ⟨by (with_reducible repeat (first | apply vA | apply vN | apply vD)); exact vM HO_0.out (fun _ hk => ⟨hk.1, ⟨hk.2.1, ⟨hk.2.2.1, ⟨hk.2.2.2.1, ⟨hk.2.1, ⟨hk.2.2.2.2.1, hk.2.2.2.2.2⟩⟩⟩⟩⟩⟩)⟩, ⟨zr HO_11⟩, ⟨by (with_reducible repeat (first | apply nA | apply nN | apply nD)); exact Kd.N_mono HO_12.out (fun _ hk => ⟨hk.1, ⟨hk.2.1, ⟨hk.2.2.1, ⟨hk.2.1, ⟨hk.2.2.2.1, hk.2.2.2.2⟩⟩⟩⟩⟩)⟩, ⟨by (with_reducible repeat (first | apply Kd.R_alloc | apply Kd.R_drewN | apply Kd.R_drew)); exact Kd.R_mono HO_59.out (fun _ hk => ⟨hk.1, ⟨hk.2.1, ⟨hk.2.1, hk.2.2⟩⟩⟩)⟩, ⟨zr HO_11⟩, ⟨by (with_reducible repeat (first | apply vA | apply vN | apply vD)); exact vM HO_146000.out (fun _ hk => ⟨hk.1, ⟨hk.2.1, ⟨hk.2.2.1, ⟨hk.2.2.2.1, ⟨hk.2.1, ⟨hk.2.2.2.2.1, hk.2.2.2.2.2⟩⟩⟩⟩⟩⟩)⟩, ⟨zb BK145⟩, ⟨zb BK146⟩, ⟨zo HB⟩⟩
           case round =>
            clear H'; try clear c1; try clear p1; try clear q1
            try clear hx1; try clear c2; try clear p2; try clear c3
            try clear c5; try clear p6; try clear c10; try clear c10b0
            try clear c15; try clear p15; try clear q15; try clear hx15
            try clear p16; try clear q16; try clear hx16; try clear c29
            try clear c29b0; try clear c30; try clear c30b0; try clear c31
            try clear c31b0; try clear c32; try clear c32b0; try clear c33
            try clear c33b0; try clear c34; try clear c36; try clear c36b0
            try clear c37; try clear c37b0; try clear c38; try clear c38b0
            try clear hx156_0; try clear hx157_0; try clear hx157_1; try clear hx157_2
            try clear hx161_0; try clear p1; try clear p15; try clear p156
            try clear p157; try clear p161; try clear p2; try clear p6
            try clear q1; try clear q15; try clear q156; try clear q157; try clear q161
            obtain ⟨x12_3, x67_3, rfl, HA, HK3, HO_0, HO_11, HO_12, HO_59, HO_65, HO_146000, BK145, BK146, HB⟩ := hrel
            cases gk with
            | zero => exact absurd HA.out (by simp [shadow_all.l2])
            | succ k3 =>
             have H := HA.out; clear HA
             simp only [shadow_all.l2] at H
             by_cases c39 : x67_3 < (t153.length : Int)
             ·rw [if_pos c39] at H
              have c39b0 : decide (x67_3 < (t153.length : Int)) = true := decide_eq_true c39
              clear c39
              by_cases c40 : 0 ≤ x67_3
              ·rw [if_pos c40] at H
               have c40b0 : decide (0 ≤ x67_3) = true := decide_eq_true c40; clear c40
               by_cases c41 : x67_3 < (t153.length : Int)
               ·rw [if_pos c41] at H
                have c41b0 : decide (x67_3 < (t153.length : Int)) = true := decide_eq_true c41
                clear c41
                by_cases c42 : 0 ≤ (rd t150 x61_2)
                ·rw [if_pos c42] at H
                 have c42b0 : decide (0 ≤ (rd t150 x61_2)) = true := decide_eq_true c42
                 clear c42
                 by_cases c43 : (rd t150 x61_2) < (l0.length : Int)
                 ·rw [if_pos c43] at H
                  have c43b0 : decide ((rd t150 x61_2) < (l0.length : Int)) = true := decide_eq_true c43
                  clear c43
                  by_cases c44 : 0 ≤ (rd t153 x67_3)
                  ·rw [if_pos c44] at H
                   have c44b0 : decide (0 ≤ (rd t153 x67_3)) = true := decide_eq_true c44
                   clear c44
                   by_cases c45 : (rd t153 x67_3) < (l0.length : Int)
                   ·rw [if_pos c45] at H
                    have c45b0 : decide ((rd t153 x67_3) < (l0.length : Int)) = true := decide_eq_true c45
                    clear c45; replace H := Option.bind_eq_some_iff.mp H
                    obtain ⟨⟨t165, t166, t169⟩, A460, H⟩ := H
                    replace H : (if t169 = true then (if x12_3.length < 2513169434916 then (shadow_all.l2 k3 l0 a1 a2 t153 (x12_3 ++ [(⟨(⟨(⟨t165, t166⟩ : S62), false⟩ : S70), (rd t150 x61_2), rd t153 x67_3⟩ : S72)]) (rd t150 x61_2) t150 (t150.length : Int) x61_2 t153 (t153.length : Int) (wrap64 (x67_3 + 1))) else (none)) else (some (([] : List (S72)), 5))) = some (r1, r2) := H
                    have A46 := zK A460; clear A460
                    by_cases c47 : t169 = true
                    ·subst c47
                     have H1 : (if x12_3.length < 2513169434916 then (shadow_all.l2 k3 l0 a1 a2 t153 (x12_3 ++ [(⟨(⟨(⟨t165, t166⟩ : S62), false⟩ : S70), (rd t150 x61_2), rd t153 x67_3⟩ : S72)]) (rd t150 x61_2) t150 (t150.length : Int) x61_2 t153 (t153.length : Int) (wrap64 (x67_3 + 1))) else (none)) = some (r1, r2) := by rw [if_pos rfl] at H; exact H
                     clear H; have H := H1; clear H1
                     by_cases c48 : x12_3.length < 2513169434916
                     ·rw [if_pos c48] at H
                      have LMc48 := zK c48; clear c48
                      obtain ⟨y171, hy171⟩ : ∃ y_ : List (S72), y_ = (x12_3 ++ [(⟨(⟨(⟨t165, t166⟩ : S62), false⟩ : S70), (rd t150 x61_2), rd t153 x67_3⟩ : S72)]) := ⟨_, rfl⟩
                      replace H : (shadow_all.l2 k3 l0 a1 a2 t153 y171 (rd t150 x61_2) t150 (t150.length : Int) x61_2 t153 (t153.length : Int) (wrap64 (x67_3 + 1))) = some (r1, r2) := by first | (rw [hy171]; with_reducible exact H) | (have H2_ := (Option.bind_some _ _).symm.trans H; rw [hy171]; with_reducible exact H2_) | (have H2_ := (Option.bind_some _ _).symm.trans H; with_reducible exact H2_) | with_reducible exact H | (rw [hy171]; exact H) | exact H
                      have Ny171 := zK hy171; clear hy171
                      have H' := zK H; clear H
                      have p162 : 0 ≤ (x67_3 : Int) := of_decide_eq_true (by first | (with_reducible assumption) | assumption)
                      have q162 : x67_3 < (t153.length : Int) := of_decide_eq_true (by first | (with_reducible assumption) | assumption)
                      obtain ⟨ad162, e162, hx162_0⟩ := Kd.at_int (Kd.R_reads' HO_65.out).2.2 x67_3 p162 q162
                      cases e162
                      replace p162 := eq_true p162
                      replace q162 := eq_true q162
                      try go_wp2
                      replace HO_0 := zK (vD HO_0.out)
                      replace HO_11 := zK (Kd.R_drew HO_11.out)
                      replace HO_12 := zK (nD HO_12.out)
                      replace HO_59 := zK (Kd.R_drew HO_59.out)
                      replace HO_65 := zK (Kd.R_drew HO_65.out)
                      replace HO_146000 := zK (vD HO_146000.out)
                      replace BK145 := zK (zD BK145.out)
                      replace BK146 := zK (zD BK146.out)
                      replace HB := zK (yD HB.out)
                      have p163 : 0 ≤ ((rd t150 x61_2) : Int) := of_decide_eq_true (by first | (with_reducible assumption) | assumption)
                      have q163 : (rd t150 x61_2) < (l0.length : Int) := of_decide_eq_true (by first | (with_reducible assumption) | assumption)
                      obtain ⟨ad163, A163_1, c163_1, e163, hx163_0, hx163_1, hx163_2, hl163_1, hi163_1⟩ := at_T70 (Kd.V_reads' HO_0.out).2.2 (rd t150 x61_2) p163 q163
                      cases e163
                      obtain ⟨ce163, hce163, hMe163, hcc163⟩ := Kd.V_get HO_0.out z70 (rd t150 x61_2) p163 (by first | exact q163 | exact of_decide_eq_true (by first | (with_reducible assumption) | assumption) | (have e_ := (Kd.V_reads' HO_0.out).1; omega))
                      obtain ⟨ua163_1, uc163_1, rfl, ul163_1, ge163_1⟩ := k70_openF hMe163
                      have hv163_1 := hcc163 1 _ rfl
                      rw [add_field _ _ 1 (by omega)] at hv163_1
                      replace hv163_1 := Option.some.inj (hv163_1.symm.trans hx163_1)
                      injection hv163_1 with hva_ hvn_ hvc_
                      rw [hva_] at ge163_1
                      rw [hvc_] at ul163_1
                      have HL163_1 := zK (show Kd.V k68 68 _ w.heap.size _ _ ((rd_T70 l0 (rd t150 x61_2)).f0.f1) from Kd.V_mk ul163_1 ge163_1)
                      clear hva_ hvn_ hvc_ ge163_1 ul163_1 hcc163 hce163
                      have HR163_1 := zK hi163_1
                      have HC163_1 := zK hl163_1; clear hi163_1 hl163_1
                      replace p163 := eq_true p163
                      replace q163 := eq_true q163
                      have p164 : 0 ≤ ((rd t153 x67_3) : Int) := of_decide_eq_true (by first | (with_reducible assumption) | assumption)
                      have q164 : (rd t153 x67_3) < (l0.length : Int) := of_decide_eq_true (by first | (with_reducible assumption) | assumption)
                      obtain ⟨ad164, A164_1, c164_1, e164, hx164_0, hx164_1, hx164_2, hl164_1, hi164_1⟩ := at_T70 (Kd.V_reads' HO_0.out).2.2 (rd t153 x67_3) p164 q164
                      obtain rfl : ad163 = ad164 := (by injection e164)
                      obtain ⟨ce164, hce164, hMe164, hcc164⟩ := Kd.V_get HO_0.out z70 (rd t153 x67_3) p164 (by first | exact q164 | exact of_decide_eq_true (by first | (with_reducible assumption) | assumption) | (have e_ := (Kd.V_reads' HO_0.out).1; omega))
                      obtain ⟨ua164_1, uc164_1, rfl, ul164_1, ge164_1⟩ := k70_openF hMe164
                      have hv164_1 := hcc164 1 _ rfl
                      rw [add_field _ _ 1 (by omega)] at hv164_1
                      replace hv164_1 := Option.some.inj (hv164_1.symm.trans hx164_1)
                      injection hv164_1 with hva_ hvn_ hvc_
                      rw [hva_] at ge164_1
                      rw [hvc_] at ul164_1
                      have HL164_1 := zK (show Kd.V k68 68 _ w.heap.size _ _ ((rd_T70 l0 (rd t153 x67_3)).f0.f1) from Kd.V_mk ul164_1 ge164_1)
                      clear hva_ hvn_ hvc_ ge164_1 ul164_1 hcc164 hce164
                      have HR164_1 := zK hi164_1
                      have HC164_1 := zK hl164_1; clear hi164_1 hl164_1
                      replace p164 := eq_true p164
                      replace q164 := eq_true q164
                      refine start_ (n := 19) (S := fun w' => w'.cell? (ad163.add (((rd t150 x61_2)).toNat * 3)) = some (.int .i64 ((rd_T70 l0 (rd t150 x61_2)).f0.f0)) ∧ w'.cell? ⟨(ad163.add (((rd t150 x61_2)).toNat * 3)).block, (ad163.add (((rd t150 x61_2)).toNat * 3)).off + 1, none⟩ = some (.slice A163_1 ((rd_T70 l0 (rd t150 x61_2)).f0.f1).length c163_1) ∧ w'.cell? ⟨(ad163.add (((rd t150 x61_2)).toNat * 3)).block, (ad163.add (((rd t150 x61_2)).toNat * 3)).off + 2, none⟩ = some (.bool ((rd_T70 l0 (rd t150 x61_2)).f1)) ∧ w'.cell? (ad163.add (((rd t153 x67_3)).toNat * 3)) = some (.int .i64 ((rd_T70 l0 (rd t153 x67_3)).f0.f0)) ∧ w'.cell? ⟨(ad163.add (((rd t153 x67_3)).toNat * 3)).block, (ad163.add (((rd t153 x67_3)).toNat * 3)).off + 1, none⟩ = some (.slice A164_1 ((rd_T70 l0 (rd t153 x67_3)).f0.f1).length c164_1) ∧ w'.cell? ⟨(ad163.add (((rd t153 x67_3)).toNat * 3)).block, (ad163.add (((rd t153 x67_3)).toNat * 3)).off + 2, none⟩ = some (.bool ((rd_T70 l0 (rd t153 x67_3)).f1))) (ds := []) #[F_,F_,F_,F_,F_,F_,F_,F_,F_,F_,F_,F_,F_,F_,F_,F_,F_,F_,F_] (by kernel_rfl) rfl rfl ⟨hx163_0, hx163_1, hx163_2, hx164_0, hx164_1, hx164_2⟩ (fun hHeld => ?_); refine with_tabW shadow_all.tab19 shadow_all.bits19 (fun HT_ HW_ => ?_)
                      generalize wr.drew = w49 at HO_0 HO_11 HO_12 HO_59 HO_65 HO_146000 BK145 BK146 HB HL163_1 HL164_1 HR163_1 HR164_1 hx163_0 hx163_1 hx163_2 hx164_0 hx164_1 hx164_2 hHeld ⊢
                      refine pure_ (i := 0) (N := some 72) (v := ?_) (a' := ?_) #[T_,F_,F_,F_,F_,F_,F_,F_,F_,F_,F_,F_,F_,F_,F_,F_,F_,F_,F_] rfl rfl (any_of HT_.out (by kernel_rfl)) (fun _ _ _ h => h) (Or.inl ⟨by rfl, ?_⟩) ?_ ?_; rotate_left; (intro w'; go_simp; with_reducible rfl); rotate_left; (simp only [Act.put, zt, zz, zs, i64_w, i32_w]; rfl)
                      refine pure_ (i := 1) (N := some 73) (v := ?_) (a' := ?_) #[T_,T_,F_,F_,F_,F_,F_,F_,F_,F_,F_,F_,F_,F_,F_,F_,F_,F_,F_] rfl rfl (any_of HT_.out (by kernel_rfl)) (fun _ _ _ h => h) (Or.inl ⟨by rfl, ?_⟩) ?_ ?_; rotate_left; (intro w'; go_simp; with_reducible rfl); rotate_left; (simp only [Act.put, zt, zz, zs, i64_w, i32_w]; rfl)
                      refine pure_ (i := 2) (N := some 74) (v := ?_) (a' := ?_) #[T_,T_,T_,F_,F_,F_,F_,F_,F_,F_,F_,F_,F_,F_,F_,F_,F_,F_,F_] rfl rfl (any_of HT_.out (by kernel_rfl)) (fun _ _ _ h => h) (Or.inl ⟨by rfl, ?_⟩) ?_ ?_; rotate_left; (intro w'; go_simp; with_reducible rfl); rotate_left; (simp only [Act.put, zt, zz, zs, i64_w, i32_w]; rfl)
                      refine pure_ (i := 3) (N := some 75) (v := ?_) (a' := ?_) #[T_,T_,T_,T_,F_,F_,F_,F_,F_,F_,F_,F_,F_,F_,F_,F_,F_,F_,F_] rfl rfl (any_of HT_.out (by kernel_rfl)) (fun _ _ _ h => h) (Or.inl ⟨by rfl, ?_⟩) ?_ ?_; rotate_left; (intro w'; go_simp; with_reducible rfl); rotate_left; (simp only [Act.put, zt, zz, zs, i64_w, i32_w]; rfl)
                      refine pure_ (i := 5) (N := some 77) (v := ?_) (a' := ?_) #[T_,T_,T_,T_,F_,T_,F_,F_,F_,F_,F_,F_,F_,F_,F_,F_,F_,F_,F_] rfl rfl (any_of HT_.out (by kernel_rfl)) (fun _ _ _ h => h) (Or.inl ⟨by rfl, ?_⟩) ?_ ?_; rotate_left; (intro w'; go_simp; with_reducible rfl); rotate_left; (simp only [Act.put, zt, zz, zs, i64_w, i32_w]; rfl)
                      refine pure_ (i := 6) (N := some 78) (v := ?_) (a' := ?_) #[T_,T_,T_,T_,F_,T_,T_,F_,F_,F_,F_,F_,F_,F_,F_,F_,F_,F_,F_] rfl rfl (any_of HT_.out (by kernel_rfl)) (fun _ _ _ h => h) (Or.inl ⟨by rfl, ?_⟩) ?_ ?_; rotate_left; (intro w'; go_simp; with_reducible rfl); rotate_left; (simp only [Act.put, zt, zz, zs, i64_w, i32_w]; rfl)
                      refine pure_ (i := 7) (N := some 79) (v := ?_) (a' := ?_) #[T_,T_,T_,T_,F_,T_,T_,T_,F_,F_,F_,F_,F_,F_,F_,F_,F_,F_,F_] rfl rfl (any_of HT_.out (by kernel_rfl)) (fun _ _ _ h => h) (Or.inl ⟨by rfl, ?_⟩) ?_ ?_; rotate_left; (intro w'; go_simp; with_reducible rfl); rotate_left; (simp only [Act.put, zt, zz, zs, i64_w, i32_w]; rfl)
                      refine pure_ (i := 8) (N := some 80) (v := ?_) (a' := ?_) #[T_,T_,T_,T_,F_,T_,T_,T_,T_,F_,F_,F_,F_,F_,F_,F_,F_,F_,F_] rfl rfl (any_of HT_.out (by kernel_rfl)) (fun _ _ _ h => h) (Or.inl ⟨by rfl, ?_⟩) ?_ ?_; rotate_left; (intro w'; go_simp; with_reducible rfl); rotate_left; (simp only [Act.put, zt, zz, zs, i64_w, i32_w]; rfl)
                      refine pure_ (i := 10) (N := some 82) (v := ?_) (a' := ?_) #[T_,T_,T_,T_,F_,T_,T_,T_,T_,F_,T_,F_,F_,F_,F_,F_,F_,F_,F_] rfl rfl (any_of HT_.out (by kernel_rfl)) (fun _ _ _ h => h) (Or.inl ⟨by rfl, ?_⟩) ?_ ?_; rotate_left; (intro w'; go_simp; with_reducible rfl); rotate_left; (simp only [Act.put, zt, zz, zs, i64_w, i32_w]; rfl)
                      refine pure_ (i := 11) (N := some 83) (v := ?_) (a' := ?_) #[T_,T_,T_,T_,F_,T_,T_,T_,T_,F_,T_,T_,F_,F_,F_,F_,F_,F_,F_] rfl rfl (any_of HT_.out (by kernel_rfl)) (fun _ _ _ h => h) (Or.inl ⟨by rfl, ?_⟩) ?_ ?_; rotate_left; (intro w'; go_simp; with_reducible rfl); rotate_left; (simp only [Act.put, zt, zz, zs, i64_w, i32_w]; rfl)
                      refine take_ (i := 4) (N := some 76) (v := ?_) (a' := ?_) #[T_,T_,T_,T_,T_,T_,T_,T_,T_,F_,T_,T_,F_,F_,F_,F_,F_,F_,F_] rfl rfl (take_ofW HT_.out HW_.out (by kernel_rfl)) (fun _ _ _ h => h) (Or.inl ⟨by rfl, ?_⟩) hHeld ?_ ?_; rotate_left; (rintro w' ⟨s0, s1, s2, s3, s4, s5⟩; go_simp; with_reducible rfl); rotate_left; (simp only [Act.put, zt, zz, zs, i64_w, i32_w]; rfl)
                      refine take_ (i := 9) (N := some 81) (v := ?_) (a' := ?_) #[T_,T_,T_,T_,T_,T_,T_,T_,T_,T_,T_,T_,F_,F_,F_,F_,F_,F_,F_] rfl rfl (take_ofW HT_.out HW_.out (by kernel_rfl)) (fun _ _ _ h => h) (Or.inl ⟨by rfl, ?_⟩) hHeld ?_ ?_; rotate_left; (rintro w' ⟨s0, s1, s2, s3, s4, s5⟩; go_simp; with_reducible rfl); rotate_left; (simp only [Act.put, zt, zz, zs, i64_w, i32_w]; rfl)
                      refine join_ (σ := Value × Nat) 2 #[T_,T_,T_,T_,T_,T_,T_,T_,T_,T_,T_,T_,T_,T_,T_,T_,T_,F_,F_] (fun s_ => [(84, .tuple #[.agg #[.int .i64 t165, s_.1], .bool true]), (19, .pointer (some ⟨s_.2, 0, none⟩)), (71, .tuple #[.agg #[.int .i64 t165, s_.1], .bool true]), (85, .agg #[.int .i64 t165, s_.1]), (86, .bool true)]) (fun s_ w' => (w'.cell? (ad163.add (((rd t150 x61_2)).toNat * 3)) = some (.int .i64 ((rd_T70 l0 (rd t150 x61_2)).f0.f0)) ∧ w'.cell? ⟨(ad163.add (((rd t150 x61_2)).toNat * 3)).block, (ad163.add (((rd t150 x61_2)).toNat * 3)).off + 1, none⟩ = some (.slice A163_1 ((rd_T70 l0 (rd t150 x61_2)).f0.f1).length c163_1) ∧ w'.cell? ⟨(ad163.add (((rd t150 x61_2)).toNat * 3)).block, (ad163.add (((rd t150 x61_2)).toNat * 3)).off + 2, none⟩ = some (.bool ((rd_T70 l0 (rd t150 x61_2)).f1)) ∧ w'.cell? (ad163.add (((rd t153 x67_3)).toNat * 3)) = some (.int .i64 ((rd_T70 l0 (rd t153 x67_3)).f0.f0)) ∧ w'.cell? ⟨(ad163.add (((rd t153 x67_3)).toNat * 3)).block, (ad163.add (((rd t153 x67_3)).toNat * 3)).off + 1, none⟩ = some (.slice A164_1 ((rd_T70 l0 (rd t153 x67_3)).f0.f1).length c164_1) ∧ w'.cell? ⟨(ad163.add (((rd t153 x67_3)).toNat * 3)).block, (ad163.add (((rd t153 x67_3)).toNat * 3)).off + 2, none⟩ = some (.bool ((rd_T70 l0 (rd t153 x67_3)).f1))) ∧ (Kd.V k68 68 w' w.heap.size (fun k_ => (P0_ k_ ∨ w.heap.size ≤ k_) ∧ some k_ ≠ (s_.1 : Value).ownBlock ∧ some k_ ≠ (.slice (some ad162) t153.length co28 : Value).ownBlock ∧ some k_ ≠ (u12 : Value).ownBlock ∧ some k_ ≠ (.slice (some ad161) t150.length co27 : Value).ownBlock ∧ some k_ ≠ (.slice (some ad162) t153.length co28 : Value).ownBlock ∧ k_ ≠ gb145 ∧ k_ ≠ gb146 ∧ k_ ≠ s_.2) (.slice A163_1 ((rd_T70 l0 (rd t150 x61_2)).f0.f1).length c163_1) ((rd_T70 l0 (rd t150 x61_2)).f0.f1)) ∧ (Kd.V k68 68 w' w.heap.size (fun k_ => (P0_ k_ ∨ w.heap.size ≤ k_) ∧ some k_ ≠ (s_.1 : Value).ownBlock ∧ some k_ ≠ (.slice (some ad162) t153.length co28 : Value).ownBlock ∧ some k_ ≠ (u12 : Value).ownBlock ∧ some k_ ≠ (.slice (some ad161) t150.length co27 : Value).ownBlock ∧ some k_ ≠ (.slice (some ad162) t153.length co28 : Value).ownBlock ∧ k_ ≠ gb145 ∧ k_ ≠ gb146 ∧ k_ ≠ s_.2) (.slice A164_1 ((rd_T70 l0 (rd t153 x67_3)).f0.f1).length c164_1) ((rd_T70 l0 (rd t153 x67_3)).f0.f1)) ∧ (Kd.R k68 68 w' w.heap.size (fun k_ => (w.heap.size ≤ k_)) s_.1 t166) ∧ (Kd.V k70 70 w' w.heap.size (fun k_ => (P0_ k_ ∨ w.heap.size ≤ k_) ∧ some k_ ≠ (s_.1 : Value).ownBlock ∧ some k_ ≠ (.slice (some ad162) t153.length co28 : Value).ownBlock ∧ some k_ ≠ (u12 : Value).ownBlock ∧ some k_ ≠ (.slice (some ad161) t150.length co27 : Value).ownBlock ∧ some k_ ≠ (.slice (some ad162) t153.length co28 : Value).ownBlock ∧ k_ ≠ gb145 ∧ k_ ≠ gb146 ∧ k_ ≠ s_.2) (.slice (some ad163) l0.length c0) l0) ∧ (Kd.R (Kd.int .i64) 3 w' w.heap.size (fun k_ => (w.heap.size ≤ k_) ∧ some k_ ≠ (.slice (some ad161) t150.length co27 : Value).ownBlock ∧ k_ ≠ gb146) (.slice (some ad162) t153.length co28) t153) ∧ (Kd.N k72 72 w' w.heap.size (fun k_ => (P0_ k_ ∨ w.heap.size ≤ k_) ∧ some k_ ≠ (s_.1 : Value).ownBlock ∧ some k_ ≠ (.slice (some ad162) t153.length co28 : Value).ownBlock ∧ some k_ ≠ (.slice (some ad161) t150.length co27 : Value).ownBlock ∧ some k_ ≠ (.slice (some ad162) t153.length co28 : Value).ownBlock ∧ k_ ≠ gb145 ∧ k_ ≠ gb146 ∧ k_ ≠ s_.2) u12 x12_3) ∧ (Kd.V k70 70 w' w.heap.size (fun k_ => (P0_ k_ ∨ w.heap.size ≤ k_) ∧ some k_ ≠ (s_.1 : Value).ownBlock ∧ some k_ ≠ (.slice (some ad162) t153.length co28 : Value).ownBlock ∧ some k_ ≠ (u12 : Value).ownBlock ∧ some k_ ≠ (.slice (some ad161) t150.length co27 : Value).ownBlock ∧ some k_ ≠ (.slice (some ad162) t153.length co28 : Value).ownBlock ∧ k_ ≠ gb145 ∧ k_ ≠ gb146 ∧ k_ ≠ s_.2) (.slice (some ad163) l0.length c0) l0) ∧ (Kd.R (Kd.int .i64) 3 w' w.heap.size (fun k_ => (w.heap.size ≤ k_) ∧ some k_ ≠ (.slice (some ad162) t153.length co28 : Value).ownBlock ∧ some k_ ≠ (.slice (some ad162) t153.length co28 : Value).ownBlock ∧ k_ ≠ gb146) (.slice (some ad161) t150.length co27) t150) ∧ (Kd.R (Kd.int .i64) 3 w' w.heap.size (fun k_ => (w.heap.size ≤ k_) ∧ some k_ ≠ (.slice (some ad161) t150.length co27 : Value).ownBlock ∧ k_ ≠ gb146) (.slice (some ad162) t153.length co28) t153) ∧ (w'.heap[gb145]? = some (.cells #[.slice (some ad163) l0.length c0] 22 (0, 0))) ∧ (w'.heap[gb146]? = some (.cells #[.int .i64 a1] 3 (0, 0))) ∧ (w'.heap[s_.2]? = some (.cells #[.int .i64 0, .slice none 0 0] 62 (0, 0))) ∧ (w.heap.size ≤ s_.2) ∧ (w.heap.size ≤ s_.2) ∧ (gb145 ≠ s_.2) ∧ (s_.2 ≠ gb145) ∧ (gb146 ≠ s_.2) ∧ (s_.2 ≠ gb146) ∧ (Below w.heap.size w w')) ?_ ?_
                      rotate_left
                      ·intro hCont
                       refine two_ (i := 12) (j := 16) (Ni := some 84) (Nj := some 19) #[T_,T_,T_,T_,T_,T_,T_,T_,T_,T_,T_,T_,T_,F_,F_,F_,F_,F_,F_] #[T_,T_,T_,T_,T_,T_,T_,T_,T_,T_,T_,T_,F_,F_,F_,F_,T_,F_,F_] rfl rfl rfl rfl (two_of HT_.out (by kernel_rfl)) (by decide) (by decide) (fun K hK => ?_) (fun K hK => ?_)
                       ·skip
                        refine goes_ Try.func77 (by kernel_rfl) rfl #[.agg #[.int .i64 ((rd_T70 l0 (rd t150 x61_2)).f0.f0), .slice A163_1 ((rd_T70 l0 (rd t150 x61_2)).f0.f1).length c163_1], .agg #[.int .i64 ((rd_T70 l0 (rd t153 x67_3)).f0.f0), .slice A164_1 ((rd_T70 l0 (rd t153 x67_3)).f0.f1).length c164_1], .int .i64 a1, .bool a2] (by rfl) rfl rfl (by (try simp only [List.map_toArray, List.map_cons, List.map_nil]); first | done | rfl | (simp only [List.length_drop, List.length_take]; rfl)) ?_
                        with_reducible refine (shadow_shade.calls k3 ((rd_T70 l0 (rd t150 x61_2)).f0.f0) _ _ ((rd_T70 l0 (rd t150 x61_2)).f0.f1) ((rd_T70 l0 (rd t153 x67_3)).f0.f0) _ _ ((rd_T70 l0 (rd t153 x67_3)).f0.f1) a1 a2 t165 t166 true _ ?side1 ?side2 ?side3 ?side4 A46.out).mono ?_
                        (case side1 => repeat (first | exact (by repeat (first | (with_reducible exact HR163_1.out) | (with_reducible refine cA ?_ _) | (with_reducible refine cN ?_ _) | (with_reducible refine cD ?_) | exact HR163_1.out)) | (with_reducible refine cA ?_ _) | (with_reducible refine cN ?_ _) | (with_reducible refine cD ?_)))
                        (case side2 => exact HC163_1.out)
                        (case side3 => repeat (first | exact (by repeat (first | (with_reducible exact HR164_1.out) | (with_reducible refine cA ?_ _) | (with_reducible refine cN ?_ _) | (with_reducible refine cD ?_) | exact HR164_1.out)) | (with_reducible refine cA ?_ _) | (with_reducible refine cN ?_ _) | (with_reducible refine cD ?_)))
                        (case side4 => exact HC164_1.out)
                        rintro e w50 ⟨v167, rfl, ho0, hb⟩
                        have HS0_ := (hb.cell (World.block_lt_of_cell? _ _ (hHeld.1))).trans (hHeld.1)
                        have HS1_ := (hb.cell (World.block_lt_of_cell? _ _ (hHeld.2.1))).trans (hHeld.2.1)
                        have HS2_ := (hb.cell (World.block_lt_of_cell? _ _ (hHeld.2.2.1))).trans (hHeld.2.2.1)
                        have HS3_ := (hb.cell (World.block_lt_of_cell? _ _ (hHeld.2.2.2.1))).trans (hHeld.2.2.2.1)
                        have HS4_ := (hb.cell (World.block_lt_of_cell? _ _ (hHeld.2.2.2.2.1))).trans (hHeld.2.2.2.2.1)
                        have HS5_ := (hb.cell (World.block_lt_of_cell? _ _ (hHeld.2.2.2.2.2))).trans (hHeld.2.2.2.2.2)
                        refine ⟨_, rfl, ?_⟩
                        replace HO_0 := zK (Kd.V_elder' (zv HO_0) (Kd.R_base ho0) hb)
                        replace HO_11 := zK (Kd.R_below (zr HO_11) hb)
                        replace HO_12 := zK (Kd.N_elder' (zn HO_12) (Kd.R_base ho0) hb)
                        replace HO_59 := zK (Kd.R_below (zr HO_59) hb)
                        replace HO_65 := zK (Kd.R_below (zr HO_65) hb)
                        replace HO_146000 := zK (Kd.V_elder' (zv HO_146000) (Kd.R_base ho0) hb)
                        replace HL163_1 := zK (Kd.V_elder' (zv HL163_1) (Kd.R_base ho0) hb)
                        replace HL164_1 := zK (Kd.V_elder' (zv HL164_1) (Kd.R_base ho0) hb)
                        have HO168 := zK (Kd.R_lower (Kd.R_newM (M := fun k_ => (w.heap.size ≤ k_)) ho0 (below_size (zo HB)) (fun k_ h_ => h_)) (below_size (zo HB)))
                        replace BK145 := zK (blk_below (g := gb145) (o := .cells #[.slice (some ad163) l0.length c0] 22 (0, 0)) (zb BK145) hb)
                        replace BK146 := zK (blk_below (g := gb146) (o := .cells #[.int .i64 a1] 3 (0, 0)) (zb BK146) hb)
                        replace HR163_1 := zK (Kd.C_below (by repeat (first | (with_reducible exact HR163_1.out) | (with_reducible refine cA ?_ _) | (with_reducible refine cN ?_ _) | (with_reducible refine cD ?_) | exact HR163_1.out)) hb)
                        replace HR164_1 := zK (Kd.C_below (by repeat (first | (with_reducible exact HR164_1.out) | (with_reducible refine cA ?_ _) | (with_reducible refine cN ?_ _) | (with_reducible refine cD ?_) | exact HR164_1.out)) hb)
                        replace HB := zK (below_step (zo HB) hb)
                        (try clear hb); (try clear hb2); (try clear hk); (try clear hi)
                        (try clear ho0)
                        refine hK.out _ _ ⟨HS0_, HS1_, HS2_, HS3_, HS4_, HS5_⟩ (fun hHeld => ?_)
                        clear hK K
                        refine norm_ (a' := ?_) ?_ ?_; rotate_left; (show Act.put _ (some 84) _ = _; simp only [Act.put, zt, zz, zs, i64_w, i32_w]; rfl)
                        refine pure_ (i := 13) (N := some 71) (v := ?_) (a' := ?_) #[T_,T_,T_,T_,T_,T_,T_,T_,T_,T_,T_,T_,T_,T_,F_,F_,F_,F_,F_] rfl rfl (any_of HT_.out (by kernel_rfl)) (fun _ _ _ h => h) (Or.inl ⟨by rfl, ?_⟩) ?_ ?_; rotate_left; (intro w'; go_simp; with_reducible rfl); rotate_left; (simp only [Act.put, zt, zz, zs, i64_w, i32_w]; rfl)
                        refine pure_ (i := 14) (N := some 85) (v := ?_) (a' := ?_) #[T_,T_,T_,T_,T_,T_,T_,T_,T_,T_,T_,T_,T_,T_,T_,F_,F_,F_,F_] rfl rfl (any_of HT_.out (by kernel_rfl)) (fun _ _ _ h => h) (Or.inl ⟨by rfl, ?_⟩) ?_ ?_; rotate_left; (intro w'; go_simp; with_reducible rfl); rotate_left; (simp only [Act.put, zt, zz, zs, i64_w, i32_w]; rfl)
                        refine pure_ (i := 15) (N := some 86) (v := ?_) (a' := ?_) #[T_,T_,T_,T_,T_,T_,T_,T_,T_,T_,T_,T_,T_,T_,T_,T_,F_,F_,F_] rfl rfl (any_of HT_.out (by kernel_rfl)) (fun _ _ _ h => h) (Or.inl ⟨by rfl, ?_⟩) ?_ ?_; rotate_left; (intro w'; go_simp; with_reducible rfl); rotate_left; (simp only [Act.put, zt, zz, zs, i64_w, i32_w]; rfl)
                        refine one_ (i := 16) (N := some 19) #[T_,T_,T_,T_,T_,T_,T_,T_,T_,T_,T_,T_,T_,T_,T_,T_,T_,F_,F_] rfl rfl (one_of HT_.out (by kernel_rfl)) (by decide) (fun K hK => ?_)
                        refine box_step ?hg (N := 19) ?hd (cs := #[.int .i64 0, .slice none 0 0]) (t := 62) ?hr ?_; (case hd => rfl); (case hg => rfl); (case hr => first | (go_simp; done) | (go_simp; rfl))
                        intro gb170 hg w51 hbox hb
                        have HS0_ := (hb.cell (World.block_lt_of_cell? _ _ (hHeld.1))).trans (hHeld.1)
                        have HS1_ := (hb.cell (World.block_lt_of_cell? _ _ (hHeld.2.1))).trans (hHeld.2.1)
                        have HS2_ := (hb.cell (World.block_lt_of_cell? _ _ (hHeld.2.2.1))).trans (hHeld.2.2.1)
                        have HS3_ := (hb.cell (World.block_lt_of_cell? _ _ (hHeld.2.2.2.1))).trans (hHeld.2.2.2.1)
                        have HS4_ := (hb.cell (World.block_lt_of_cell? _ _ (hHeld.2.2.2.2.1))).trans (hHeld.2.2.2.2.1)
                        have HS5_ := (hb.cell (World.block_lt_of_cell? _ _ (hHeld.2.2.2.2.2))).trans (hHeld.2.2.2.2.2)
                        replace HO_0 := zK (Kd.V_below (Kd.V_elderB (zv HO_0) gb170 (Nat.le_of_eq hg.symm)) hb)
                        replace HO_11 := zK (Kd.R_below (zr HO_11) hb)
                        replace HO_12 := zK (Kd.N_below (Kd.N_elderB (zn HO_12) gb170 (Nat.le_of_eq hg.symm)) hb)
                        replace HO_59 := zK (Kd.R_below (zr HO_59) hb)
                        replace HO_65 := zK (Kd.R_below (zr HO_65) hb)
                        replace HO_146000 := zK (Kd.V_below (Kd.V_elderB (zv HO_146000) gb170 (Nat.le_of_eq hg.symm)) hb)
                        replace HL163_1 := zK (Kd.V_below (Kd.V_elderB (zv HL163_1) gb170 (Nat.le_of_eq hg.symm)) hb)
                        replace HL164_1 := zK (Kd.V_below (Kd.V_elderB (zv HL164_1) gb170 (Nat.le_of_eq hg.symm)) hb)
                        replace HO168 := zK (Kd.R_below (zr HO168) hb)
                        replace HR163_1 := zK (Kd.C_below (by repeat (first | (with_reducible exact HR163_1.out) | (with_reducible refine cA ?_ _) | (with_reducible refine cN ?_ _) | (with_reducible refine cD ?_) | exact HR163_1.out)) hb)
                        replace HR164_1 := zK (Kd.C_below (by repeat (first | (with_reducible exact HR164_1.out) | (with_reducible refine cA ?_ _) | (with_reducible refine cN ?_ _) | (with_reducible refine cD ?_) | exact HR164_1.out)) hb)
                        have BK170 := zK (hbox)
                        have GW170 := zK ((by rw [hg]; exact (below_size (zo HB)) : w.heap.size ≤ gb170))
                        have GE170 := zK ((by rw [hg]; exact (below_size (zo HB)) : w.heap.size ≤ gb170))
                        replace HB := zK (below_step (zo HB) hb)
                        have NB145_170 := zK ((by rw [hg]; exact Nat.ne_of_lt (blk_lt (g := gb145) (o := .cells #[.slice (some ad163) l0.length c0] 22 (0, 0)) (zb BK145)) : gb145 ≠ gb170))
                        have NB170_145 := zK ((by rw [hg]; exact Nat.ne_of_gt (blk_lt (g := gb145) (o := .cells #[.slice (some ad163) l0.length c0] 22 (0, 0)) (zb BK145)) : gb170 ≠ gb145))
                        replace BK145 := zK (blk_below (g := gb145) (o := .cells #[.slice (some ad163) l0.length c0] 22 (0, 0)) (zb BK145) hb)
                        have NB146_170 := zK ((by rw [hg]; exact Nat.ne_of_lt (blk_lt (g := gb146) (o := .cells #[.int .i64 a1] 3 (0, 0)) (zb BK146)) : gb146 ≠ gb170))
                        have NB170_146 := zK ((by rw [hg]; exact Nat.ne_of_gt (blk_lt (g := gb146) (o := .cells #[.int .i64 a1] 3 (0, 0)) (zb BK146)) : gb170 ≠ gb146))
                        replace BK146 := zK (blk_below (g := gb146) (o := .cells #[.int .i64 a1] 3 (0, 0)) (zb BK146) hb)
                        clear hb hbox hg
                        refine hK.out _ _ ⟨HS0_, HS1_, HS2_, HS3_, HS4_, HS5_⟩ (fun hHeld => ?_)
                        clear hK K
                        refine norm_ (a' := ?_) ?_ ?_; rotate_left; (show Act.put _ (some 19) _ = _; simp only [Act.put, zt, zz, zs, i64_w, i32_w]; rfl)
                        exact norm_ (by simp only [putAll, Act.put, zt, zz, zs]) (hCont (v167, gb170) _ ⟨hHeld, (by (with_reducible repeat (first | apply vA | apply vN | apply vD)); exact vM HL163_1.out (fun _ hk => ⟨hk.1.1.1, ⟨hk.1.2, ⟨hk.1.1.2.1, ⟨hk.1.1.2.2.1, ⟨hk.1.1.2.2.2.1, ⟨hk.1.1.2.2.2.2.1, ⟨hk.1.1.2.2.2.2.2.1, ⟨hk.1.1.2.2.2.2.2.2, hk.2⟩⟩⟩⟩⟩⟩⟩⟩)), (by (with_reducible repeat (first | apply vA | apply vN | apply vD)); exact vM HL164_1.out (fun _ hk => ⟨hk.1.1.1, ⟨hk.1.2, ⟨hk.1.1.2.1, ⟨hk.1.1.2.2.1, ⟨hk.1.1.2.2.2.1, ⟨hk.1.1.2.2.2.2.1, ⟨hk.1.1.2.2.2.2.2.1, ⟨hk.1.1.2.2.2.2.2.2, hk.2⟩⟩⟩⟩⟩⟩⟩⟩)), (by (with_reducible repeat (first | apply Kd.R_alloc | apply Kd.R_drewN | apply Kd.R_drew)); exact Kd.R_mono HO168.out (fun _ hk => hk.1)), (by (with_reducible repeat (first | apply vA | apply vN | apply vD)); exact vM HO_0.out (fun _ hk => ⟨hk.1.1.1, ⟨hk.1.2, ⟨hk.1.1.2.1, ⟨hk.1.1.2.2.1, ⟨hk.1.1.2.2.2.1, ⟨hk.1.1.2.2.2.2.1, ⟨hk.1.1.2.2.2.2.2.1, ⟨hk.1.1.2.2.2.2.2.2, hk.2⟩⟩⟩⟩⟩⟩⟩⟩)), (zr HO_11), (by (with_reducible repeat (first | apply nA | apply nN | apply nD)); exact Kd.N_mono HO_12.out (fun _ hk => ⟨hk.1.1.1, ⟨hk.1.2, ⟨hk.1.1.2.1, ⟨hk.1.1.2.2.1, ⟨hk.1.1.2.2.2.1, ⟨hk.1.1.2.2.2.2.1, ⟨hk.1.1.2.2.2.2.2, hk.2⟩⟩⟩⟩⟩⟩⟩)), (by (with_reducible repeat (first | apply vA | apply vN | apply vD)); exact vM HO_146000.out (fun _ hk => ⟨hk.1.1.1, ⟨hk.1.2, ⟨hk.1.1.2.1, ⟨hk.1.1.2.2.1, ⟨hk.1.1.2.2.2.1, ⟨hk.1.1.2.2.2.2.1, ⟨hk.1.1.2.2.2.2.2.1, ⟨hk.1.1.2.2.2.2.2.2, hk.2⟩⟩⟩⟩⟩⟩⟩⟩)), (zr HO_59), (zr HO_65), (zb BK145), (zb BK146), (zb BK170), GW170.out, GE170.out, NB145_170.out, NB170_145.out, NB146_170.out, NB170_146.out, (zo HB)⟩)
                       ·skip
                        refine box_step ?hg (N := 19) ?hd (cs := #[.int .i64 0, .slice none 0 0]) (t := 62) ?hr ?_; (case hd => rfl); (case hg => rfl); (case hr => first | (go_simp; done) | (go_simp; rfl))
                        intro gb170 hg w50 hbox hb
                        have HS0_ := (hb.cell (World.block_lt_of_cell? _ _ (hHeld.1))).trans (hHeld.1)
                        have HS1_ := (hb.cell (World.block_lt_of_cell? _ _ (hHeld.2.1))).trans (hHeld.2.1)
                        have HS2_ := (hb.cell (World.block_lt_of_cell? _ _ (hHeld.2.2.1))).trans (hHeld.2.2.1)
                        have HS3_ := (hb.cell (World.block_lt_of_cell? _ _ (hHeld.2.2.2.1))).trans (hHeld.2.2.2.1)
                        have HS4_ := (hb.cell (World.block_lt_of_cell? _ _ (hHeld.2.2.2.2.1))).trans (hHeld.2.2.2.2.1)
                        have HS5_ := (hb.cell (World.block_lt_of_cell? _ _ (hHeld.2.2.2.2.2))).trans (hHeld.2.2.2.2.2)
                        replace HO_0 := zK (Kd.V_below (Kd.V_elderB (zv HO_0) gb170 (Nat.le_of_eq hg.symm)) hb)
                        replace HO_11 := zK (Kd.R_below (zr HO_11) hb)
                        replace HO_12 := zK (Kd.N_below (Kd.N_elderB (zn HO_12) gb170 (Nat.le_of_eq hg.symm)) hb)
                        replace HO_59 := zK (Kd.R_below (zr HO_59) hb)
                        replace HO_65 := zK (Kd.R_below (zr HO_65) hb)
                        replace HO_146000 := zK (Kd.V_below (Kd.V_elderB (zv HO_146000) gb170 (Nat.le_of_eq hg.symm)) hb)
                        replace HL163_1 := zK (Kd.V_below (Kd.V_elderB (zv HL163_1) gb170 (Nat.le_of_eq hg.symm)) hb)
                        replace HL164_1 := zK (Kd.V_below (Kd.V_elderB (zv HL164_1) gb170 (Nat.le_of_eq hg.symm)) hb)
                        replace HR163_1 := zK (Kd.C_below (by repeat (first | (with_reducible exact HR163_1.out) | (with_reducible refine cA ?_ _) | (with_reducible refine cN ?_ _) | (with_reducible refine cD ?_) | exact HR163_1.out)) hb)
                        replace HR164_1 := zK (Kd.C_below (by repeat (first | (with_reducible exact HR164_1.out) | (with_reducible refine cA ?_ _) | (with_reducible refine cN ?_ _) | (with_reducible refine cD ?_) | exact HR164_1.out)) hb)
                        have BK170 := zK (hbox)
                        have GW170 := zK ((by rw [hg]; exact (below_size (zo HB)) : w.heap.size ≤ gb170))
                        have GE170 := zK ((by rw [hg]; exact (below_size (zo HB)) : w.heap.size ≤ gb170))
                        replace HB := zK (below_step (zo HB) hb)
                        have NB145_170 := zK ((by rw [hg]; exact Nat.ne_of_lt (blk_lt (g := gb145) (o := .cells #[.slice (some ad163) l0.length c0] 22 (0, 0)) (zb BK145)) : gb145 ≠ gb170))
                        have NB170_145 := zK ((by rw [hg]; exact Nat.ne_of_gt (blk_lt (g := gb145) (o := .cells #[.slice (some ad163) l0.length c0] 22 (0, 0)) (zb BK145)) : gb170 ≠ gb145))
                        replace BK145 := zK (blk_below (g := gb145) (o := .cells #[.slice (some ad163) l0.length c0] 22 (0, 0)) (zb BK145) hb)
                        have NB146_170 := zK ((by rw [hg]; exact Nat.ne_of_lt (blk_lt (g := gb146) (o := .cells #[.int .i64 a1] 3 (0, 0)) (zb BK146)) : gb146 ≠ gb170))
                        have NB170_146 := zK ((by rw [hg]; exact Nat.ne_of_gt (blk_lt (g := gb146) (o := .cells #[.int .i64 a1] 3 (0, 0)) (zb BK146)) : gb170 ≠ gb146))
                        replace BK146 := zK (blk_below (g := gb146) (o := .cells #[.int .i64 a1] 3 (0, 0)) (zb BK146) hb)
                        clear hb hbox hg
                        refine hK.out _ _ ⟨HS0_, HS1_, HS2_, HS3_, HS4_, HS5_⟩ (fun hHeld => ?_)
                        clear hK K
                        refine norm_ (a' := ?_) ?_ ?_; rotate_left; (show Act.put _ (some 19) _ = _; simp only [Act.put, zt, zz, zs, i64_w, i32_w]; rfl)
                        refine one_ (i := 12) (N := some 84) #[T_,T_,T_,T_,T_,T_,T_,T_,T_,T_,T_,T_,T_,F_,F_,F_,T_,F_,F_] rfl rfl (one_of HT_.out (by kernel_rfl)) (by decide) (fun K hK => ?_)
                        refine goes_ Try.func77 (by kernel_rfl) rfl #[.agg #[.int .i64 ((rd_T70 l0 (rd t150 x61_2)).f0.f0), .slice A163_1 ((rd_T70 l0 (rd t150 x61_2)).f0.f1).length c163_1], .agg #[.int .i64 ((rd_T70 l0 (rd t153 x67_3)).f0.f0), .slice A164_1 ((rd_T70 l0 (rd t153 x67_3)).f0.f1).length c164_1], .int .i64 a1, .bool a2] (by rfl) rfl rfl (by (try simp only [List.map_toArray, List.map_cons, List.map_nil]); first | done | rfl | (simp only [List.length_drop, List.length_take]; rfl)) ?_
                        with_reducible refine (shadow_shade.calls k3 ((rd_T70 l0 (rd t150 x61_2)).f0.f0) _ _ ((rd_T70 l0 (rd t150 x61_2)).f0.f1) ((rd_T70 l0 (rd t153 x67_3)).f0.f0) _ _ ((rd_T70 l0 (rd t153 x67_3)).f0.f1) a1 a2 t165 t166 true _ ?side1 ?side2 ?side3 ?side4 A46.out).mono ?_
                        (case side1 => repeat (first | exact (by repeat (first | (with_reducible exact HR163_1.out) | (with_reducible refine cA ?_ _) | (with_reducible refine cN ?_ _) | (with_reducible refine cD ?_) | exact HR163_1.out)) | (with_reducible refine cA ?_ _) | (with_reducible refine cN ?_ _) | (with_reducible refine cD ?_)))
                        (case side2 => exact HC163_1.out)
                        (case side3 => repeat (first | exact (by repeat (first | (with_reducible exact HR164_1.out) | (with_reducible refine cA ?_ _) | (with_reducible refine cN ?_ _) | (with_reducible refine cD ?_) | exact HR164_1.out)) | (with_reducible refine cA ?_ _) | (with_reducible refine cN ?_ _) | (with_reducible refine cD ?_)))
                        (case side4 => exact HC164_1.out)
                        rintro e w51 ⟨v167, rfl, ho0, hb⟩
                        have HS0_ := (hb.cell (World.block_lt_of_cell? _ _ (hHeld.1))).trans (hHeld.1)
                        have HS1_ := (hb.cell (World.block_lt_of_cell? _ _ (hHeld.2.1))).trans (hHeld.2.1)
                        have HS2_ := (hb.cell (World.block_lt_of_cell? _ _ (hHeld.2.2.1))).trans (hHeld.2.2.1)
                        have HS3_ := (hb.cell (World.block_lt_of_cell? _ _ (hHeld.2.2.2.1))).trans (hHeld.2.2.2.1)
                        have HS4_ := (hb.cell (World.block_lt_of_cell? _ _ (hHeld.2.2.2.2.1))).trans (hHeld.2.2.2.2.1)
                        have HS5_ := (hb.cell (World.block_lt_of_cell? _ _ (hHeld.2.2.2.2.2))).trans (hHeld.2.2.2.2.2)
                        refine ⟨_, rfl, ?_⟩
                        replace HO_0 := zK (Kd.V_elder' (zv HO_0) (Kd.R_base ho0) hb)
                        replace HO_11 := zK (Kd.R_below (zr HO_11) hb)
                        replace HO_12 := zK (Kd.N_elder' (zn HO_12) (Kd.R_base ho0) hb)
                        replace HO_59 := zK (Kd.R_below (zr HO_59) hb)
                        replace HO_65 := zK (Kd.R_below (zr HO_65) hb)
                        replace HO_146000 := zK (Kd.V_elder' (zv HO_146000) (Kd.R_base ho0) hb)
                        replace HL163_1 := zK (Kd.V_elder' (zv HL163_1) (Kd.R_base ho0) hb)
                        replace HL164_1 := zK (Kd.V_elder' (zv HL164_1) (Kd.R_base ho0) hb)
                        have HO168 := zK (Kd.R_lower (Kd.R_newM (M := fun k_ => (w.heap.size ≤ k_)) ho0 (below_size (zo HB)) (fun k_ h_ => h_)) (below_size (zo HB)))
                        replace BK145 := zK (blk_below (g := gb145) (o := .cells #[.slice (some ad163) l0.length c0] 22 (0, 0)) (zb BK145) hb)
                        replace BK146 := zK (blk_below (g := gb146) (o := .cells #[.int .i64 a1] 3 (0, 0)) (zb BK146) hb)
                        replace HR163_1 := zK (Kd.C_below (by repeat (first | (with_reducible exact HR163_1.out) | (with_reducible refine cA ?_ _) | (with_reducible refine cN ?_ _) | (with_reducible refine cD ?_) | exact HR163_1.out)) hb)
                        replace HR164_1 := zK (Kd.C_below (by repeat (first | (with_reducible exact HR164_1.out) | (with_reducible refine cA ?_ _) | (with_reducible refine cN ?_ _) | (with_reducible refine cD ?_) | exact HR164_1.out)) hb)
                        replace BK170 := zK (blk_below (g := gb170) (o := .cells #[.int .i64 0, .slice none 0 0] 62 (0, 0)) (zb BK170) hb)
                        replace HB := zK (below_step (zo HB) hb)
                        (try clear hb); (try clear hb2); (try clear hk); (try clear hi)
                        (try clear ho0)
                        refine hK.out _ _ ⟨HS0_, HS1_, HS2_, HS3_, HS4_, HS5_⟩ (fun hHeld => ?_)
                        clear hK K
                        refine norm_ (a' := ?_) ?_ ?_; rotate_left; (show Act.put _ (some 84) _ = _; simp only [Act.put, zt, zz, zs, i64_w, i32_w]; rfl)
                        refine pure_ (i := 13) (N := some 71) (v := ?_) (a' := ?_) #[T_,T_,T_,T_,T_,T_,T_,T_,T_,T_,T_,T_,T_,T_,F_,F_,T_,F_,F_] rfl rfl (any_of HT_.out (by kernel_rfl)) (fun _ _ _ h => h) (Or.inl ⟨by rfl, ?_⟩) ?_ ?_; rotate_left; (intro w'; go_simp; with_reducible rfl); rotate_left; (simp only [Act.put, zt, zz, zs, i64_w, i32_w]; rfl)
                        refine pure_ (i := 14) (N := some 85) (v := ?_) (a' := ?_) #[T_,T_,T_,T_,T_,T_,T_,T_,T_,T_,T_,T_,T_,T_,T_,F_,T_,F_,F_] rfl rfl (any_of HT_.out (by kernel_rfl)) (fun _ _ _ h => h) (Or.inl ⟨by rfl, ?_⟩) ?_ ?_; rotate_left; (intro w'; go_simp; with_reducible rfl); rotate_left; (simp only [Act.put, zt, zz, zs, i64_w, i32_w]; rfl)
                        refine pure_ (i := 15) (N := some 86) (v := ?_) (a' := ?_) #[T_,T_,T_,T_,T_,T_,T_,T_,T_,T_,T_,T_,T_,T_,T_,T_,T_,F_,F_] rfl rfl (any_of HT_.out (by kernel_rfl)) (fun _ _ _ h => h) (Or.inl ⟨by rfl, ?_⟩) ?_ ?_; rotate_left; (intro w'; go_simp; with_reducible rfl); rotate_left; (simp only [Act.put, zt, zz, zs, i64_w, i32_w]; rfl)
                        exact norm_ (by simp only [putAll, Act.put, zt, zz, zs]) (hCont (v167, gb170) _ ⟨hHeld, (by (with_reducible repeat (first | apply vA | apply vN | apply vD)); exact vM HL163_1.out (fun _ hk => ⟨hk.1.1.1, ⟨hk.2, ⟨hk.1.1.2.1, ⟨hk.1.1.2.2.1, ⟨hk.1.1.2.2.2.1, ⟨hk.1.1.2.2.2.2.1, ⟨hk.1.1.2.2.2.2.2.1, ⟨hk.1.1.2.2.2.2.2.2, hk.1.2⟩⟩⟩⟩⟩⟩⟩⟩)), (by (with_reducible repeat (first | apply vA | apply vN | apply vD)); exact vM HL164_1.out (fun _ hk => ⟨hk.1.1.1, ⟨hk.2, ⟨hk.1.1.2.1, ⟨hk.1.1.2.2.1, ⟨hk.1.1.2.2.2.1, ⟨hk.1.1.2.2.2.2.1, ⟨hk.1.1.2.2.2.2.2.1, ⟨hk.1.1.2.2.2.2.2.2, hk.1.2⟩⟩⟩⟩⟩⟩⟩⟩)), (by (with_reducible repeat (first | apply Kd.R_alloc | apply Kd.R_drewN | apply Kd.R_drew)); exact Kd.R_mono HO168.out (fun _ hk => hk.1)), (by (with_reducible repeat (first | apply vA | apply vN | apply vD)); exact vM HO_0.out (fun _ hk => ⟨hk.1.1.1, ⟨hk.2, ⟨hk.1.1.2.1, ⟨hk.1.1.2.2.1, ⟨hk.1.1.2.2.2.1, ⟨hk.1.1.2.2.2.2.1, ⟨hk.1.1.2.2.2.2.2.1, ⟨hk.1.1.2.2.2.2.2.2, hk.1.2⟩⟩⟩⟩⟩⟩⟩⟩)), (zr HO_11), (by (with_reducible repeat (first | apply nA | apply nN | apply nD)); exact Kd.N_mono HO_12.out (fun _ hk => ⟨hk.1.1.1, ⟨hk.2, ⟨hk.1.1.2.1, ⟨hk.1.1.2.2.1, ⟨hk.1.1.2.2.2.1, ⟨hk.1.1.2.2.2.2.1, ⟨hk.1.1.2.2.2.2.2, hk.1.2⟩⟩⟩⟩⟩⟩⟩)), (by (with_reducible repeat (first | apply vA | apply vN | apply vD)); exact vM HO_146000.out (fun _ hk => ⟨hk.1.1.1, ⟨hk.2, ⟨hk.1.1.2.1, ⟨hk.1.1.2.2.1, ⟨hk.1.1.2.2.2.1, ⟨hk.1.1.2.2.2.2.1, ⟨hk.1.1.2.2.2.2.2.1, ⟨hk.1.1.2.2.2.2.2.2, hk.1.2⟩⟩⟩⟩⟩⟩⟩⟩)), (zr HO_59), (zr HO_65), (zb BK145), (zb BK146), (zb BK170), GW170.out, GE170.out, NB145_170.out, NB170_145.out, NB146_170.out, NB170_146.out, (zo HB)⟩)
                      rintro ⟨v167, gb170⟩ w52 ⟨hS_, h0_, h1_, h2_, h3_, h4_, h5_, h6_, h7_, h8_, h9_, h10_, h11_, h12_, h13_, h14_, h15_, h16_, h17_, h18_⟩
                      have n0_ : Aside0 (Kd.V k68 68 w52 w.heap.size (fun k_ => (P0_ k_ ∨ w.heap.size ≤ k_) ∧ some k_ ≠ (v167 : Value).ownBlock ∧ some k_ ≠ (.slice (some ad162) t153.length co28 : Value).ownBlock ∧ some k_ ≠ (u12 : Value).ownBlock ∧ some k_ ≠ (.slice (some ad161) t150.length co27 : Value).ownBlock ∧ some k_ ≠ (.slice (some ad162) t153.length co28 : Value).ownBlock ∧ k_ ≠ gb145 ∧ k_ ≠ gb146 ∧ k_ ≠ gb170) (.slice A163_1 ((rd_T70 l0 (rd t150 x61_2)).f0.f1).length c163_1) ((rd_T70 l0 (rd t150 x61_2)).f0.f1)) := ⟨h0_⟩
                      have n1_ : Aside0 (Kd.V k68 68 w52 w.heap.size (fun k_ => (P0_ k_ ∨ w.heap.size ≤ k_) ∧ some k_ ≠ (v167 : Value).ownBlock ∧ some k_ ≠ (.slice (some ad162) t153.length co28 : Value).ownBlock ∧ some k_ ≠ (u12 : Value).ownBlock ∧ some k_ ≠ (.slice (some ad161) t150.length co27 : Value).ownBlock ∧ some k_ ≠ (.slice (some ad162) t153.length co28 : Value).ownBlock ∧ k_ ≠ gb145 ∧ k_ ≠ gb146 ∧ k_ ≠ gb170) (.slice A164_1 ((rd_T70 l0 (rd t153 x67_3)).f0.f1).length c164_1) ((rd_T70 l0 (rd t153 x67_3)).f0.f1)) := ⟨h1_⟩
                      have n2_ : Aside0 (Kd.R k68 68 w52 w.heap.size (fun k_ => (w.heap.size ≤ k_)) v167 t166) := ⟨h2_⟩
                      have n3_ : Aside0 (Kd.V k70 70 w52 w.heap.size (fun k_ => (P0_ k_ ∨ w.heap.size ≤ k_) ∧ some k_ ≠ (v167 : Value).ownBlock ∧ some k_ ≠ (.slice (some ad162) t153.length co28 : Value).ownBlock ∧ some k_ ≠ (u12 : Value).ownBlock ∧ some k_ ≠ (.slice (some ad161) t150.length co27 : Value).ownBlock ∧ some k_ ≠ (.slice (some ad162) t153.length co28 : Value).ownBlock ∧ k_ ≠ gb145 ∧ k_ ≠ gb146 ∧ k_ ≠ gb170) (.slice (some ad163) l0.length c0) l0) := ⟨h3_⟩
                      have n4_ : Aside0 (Kd.R (Kd.int .i64) 3 w52 w.heap.size (fun k_ => (w.heap.size ≤ k_) ∧ some k_ ≠ (.slice (some ad161) t150.length co27 : Value).ownBlock ∧ k_ ≠ gb146) (.slice (some ad162) t153.length co28) t153) := ⟨h4_⟩
                      have n5_ : Aside0 (Kd.N k72 72 w52 w.heap.size (fun k_ => (P0_ k_ ∨ w.heap.size ≤ k_) ∧ some k_ ≠ (v167 : Value).ownBlock ∧ some k_ ≠ (.slice (some ad162) t153.length co28 : Value).ownBlock ∧ some k_ ≠ (.slice (some ad161) t150.length co27 : Value).ownBlock ∧ some k_ ≠ (.slice (some ad162) t153.length co28 : Value).ownBlock ∧ k_ ≠ gb145 ∧ k_ ≠ gb146 ∧ k_ ≠ gb170) u12 x12_3) := ⟨h5_⟩
                      have n6_ : Aside0 (Kd.V k70 70 w52 w.heap.size (fun k_ => (P0_ k_ ∨ w.heap.size ≤ k_) ∧ some k_ ≠ (v167 : Value).ownBlock ∧ some k_ ≠ (.slice (some ad162) t153.length co28 : Value).ownBlock ∧ some k_ ≠ (u12 : Value).ownBlock ∧ some k_ ≠ (.slice (some ad161) t150.length co27 : Value).ownBlock ∧ some k_ ≠ (.slice (some ad162) t153.length co28 : Value).ownBlock ∧ k_ ≠ gb145 ∧ k_ ≠ gb146 ∧ k_ ≠ gb170) (.slice (some ad163) l0.length c0) l0) := ⟨h6_⟩
                      have n7_ : Aside0 (Kd.R (Kd.int .i64) 3 w52 w.heap.size (fun k_ => (w.heap.size ≤ k_) ∧ some k_ ≠ (.slice (some ad162) t153.length co28 : Value).ownBlock ∧ some k_ ≠ (.slice (some ad162) t153.length co28 : Value).ownBlock ∧ k_ ≠ gb146) (.slice (some ad161) t150.length co27) t150) := ⟨h7_⟩
                      have n8_ : Aside0 (Kd.R (Kd.int .i64) 3 w52 w.heap.size (fun k_ => (w.heap.size ≤ k_) ∧ some k_ ≠ (.slice (some ad161) t150.length co27 : Value).ownBlock ∧ k_ ≠ gb146) (.slice (some ad162) t153.length co28) t153) := ⟨h8_⟩
                      have n9_ : Aside0 (w52.heap[gb145]? = some (.cells #[.slice (some ad163) l0.length c0] 22 (0, 0))) := ⟨h9_⟩
                      have n10_ : Aside0 (w52.heap[gb146]? = some (.cells #[.int .i64 a1] 3 (0, 0))) := ⟨h10_⟩
                      have n11_ : Aside0 (w52.heap[gb170]? = some (.cells #[.int .i64 0, .slice none 0 0] 62 (0, 0))) := ⟨h11_⟩
                      have n12_ : Aside0 (w.heap.size ≤ gb170) := ⟨h12_⟩
                      have n13_ : Aside0 (w.heap.size ≤ gb170) := ⟨h13_⟩
                      have n14_ : Aside0 (gb145 ≠ gb170) := ⟨h14_⟩
                      have n15_ : Aside0 (gb170 ≠ gb145) := ⟨h15_⟩
                      have n16_ : Aside0 (gb146 ≠ gb170) := ⟨h16_⟩
                      have n17_ : Aside0 (gb170 ≠ gb146) := ⟨h17_⟩
                      have n18_ : Aside0 (Below w.heap.size w w52) := ⟨h18_⟩
                      clear HO_0 HO_11 HO_12 HO_59 HO_65 HO_146000 BK145 BK146 HB h0_ h1_ h2_ h3_ h4_ h5_ h6_ h7_ h8_ h9_ h10_ h11_ h12_ h13_ h14_ h15_ h16_ h17_ h18_
                      have HL163_1 := n0_
                      have HL164_1 := n1_
                      have HO168 := n2_
                      have HO_0 := n3_
                      have HO_11 := n4_
                      have HO_12 := n5_
                      have HO_146000 := n6_
                      have HO_59 := n7_
                      have HO_65 := n8_
                      have BK145 := n9_
                      have BK146 := n10_
                      have BK170 := n11_
                      have GW170 := n12_
                      have GE170 := n13_
                      have NB145_170 := n14_
                      have NB170_145 := n15_
                      have NB146_170 := n16_
                      have NB170_146 := n17_
                      have HB := n18_
                      clear n0_ n1_ n2_ n3_ n4_ n5_ n6_ n7_ n8_ n9_ n10_ n11_ n12_ n13_ n14_ n15_ n16_ n17_ n18_
                      have hHeld : w52.cell? (ad163.add (((rd t150 x61_2)).toNat * 3)) = some (.int .i64 ((rd_T70 l0 (rd t150 x61_2)).f0.f0)) ∧ w52.cell? ⟨(ad163.add (((rd t150 x61_2)).toNat * 3)).block, (ad163.add (((rd t150 x61_2)).toNat * 3)).off + 1, none⟩ = some (.slice A163_1 ((rd_T70 l0 (rd t150 x61_2)).f0.f1).length c163_1) ∧ w52.cell? ⟨(ad163.add (((rd t150 x61_2)).toNat * 3)).block, (ad163.add (((rd t150 x61_2)).toNat * 3)).off + 2, none⟩ = some (.bool ((rd_T70 l0 (rd t150 x61_2)).f1)) ∧ w52.cell? (ad163.add (((rd t153 x67_3)).toNat * 3)) = some (.int .i64 ((rd_T70 l0 (rd t153 x67_3)).f0.f0)) ∧ w52.cell? ⟨(ad163.add (((rd t153 x67_3)).toNat * 3)).block, (ad163.add (((rd t153 x67_3)).toNat * 3)).off + 1, none⟩ = some (.slice A164_1 ((rd_T70 l0 (rd t153 x67_3)).f0.f1).length c164_1) ∧ w52.cell? ⟨(ad163.add (((rd t153 x67_3)).toNat * 3)).block, (ad163.add (((rd t153 x67_3)).toNat * 3)).off + 2, none⟩ = some (.bool ((rd_T70 l0 (rd t153 x67_3)).f1)) := hS_
                      obtain ⟨Ao54, co54, eo54⟩ := Kd.R_slice HO168.out
                      (first | subst eo54 | (injection eo54 with f1_ f2_ f3_; have f4_ := f1_.symm; have f5_ := f3_.symm; clear f1_ f2_ f3_; subst f4_; subst f5_))
                      refine norm_ (a' := ?_) ?_ ?_
                      rotate_left
                      ·simp only [putAll, Act.put, zt, zz, zs]
                       rfl
                      refine one_ (i := 17) (N := none) #[T_,T_,T_,T_,T_,T_,T_,T_,T_,T_,T_,T_,T_,T_,T_,T_,T_,T_,F_] rfl rfl (one_of HT_.out (by kernel_rfl)) (by decide) (fun K hK => ?_)
                      have hs53 : w52.cell? ⟨gb170, 0, none⟩ = some (.int .i64 0) := (blk_cell BK170.out 0).trans rfl
                      have hfs53 := blk_frozen BK170.out 0
                      have hns53_0 := NB145_170.out
                      have hns53_1 := NB146_170.out
                      have hms53_0 := NB170_145.out
                      have hms53_1 := NB170_146.out
                      have hs55 : w52.cell? ⟨gb170, 1, none⟩ = some (.slice none 0 0) := (blk_cell BK170.out 1).trans rfl
                      have hfs55 := blk_frozen BK170.out 1
                      have hns55_0 := NB145_170.out
                      have hns55_1 := NB146_170.out
                      have hms55_0 := NB170_145.out
                      have hms55_1 := NB170_146.out
                      refine skip_ (w1 := ?_) (by rfl) rfl ?_ ?_
                      rotate_left
                      ·go_simp
                       rfl
                      have hn0_ := V_apart5 HO_0.out hHeld.1 (fun W' h' => by obtain ⟨ad163_, A163_1, c163_1, e163, hx163_0, hx163_1, hx163_2, hl163_1, hi163_1⟩ := at_T70 (Kd.V_reads' h').2.2 (rd t150 x61_2) (of_eq_true p163) (of_eq_true q163); cases e163; exact hx163_0) (g := gb170) (fun _ hk => hk.2.2.2.2.2.2.2.2)
                      refine hK.out _ _ ⟨(cellA5 hn0_ ((cellA5 hn0_ (hHeld.1)))), (cellB5 hn0_ ((cellB5 hn0_ (hHeld.2.1)))), (cellB5 hn0_ ((cellB5 hn0_ (hHeld.2.2.1)))), (cellA5 hn0_ ((cellA5 hn0_ (hHeld.2.2.2.1)))), (cellB5 hn0_ ((cellB5 hn0_ (hHeld.2.2.2.2.1)))), (cellB5 hn0_ ((cellB5 hn0_ (hHeld.2.2.2.2.2))))⟩ (fun hHeld => ?_)
                      clear hK K
                      refine pure_ (i := 18) (N := some 20) (v := ?_) (a' := ?_) #[T_,T_,T_,T_,T_,T_,T_,T_,T_,T_,T_,T_,T_,T_,T_,T_,T_,T_,T_] rfl rfl (any_of HT_.out (by kernel_rfl)) (fun _ _ _ h => h) (Or.inl ⟨by rfl, ?_⟩) ?_ ?_; rotate_left; (intro w'; go_simp; with_reducible rfl); rotate_left; (simp only [Act.put, zt, zz, zs, i64_w, i32_w]; rfl)
                      refine done_ (done_of HT_.out (by kernel_rfl)) ?_
                      have n0_ : Aside0 (Kd.V k70 70 ((w52.setCell ⟨gb170, 0, none⟩ (.int .i64 t165)).setCell ⟨gb170, 1, none⟩ (.slice Ao54 t166.length co54)) w.heap.size (fun k_ => (P0_ k_ ∨ w.heap.size ≤ k_) ∧ some k_ ≠ (.slice (some ad162) t153.length co28 : Value).ownBlock ∧ some k_ ≠ (u12 : Value).ownBlock ∧ some k_ ≠ (.slice (some ad161) t150.length co27 : Value).ownBlock ∧ some k_ ≠ (.slice (some ad162) t153.length co28 : Value).ownBlock ∧ some k_ ≠ (.slice Ao54 t166.length co54 : Value).ownBlock ∧ k_ ≠ gb145 ∧ k_ ≠ gb146 ∧ k_ ≠ gb170) (.slice (some ad163) l0.length c0) l0) := ⟨by (with_reducible repeat (first | apply vA | apply vN | apply vD)); exact vM (vF (p := ⟨gb170, 1, none⟩) (vF (p := ⟨gb170, 0, none⟩) (vM HO_0.out (fun k_ hk => (⟨hk, hk.2.2.2.2.2.2.2.2⟩ : _ ∧ k_ ≠ gb170))) (fun _ hk => hk.2) (.int .i64 t165)) (fun _ hk => hk.2) (.slice Ao54 t166.length co54)) (fun _ hk => ⟨hk.1.1, ⟨hk.1.2.2.1, ⟨hk.1.2.2.2.1, ⟨hk.1.2.2.2.2.1, ⟨hk.1.2.2.2.2.2.1, ⟨hk.1.2.1, ⟨hk.1.2.2.2.2.2.2.1, ⟨hk.1.2.2.2.2.2.2.2.1, hk.1.2.2.2.2.2.2.2.2⟩⟩⟩⟩⟩⟩⟩⟩)⟩
                      have n1_ : Aside0 (Kd.R (Kd.int .i64) 3 ((w52.setCell ⟨gb170, 0, none⟩ (.int .i64 t165)).setCell ⟨gb170, 1, none⟩ (.slice Ao54 t166.length co54)) w.heap.size (fun k_ => (w.heap.size ≤ k_) ∧ some k_ ≠ (.slice (some ad161) t150.length co27 : Value).ownBlock ∧ k_ ≠ gb146) (.slice (some ad162) t153.length co28) t153) := ⟨by (with_reducible repeat (first | apply Kd.R_alloc | apply Kd.R_drewN | apply Kd.R_drew)); exact Kd.R_mono (Kd.R_far (p := ⟨gb170, 1, none⟩) (Kd.R_far (p := ⟨gb170, 0, none⟩) (Kd.R_types HO_11.out BK170.out (by decide)) (fun _ hk => hk.2) (.int .i64 t165)) (fun _ hk => hk.2) (.slice Ao54 t166.length co54)) (fun _ hk => ⟨hk.1.1, ⟨hk.1.2.1, hk.1.2.2⟩⟩)⟩
                      have n2_ : Aside0 (Kd.N k72 72 ((w52.setCell ⟨gb170, 0, none⟩ (.int .i64 t165)).setCell ⟨gb170, 1, none⟩ (.slice Ao54 t166.length co54)) w.heap.size (fun k_ => (P0_ k_ ∨ w.heap.size ≤ k_) ∧ some k_ ≠ (.slice (some ad162) t153.length co28 : Value).ownBlock ∧ some k_ ≠ (.slice (some ad161) t150.length co27 : Value).ownBlock ∧ some k_ ≠ (.slice (some ad162) t153.length co28 : Value).ownBlock ∧ some k_ ≠ (.slice Ao54 t166.length co54 : Value).ownBlock ∧ k_ ≠ gb145 ∧ k_ ≠ gb146 ∧ k_ ≠ gb170) u12 x12_3) := ⟨by (with_reducible repeat (first | apply nA | apply nN | apply nD)); exact Kd.N_mono (Kd.N_far (p := ⟨gb170, 1, none⟩) (Kd.N_far (p := ⟨gb170, 0, none⟩) (Kd.N_mono HO_12.out (fun k_ hk => (⟨hk, hk.2.2.2.2.2.2.2⟩ : _ ∧ k_ ≠ gb170))) (fun _ hk => hk.2) (.int .i64 t165)) (fun _ hk => hk.2) (.slice Ao54 t166.length co54)) (fun _ hk => ⟨hk.1.1, ⟨hk.1.2.2.1, ⟨hk.1.2.2.2.1, ⟨hk.1.2.2.2.2.1, ⟨hk.1.2.1, ⟨hk.1.2.2.2.2.2.1, ⟨hk.1.2.2.2.2.2.2.1, hk.1.2.2.2.2.2.2.2⟩⟩⟩⟩⟩⟩⟩)⟩
                      have n3_ : Aside0 (Kd.R (Kd.int .i64) 3 ((w52.setCell ⟨gb170, 0, none⟩ (.int .i64 t165)).setCell ⟨gb170, 1, none⟩ (.slice Ao54 t166.length co54)) w.heap.size (fun k_ => (w.heap.size ≤ k_) ∧ some k_ ≠ (.slice (some ad162) t153.length co28 : Value).ownBlock ∧ some k_ ≠ (.slice (some ad162) t153.length co28 : Value).ownBlock ∧ k_ ≠ gb146) (.slice (some ad161) t150.length co27) t150) := ⟨by (with_reducible repeat (first | apply Kd.R_alloc | apply Kd.R_drewN | apply Kd.R_drew)); exact Kd.R_mono (Kd.R_far (p := ⟨gb170, 1, none⟩) (Kd.R_far (p := ⟨gb170, 0, none⟩) (Kd.R_types HO_59.out BK170.out (by decide)) (fun _ hk => hk.2) (.int .i64 t165)) (fun _ hk => hk.2) (.slice Ao54 t166.length co54)) (fun _ hk => ⟨hk.1.1, ⟨hk.1.2.1, ⟨hk.1.2.2.1, hk.1.2.2.2⟩⟩⟩)⟩
                      have n4_ : Aside0 (Kd.R (Kd.int .i64) 3 ((w52.setCell ⟨gb170, 0, none⟩ (.int .i64 t165)).setCell ⟨gb170, 1, none⟩ (.slice Ao54 t166.length co54)) w.heap.size (fun k_ => (w.heap.size ≤ k_) ∧ some k_ ≠ (.slice (some ad161) t150.length co27 : Value).ownBlock ∧ k_ ≠ gb146) (.slice (some ad162) t153.length co28) t153) := ⟨by (with_reducible repeat (first | apply Kd.R_alloc | apply Kd.R_drewN | apply Kd.R_drew)); exact Kd.R_mono (Kd.R_far (p := ⟨gb170, 1, none⟩) (Kd.R_far (p := ⟨gb170, 0, none⟩) (Kd.R_types HO_65.out BK170.out (by decide)) (fun _ hk => hk.2) (.int .i64 t165)) (fun _ hk => hk.2) (.slice Ao54 t166.length co54)) (fun _ hk => ⟨hk.1.1, ⟨hk.1.2.1, hk.1.2.2⟩⟩)⟩
                      have n5_ : Aside0 (Kd.V k70 70 ((w52.setCell ⟨gb170, 0, none⟩ (.int .i64 t165)).setCell ⟨gb170, 1, none⟩ (.slice Ao54 t166.length co54)) w.heap.size (fun k_ => (P0_ k_ ∨ w.heap.size ≤ k_) ∧ some k_ ≠ (.slice (some ad162) t153.length co28 : Value).ownBlock ∧ some k_ ≠ (u12 : Value).ownBlock ∧ some k_ ≠ (.slice (some ad161) t150.length co27 : Value).ownBlock ∧ some k_ ≠ (.slice (some ad162) t153.length co28 : Value).ownBlock ∧ some k_ ≠ (.slice Ao54 t166.length co54 : Value).ownBlock ∧ k_ ≠ gb145 ∧ k_ ≠ gb146 ∧ k_ ≠ gb170) (.slice (some ad163) l0.length c0) l0) := ⟨by (with_reducible repeat (first | apply vA | apply vN | apply vD)); exact vM (vF (p := ⟨gb170, 1, none⟩) (vF (p := ⟨gb170, 0, none⟩) (vM HO_146000.out (fun k_ hk => (⟨hk, hk.2.2.2.2.2.2.2.2⟩ : _ ∧ k_ ≠ gb170))) (fun _ hk => hk.2) (.int .i64 t165)) (fun _ hk => hk.2) (.slice Ao54 t166.length co54)) (fun _ hk => ⟨hk.1.1, ⟨hk.1.2.2.1, ⟨hk.1.2.2.2.1, ⟨hk.1.2.2.2.2.1, ⟨hk.1.2.2.2.2.2.1, ⟨hk.1.2.1, ⟨hk.1.2.2.2.2.2.2.1, ⟨hk.1.2.2.2.2.2.2.2.1, hk.1.2.2.2.2.2.2.2.2⟩⟩⟩⟩⟩⟩⟩⟩)⟩
                      have n6_ : Aside0 (Kd.V k68 68 ((w52.setCell ⟨gb170, 0, none⟩ (.int .i64 t165)).setCell ⟨gb170, 1, none⟩ (.slice Ao54 t166.length co54)) w.heap.size (fun k_ => (P0_ k_ ∨ w.heap.size ≤ k_) ∧ some k_ ≠ (.slice (some ad162) t153.length co28 : Value).ownBlock ∧ some k_ ≠ (u12 : Value).ownBlock ∧ some k_ ≠ (.slice (some ad161) t150.length co27 : Value).ownBlock ∧ some k_ ≠ (.slice (some ad162) t153.length co28 : Value).ownBlock ∧ some k_ ≠ (.slice Ao54 t166.length co54 : Value).ownBlock ∧ k_ ≠ gb145 ∧ k_ ≠ gb146 ∧ k_ ≠ gb170) (.slice A163_1 ((rd_T70 l0 (rd t150 x61_2)).f0.f1).length c163_1) ((rd_T70 l0 (rd t150 x61_2)).f0.f1)) := ⟨by (with_reducible repeat (first | apply vA | apply vN | apply vD)); exact vM (vF (p := ⟨gb170, 1, none⟩) (vF (p := ⟨gb170, 0, none⟩) (vM HL163_1.out (fun k_ hk => (⟨hk, hk.2.2.2.2.2.2.2.2⟩ : _ ∧ k_ ≠ gb170))) (fun _ hk => hk.2) (.int .i64 t165)) (fun _ hk => hk.2) (.slice Ao54 t166.length co54)) (fun _ hk => ⟨hk.1.1, ⟨hk.1.2.2.1, ⟨hk.1.2.2.2.1, ⟨hk.1.2.2.2.2.1, ⟨hk.1.2.2.2.2.2.1, ⟨hk.1.2.1, ⟨hk.1.2.2.2.2.2.2.1, ⟨hk.1.2.2.2.2.2.2.2.1, hk.1.2.2.2.2.2.2.2.2⟩⟩⟩⟩⟩⟩⟩⟩)⟩
                      have n7_ : Aside0 (Kd.V k68 68 ((w52.setCell ⟨gb170, 0, none⟩ (.int .i64 t165)).setCell ⟨gb170, 1, none⟩ (.slice Ao54 t166.length co54)) w.heap.size (fun k_ => (P0_ k_ ∨ w.heap.size ≤ k_) ∧ some k_ ≠ (.slice (some ad162) t153.length co28 : Value).ownBlock ∧ some k_ ≠ (u12 : Value).ownBlock ∧ some k_ ≠ (.slice (some ad161) t150.length co27 : Value).ownBlock ∧ some k_ ≠ (.slice (some ad162) t153.length co28 : Value).ownBlock ∧ some k_ ≠ (.slice Ao54 t166.length co54 : Value).ownBlock ∧ k_ ≠ gb145 ∧ k_ ≠ gb146 ∧ k_ ≠ gb170) (.slice A164_1 ((rd_T70 l0 (rd t153 x67_3)).f0.f1).length c164_1) ((rd_T70 l0 (rd t153 x67_3)).f0.f1)) := ⟨by (with_reducible repeat (first | apply vA | apply vN | apply vD)); exact vM (vF (p := ⟨gb170, 1, none⟩) (vF (p := ⟨gb170, 0, none⟩) (vM HL164_1.out (fun k_ hk => (⟨hk, hk.2.2.2.2.2.2.2.2⟩ : _ ∧ k_ ≠ gb170))) (fun _ hk => hk.2) (.int .i64 t165)) (fun _ hk => hk.2) (.slice Ao54 t166.length co54)) (fun _ hk => ⟨hk.1.1, ⟨hk.1.2.2.1, ⟨hk.1.2.2.2.1, ⟨hk.1.2.2.2.2.1, ⟨hk.1.2.2.2.2.2.1, ⟨hk.1.2.1, ⟨hk.1.2.2.2.2.2.2.1, ⟨hk.1.2.2.2.2.2.2.2.1, hk.1.2.2.2.2.2.2.2.2⟩⟩⟩⟩⟩⟩⟩⟩)⟩
                      have n8_ : Aside0 (Kd.R k68 68 ((w52.setCell ⟨gb170, 0, none⟩ (.int .i64 t165)).setCell ⟨gb170, 1, none⟩ (.slice Ao54 t166.length co54)) w.heap.size (fun k_ => (w.heap.size ≤ k_)) (.slice Ao54 t166.length co54) t166) := ⟨by (with_reducible repeat (first | apply Kd.R_alloc | apply Kd.R_drewN | apply Kd.R_drew)); exact Kd.R_mono (Kd.R_far (p := ⟨gb170, 1, none⟩) (Kd.R_far (p := ⟨gb170, 0, none⟩) (Kd.R_types HO168.out BK170.out (by decide)) (fun _ hk => hk.2) (.int .i64 t165)) (fun _ hk => hk.2) (.slice Ao54 t166.length co54)) (fun _ hk => hk.1)⟩
                      have n9_ : Aside0 (((w52.setCell ⟨gb170, 0, none⟩ (.int .i64 t165)).setCell ⟨gb170, 1, none⟩ (.slice Ao54 t166.length co54)).heap[gb145]? = some (.cells #[.slice (some ad163) l0.length c0] 22 (0, 0))) := ⟨zb BK145⟩
                      have n10_ : Aside0 (((w52.setCell ⟨gb170, 0, none⟩ (.int .i64 t165)).setCell ⟨gb170, 1, none⟩ (.slice Ao54 t166.length co54)).heap[gb146]? = some (.cells #[.int .i64 a1] 3 (0, 0))) := ⟨zb BK146⟩
                      have n11_ : Aside0 (((w52.setCell ⟨gb170, 0, none⟩ (.int .i64 t165)).setCell ⟨gb170, 1, none⟩ (.slice Ao54 t166.length co54)).heap[gb170]? = some (.cells #[.int .i64 t165, .slice Ao54 t166.length co54] 62 (0, 0))) := ⟨by refine zM ?_; refine blk_put (cs := #[.int .i64 t165, .slice none 0 0]) ?_ 1 _ rfl; refine zM ?_; refine blk_put (cs := #[.int .i64 0, .slice none 0 0]) ?_ 0 _ rfl; refine zM ?_; exact BK170.out⟩
                      have n12_ : Aside0 (Below w.heap.size w ((w52.setCell ⟨gb170, 0, none⟩ (.int .i64 t165)).setCell ⟨gb170, 1, none⟩ (.slice Ao54 t166.length co54))) := ⟨zo HB⟩
                      (try clear HO_0)
                      (try clear HO_11)
                      (try clear HO_12)
                      (try clear HO_59)
                      (try clear HO_65)
                      (try clear HO_146000)
                      (try clear HL163_1)
                      (try clear HL164_1)
                      (try clear HO168)
                      (try clear BK145)
                      (try clear BK146)
                      (try clear BK170)
                      (try clear HB)
                      generalize ((w52.setCell ⟨gb170, 0, none⟩ (.int .i64 t165)).setCell ⟨gb170, 1, none⟩ (.slice Ao54 t166.length co54)) = w56 at n0_ n1_ n2_ n3_ n4_ n5_ n6_ n7_ n8_ n9_ n10_ n11_ n12_ ⊢
                      have HO_0 := n0_
                      have HO_11 := n1_
                      have HO_12 := n2_
                      have HO_59 := n3_
                      have HO_65 := n4_
                      have HO_146000 := n5_
                      have HL163_1 := n6_
                      have HL164_1 := n7_
                      have HO168 := n8_
                      have BK145 := n9_
                      have BK146 := n10_
                      have BK170 := n11_
                      have HB := n12_
                      clear n0_ n1_ n2_ n3_ n4_ n5_ n6_ n7_ n8_ n9_ n10_ n11_ n12_
                      have hnb57 := NB170_145.out
                      have hnc57 := NB145_170.out
                      have hnb58 := NB170_146.out
                      have hnc58 := NB146_170.out
                      have hcz59_0 : w56.cell? ⟨gb170, 0, none⟩ = some (.int .i64 t165) := (blk_cell BK170.out 0).trans rfl
                      have hcz59_1 : w56.cell? ⟨gb170, 1, none⟩ = some (.slice Ao54 t166.length co54) := (blk_cell BK170.out 1).trans rfl
                      have hfz59_0 := blk_frozen BK170.out 0
                      have hfz59_1 := blk_frozen BK170.out 1
                      try go_wp2_with (first | ((with_reducible refine gate_builtin (b := .append) (xs := #[.tmp 89, .tmp 95]) rfl ?_); at_builtin; refine Kd.N_append k72 (w0 := w) w.heap.size rfl (.tmp 89) (.tmp 95) 25 72 (.agg #[(.int .i64 0), (.slice none 0 0), (.bool false), (.int .i64 0), (.int .i64 0)]) 56 rfl Try.underlying25 info72 rfl (by decide) (by omega) u12 x12_3 (⟨(⟨(⟨t165, t166⟩ : S62), false⟩ : S70), (rd t150 x61_2), rd t153 x67_3⟩ : S72) [.int .i64 t165, .slice Ao54 t166.length co54, .bool false, .int .i64 (rd t150 x61_2), .int .i64 (rd t153 x67_3)] (fun k_ => (P0_ k_ ∨ w.heap.size ≤ k_) ∧ some k_ ≠ (.slice (some ad162) t153.length co28 : Value).ownBlock ∧ some k_ ≠ (.slice (some ad161) t150.length co27 : Value).ownBlock ∧ some k_ ≠ (.slice (some ad162) t153.length co28 : Value).ownBlock ∧ k_ ≠ gb145 ∧ k_ ≠ gb146 ∧ k_ ≠ gb170) (fun k_ => ((fun k_ => (P0_ k_ ∨ w.heap.size ≤ k_) ∧ some k_ ≠ (.slice (some ad162) t153.length co28 : Value).ownBlock ∧ some k_ ≠ (.slice (some ad161) t150.length co27 : Value).ownBlock ∧ some k_ ≠ (.slice (some ad162) t153.length co28 : Value).ownBlock ∧ k_ ≠ gb145 ∧ k_ ≠ gb146 ∧ k_ ≠ gb170)) k_ ∧ some k_ ≠ (u12 : Value).ownBlock) rfl rfl ?aP (fun _ hk => hk) ?aF ?aO ?aB ?aS ?aL ?_; (case aP => exact (k72_mkF _ _ (⟨(⟨(⟨t165, t166⟩ : S62), false⟩ : S70), (rd t150 x61_2), rd t153 x67_3⟩ : S72) (Kd.R_reads' (Kd.R_mono (ok' := (fun k_ => ((fun k_ => (P0_ k_ ∨ w.heap.size ≤ k_) ∧ some k_ ≠ (.slice (some ad162) t153.length co28 : Value).ownBlock ∧ some k_ ≠ (.slice (some ad161) t150.length co27 : Value).ownBlock ∧ some k_ ≠ (.slice (some ad162) t153.length co28 : Value).ownBlock ∧ k_ ≠ gb145 ∧ k_ ≠ gb146 ∧ k_ ≠ gb170)) k_ ∧ some k_ ≠ (u12 : Value).ownBlock)) (Kd.R_types (Kd.R_types (Kd.R_types (Kd.R_apart' (Kd.R_apart' (Kd.R_apart' (Kd.R_apart' (HO168.out) (Kd.R_typed HO_11.out) (by decide)) (Kd.R_typed HO_59.out) (by decide)) (Kd.R_typed HO_65.out) (by decide)) (Kd.N_typed HO_12.out) (by decide)) BK145.out (by decide)) BK146.out (by decide)) BK170.out (by decide)) (fun k_ hk => ⟨⟨(.inr (hk.1.1.1.1.1.1.1)), ⟨hk.1.1.1.1.1.1.2, ⟨hk.1.1.1.1.1.2, ⟨hk.1.1.1.1.2, ⟨hk.1.1.2, ⟨hk.1.2, hk.2⟩⟩⟩⟩⟩⟩, hk.1.1.1.2⟩))).2.1 (Kd.R_F (Kd.R_mono (ok' := (fun k_ => ((fun k_ => (P0_ k_ ∨ w.heap.size ≤ k_) ∧ some k_ ≠ (.slice (some ad162) t153.length co28 : Value).ownBlock ∧ some k_ ≠ (.slice (some ad161) t150.length co27 : Value).ownBlock ∧ some k_ ≠ (.slice (some ad162) t153.length co28 : Value).ownBlock ∧ k_ ≠ gb145 ∧ k_ ≠ gb146 ∧ k_ ≠ gb170)) k_ ∧ some k_ ≠ (u12 : Value).ownBlock)) (Kd.R_types (Kd.R_types (Kd.R_types (Kd.R_apart' (Kd.R_apart' (Kd.R_apart' (Kd.R_apart' (HO168.out) (Kd.R_typed HO_11.out) (by decide)) (Kd.R_typed HO_59.out) (by decide)) (Kd.R_typed HO_65.out) (by decide)) (Kd.N_typed HO_12.out) (by decide)) BK145.out (by decide)) BK146.out (by decide)) BK170.out (by decide)) (fun k_ hk => ⟨⟨(.inr (hk.1.1.1.1.1.1.1)), ⟨hk.1.1.1.1.1.1.2, ⟨hk.1.1.1.1.1.2, ⟨hk.1.1.1.1.2, ⟨hk.1.1.2, ⟨hk.1.2, hk.2⟩⟩⟩⟩⟩⟩, hk.1.1.1.2⟩))))); (case aB => exact (zo HB)); (case aF => exact (fun k_ hk => ⟨(.inr (Nat.le_trans (below_size (zo HB)) hk)), Kd.fresh' (Kd.R_lt (zr HO_11)) k_ hk, Kd.fresh' (Kd.R_lt (zr HO_59)) k_ hk, Kd.fresh' (Kd.R_lt (zr HO_65)) k_ hk, Kd.freshB (g := gb145) (o := .cells #[.slice (some ad163) l0.length c0] 22 (0, 0)) (zb BK145) k_ hk, Kd.freshB (g := gb146) (o := .cells #[.int .i64 a1] 3 (0, 0)) (zb BK146) k_ hk, Kd.freshB (g := gb170) (o := .cells #[.int .i64 t165, .slice Ao54 t166.length co54] 62 (0, 0)) (zb BK170) k_ hk⟩)); (case aO => exact (by (with_reducible repeat (first | apply nA | apply nN | apply nD)); exact Kd.N_mono HO_12.out (fun _ hk => ⟨hk.1, ⟨hk.2.1, ⟨hk.2.2.1, ⟨hk.2.2.2.1, ⟨hk.2.2.2.2.2.1, ⟨hk.2.2.2.2.2.2.1, hk.2.2.2.2.2.2.2⟩⟩⟩⟩⟩⟩))); (case aS => exact (below_size (zo HB))); (case aL => have := LMc48.out; omega); intro v172 w60 ho hb hg hat; rw [← Ny171.out] at ho; replace HO_0 := zK (Kd.V_afterv (ok := (fun k_ => (P0_ k_ ∨ w.heap.size ≤ k_) ∧ some k_ ≠ (.slice (some ad162) t153.length co28 : Value).ownBlock ∧ some k_ ≠ (.slice (some ad161) t150.length co27 : Value).ownBlock ∧ some k_ ≠ (.slice (some ad162) t153.length co28 : Value).ownBlock ∧ some k_ ≠ (.slice Ao54 t166.length co54 : Value).ownBlock ∧ k_ ≠ gb145 ∧ k_ ≠ gb146 ∧ k_ ≠ gb170)) (by (with_reducible repeat (first | apply vA | apply vN | apply vD)); exact vM HO_0.out (fun _ hk => ⟨⟨hk.1, ⟨hk.2.1, ⟨hk.2.2.2.1, ⟨hk.2.2.2.2.1, ⟨hk.2.2.2.2.2.1, ⟨hk.2.2.2.2.2.2.1, ⟨hk.2.2.2.2.2.2.2.1, hk.2.2.2.2.2.2.2.2⟩⟩⟩⟩⟩⟩⟩, hk.2.2.1⟩)) hg hat); replace HO_11 := zK (Kd.R_over' (zr HO_11) (Kd.N_typed (zn HO_12)) (by decide) hg); replace HO_59 := zK (Kd.R_over' (zr HO_59) (Kd.N_typed (zn HO_12)) (by decide) hg); replace HO_65 := zK (Kd.R_over' (zr HO_65) (Kd.N_typed (zn HO_12)) (by decide) hg); replace HO_146000 := zK (Kd.V_afterv (ok := (fun k_ => (P0_ k_ ∨ w.heap.size ≤ k_) ∧ some k_ ≠ (.slice (some ad162) t153.length co28 : Value).ownBlock ∧ some k_ ≠ (.slice (some ad161) t150.length co27 : Value).ownBlock ∧ some k_ ≠ (.slice (some ad162) t153.length co28 : Value).ownBlock ∧ some k_ ≠ (.slice Ao54 t166.length co54 : Value).ownBlock ∧ k_ ≠ gb145 ∧ k_ ≠ gb146 ∧ k_ ≠ gb170)) (by (with_reducible repeat (first | apply vA | apply vN | apply vD)); exact vM HO_146000.out (fun _ hk => ⟨⟨hk.1, ⟨hk.2.1, ⟨hk.2.2.2.1, ⟨hk.2.2.2.2.1, ⟨hk.2.2.2.2.2.1, ⟨hk.2.2.2.2.2.2.1, ⟨hk.2.2.2.2.2.2.2.1, hk.2.2.2.2.2.2.2.2⟩⟩⟩⟩⟩⟩⟩, hk.2.2.1⟩)) hg hat); replace BK145 := zK (blk_grown (g := gb145) (o := .cells #[.slice (some ad163) l0.length c0] 22 (0, 0)) (zb BK145) hg (Kd.N_ne HO_12.out BK145.out (by decide))); replace BK146 := zK (blk_grown (g := gb146) (o := .cells #[.int .i64 a1] 3 (0, 0)) (zb BK146) hg (Kd.N_ne HO_12.out BK146.out (by decide))); replace HL163_1 := zK (Kd.V_afterv (ok := (fun k_ => (P0_ k_ ∨ w.heap.size ≤ k_) ∧ some k_ ≠ (.slice (some ad162) t153.length co28 : Value).ownBlock ∧ some k_ ≠ (.slice (some ad161) t150.length co27 : Value).ownBlock ∧ some k_ ≠ (.slice (some ad162) t153.length co28 : Value).ownBlock ∧ some k_ ≠ (.slice Ao54 t166.length co54 : Value).ownBlock ∧ k_ ≠ gb145 ∧ k_ ≠ gb146 ∧ k_ ≠ gb170)) (by (with_reducible repeat (first | apply vA | apply vN | apply vD)); exact vM HL163_1.out (fun _ hk => ⟨⟨hk.1, ⟨hk.2.1, ⟨hk.2.2.2.1, ⟨hk.2.2.2.2.1, ⟨hk.2.2.2.2.2.1, ⟨hk.2.2.2.2.2.2.1, ⟨hk.2.2.2.2.2.2.2.1, hk.2.2.2.2.2.2.2.2⟩⟩⟩⟩⟩⟩⟩, hk.2.2.1⟩)) hg hat); replace HL164_1 := zK (Kd.V_afterv (ok := (fun k_ => (P0_ k_ ∨ w.heap.size ≤ k_) ∧ some k_ ≠ (.slice (some ad162) t153.length co28 : Value).ownBlock ∧ some k_ ≠ (.slice (some ad161) t150.length co27 : Value).ownBlock ∧ some k_ ≠ (.slice (some ad162) t153.length co28 : Value).ownBlock ∧ some k_ ≠ (.slice Ao54 t166.length co54 : Value).ownBlock ∧ k_ ≠ gb145 ∧ k_ ≠ gb146 ∧ k_ ≠ gb170)) (by (with_reducible repeat (first | apply vA | apply vN | apply vD)); exact vM HL164_1.out (fun _ hk => ⟨⟨hk.1, ⟨hk.2.1, ⟨hk.2.2.2.1, ⟨hk.2.2.2.2.1, ⟨hk.2.2.2.2.2.1, ⟨hk.2.2.2.2.2.2.1, ⟨hk.2.2.2.2.2.2.2.1, hk.2.2.2.2.2.2.2.2⟩⟩⟩⟩⟩⟩⟩, hk.2.2.1⟩)) hg hat); replace BK170 := zK (blk_grown (g := gb170) (o := .cells #[.int .i64 t165, .slice Ao54 t166.length co54] 62 (0, 0)) (zb BK170) hg (Kd.N_ne HO_12.out BK170.out (by decide))); replace HB := zK (hb); have HO173 := zK (ho); clear HO_12 HO168 ho hb hg hat))
                      go_roundg k3
                      case measure => have := HK1.out; have := HK2.out; have := HK3.out; omega
                      case rel => exact ⟨(y171), (wrap64 (x67_3 + 1)), (by first | rfl | (simp; done) | (simp [*]; done)), H', ⟨by have := HK1.out; have := HK2.out; have := HK3.out; omega⟩, ⟨by (with_reducible repeat (first | apply vA | apply vN | apply vD)); exact vM HO_0.out (fun _ hk => ⟨hk.1.1, ⟨hk.1.2.1, ⟨hk.2, ⟨hk.1.2.2.1, ⟨hk.1.2.2.2.1, ⟨hk.1.2.2.2.2.2.1, hk.1.2.2.2.2.2.2.1⟩⟩⟩⟩⟩⟩)⟩, ⟨zr HO_11⟩, ⟨by (with_reducible repeat (first | apply nA | apply nN | apply nD)); exact Kd.N_mono HO173.out (fun _ hk => ⟨hk.1, ⟨hk.2.1, ⟨hk.2.2.1, ⟨hk.2.2.2.1, ⟨hk.2.2.2.2.1, hk.2.2.2.2.2.1⟩⟩⟩⟩⟩)⟩, ⟨zr HO_59⟩, ⟨zr HO_65⟩, ⟨by (with_reducible repeat (first | apply vA | apply vN | apply vD)); exact vM HO_146000.out (fun _ hk => ⟨hk.1.1, ⟨hk.1.2.1, ⟨hk.2, ⟨hk.1.2.2.1, ⟨hk.1.2.2.2.1, ⟨hk.1.2.2.2.2.2.1, hk.1.2.2.2.2.2.2.1⟩⟩⟩⟩⟩⟩)⟩, ⟨zb BK145⟩, ⟨zb BK146⟩, ⟨zo HB⟩⟩
                     ·rw [if_neg c48] at H
                      exact absurd H (by simp)
                    ·replace c47 := Bool.eq_false_iff.mpr c47
                     subst c47
                     have H1 : (some (([] : List (S72)), 5)) = some (r1, r2) := by rw [if_neg (show ¬ (false = true) by decide)] at H; exact H
                     clear H; have H := H1; clear H1
                     simp only [Option.some.injEq, Prod.mk.injEq] at H
                     obtain ⟨rfl, rfl⟩ := H
                     have p162 : 0 ≤ (x67_3 : Int) := of_decide_eq_true (by first | (with_reducible assumption) | assumption)
                     have q162 : x67_3 < (t153.length : Int) := of_decide_eq_true (by first | (with_reducible assumption) | assumption)
                     obtain ⟨ad162, e162, hx162_0⟩ := Kd.at_int (Kd.R_reads' HO_65.out).2.2 x67_3 p162 q162
                     cases e162
                     replace p162 := eq_true p162
                     replace q162 := eq_true q162
                     try go_wp2
                     replace HO_0 := zK (vD HO_0.out)
                     replace HO_11 := zK (Kd.R_drew HO_11.out)
                     replace HO_12 := zK (nD HO_12.out)
                     replace HO_59 := zK (Kd.R_drew HO_59.out)
                     replace HO_65 := zK (Kd.R_drew HO_65.out)
                     replace HO_146000 := zK (vD HO_146000.out)
                     replace BK145 := zK (zD BK145.out)
                     replace BK146 := zK (zD BK146.out)
                     replace HB := zK (yD HB.out)
                     have p163 : 0 ≤ ((rd t150 x61_2) : Int) := of_decide_eq_true (by first | (with_reducible assumption) | assumption)
                     have q163 : (rd t150 x61_2) < (l0.length : Int) := of_decide_eq_true (by first | (with_reducible assumption) | assumption)
                     obtain ⟨ad163, A163_1, c163_1, e163, hx163_0, hx163_1, hx163_2, hl163_1, hi163_1⟩ := at_T70 (Kd.V_reads' HO_0.out).2.2 (rd t150 x61_2) p163 q163
                     cases e163
                     obtain ⟨ce163, hce163, hMe163, hcc163⟩ := Kd.V_get HO_0.out z70 (rd t150 x61_2) p163 (by first | exact q163 | exact of_decide_eq_true (by first | (with_reducible assumption) | assumption) | (have e_ := (Kd.V_reads' HO_0.out).1; omega))
                     obtain ⟨ua163_1, uc163_1, rfl, ul163_1, ge163_1⟩ := k70_openF hMe163
                     have hv163_1 := hcc163 1 _ rfl
                     rw [add_field _ _ 1 (by omega)] at hv163_1
                     replace hv163_1 := Option.some.inj (hv163_1.symm.trans hx163_1)
                     injection hv163_1 with hva_ hvn_ hvc_
                     rw [hva_] at ge163_1
                     rw [hvc_] at ul163_1
                     have HL163_1 := zK (show Kd.V k68 68 _ w.heap.size _ _ ((rd_T70 l0 (rd t150 x61_2)).f0.f1) from Kd.V_mk ul163_1 ge163_1)
                     clear hva_ hvn_ hvc_ ge163_1 ul163_1 hcc163 hce163
                     have HR163_1 := zK hi163_1
                     have HC163_1 := zK hl163_1; clear hi163_1 hl163_1
                     replace p163 := eq_true p163
                     replace q163 := eq_true q163
                     have p164 : 0 ≤ ((rd t153 x67_3) : Int) := of_decide_eq_true (by first | (with_reducible assumption) | assumption)
                     have q164 : (rd t153 x67_3) < (l0.length : Int) := of_decide_eq_true (by first | (with_reducible assumption) | assumption)
                     obtain ⟨ad164, A164_1, c164_1, e164, hx164_0, hx164_1, hx164_2, hl164_1, hi164_1⟩ := at_T70 (Kd.V_reads' HO_0.out).2.2 (rd t153 x67_3) p164 q164
                     obtain rfl : ad163 = ad164 := (by injection e164)
                     obtain ⟨ce164, hce164, hMe164, hcc164⟩ := Kd.V_get HO_0.out z70 (rd t153 x67_3) p164 (by first | exact q164 | exact of_decide_eq_true (by first | (with_reducible assumption) | assumption) | (have e_ := (Kd.V_reads' HO_0.out).1; omega))
                     obtain ⟨ua164_1, uc164_1, rfl, ul164_1, ge164_1⟩ := k70_openF hMe164
                     have hv164_1 := hcc164 1 _ rfl
                     rw [add_field _ _ 1 (by omega)] at hv164_1
                     replace hv164_1 := Option.some.inj (hv164_1.symm.trans hx164_1)
                     injection hv164_1 with hva_ hvn_ hvc_
                     rw [hva_] at ge164_1
                     rw [hvc_] at ul164_1
                     have HL164_1 := zK (show Kd.V k68 68 _ w.heap.size _ _ ((rd_T70 l0 (rd t153 x67_3)).f0.f1) from Kd.V_mk ul164_1 ge164_1)
                     clear hva_ hvn_ hvc_ ge164_1 ul164_1 hcc164 hce164
                     have HR164_1 := zK hi164_1
                     have HC164_1 := zK hl164_1; clear hi164_1 hl164_1
                     replace p164 := eq_true p164
                     replace q164 := eq_true q164
                     refine start_ (n := 19) (S := fun w' => w'.cell? (ad163.add (((rd t150 x61_2)).toNat * 3)) = some (.int .i64 ((rd_T70 l0 (rd t150 x61_2)).f0.f0)) ∧ w'.cell? ⟨(ad163.add (((rd t150 x61_2)).toNat * 3)).block, (ad163.add (((rd t150 x61_2)).toNat * 3)).off + 1, none⟩ = some (.slice A163_1 ((rd_T70 l0 (rd t150 x61_2)).f0.f1).length c163_1) ∧ w'.cell? ⟨(ad163.add (((rd t150 x61_2)).toNat * 3)).block, (ad163.add (((rd t150 x61_2)).toNat * 3)).off + 2, none⟩ = some (.bool ((rd_T70 l0 (rd t150 x61_2)).f1)) ∧ w'.cell? (ad163.add (((rd t153 x67_3)).toNat * 3)) = some (.int .i64 ((rd_T70 l0 (rd t153 x67_3)).f0.f0)) ∧ w'.cell? ⟨(ad163.add (((rd t153 x67_3)).toNat * 3)).block, (ad163.add (((rd t153 x67_3)).toNat * 3)).off + 1, none⟩ = some (.slice A164_1 ((rd_T70 l0 (rd t153 x67_3)).f0.f1).length c164_1) ∧ w'.cell? ⟨(ad163.add (((rd t153 x67_3)).toNat * 3)).block, (ad163.add (((rd t153 x67_3)).toNat * 3)).off + 2, none⟩ = some (.bool ((rd_T70 l0 (rd t153 x67_3)).f1))) (ds := []) #[F_,F_,F_,F_,F_,F_,F_,F_,F_,F_,F_,F_,F_,F_,F_,F_,F_,F_,F_] (by kernel_rfl) rfl rfl ⟨hx163_0, hx163_1, hx163_2, hx164_0, hx164_1, hx164_2⟩ (fun hHeld => ?_); refine with_tabW shadow_all.tab19 shadow_all.bits19 (fun HT_ HW_ => ?_)
                     generalize wr.drew = w61 at HO_0 HO_11 HO_12 HO_59 HO_65 HO_146000 BK145 BK146 HB HL163_1 HL164_1 HR163_1 HR164_1 hx163_0 hx163_1 hx163_2 hx164_0 hx164_1 hx164_2 hHeld ⊢
                     refine pure_ (i := 0) (N := some 72) (v := ?_) (a' := ?_) #[T_,F_,F_,F_,F_,F_,F_,F_,F_,F_,F_,F_,F_,F_,F_,F_,F_,F_,F_] rfl rfl (any_of HT_.out (by kernel_rfl)) (fun _ _ _ h => h) (Or.inl ⟨by rfl, ?_⟩) ?_ ?_; rotate_left; (intro w'; go_simp; with_reducible rfl); rotate_left; (simp only [Act.put, zt, zz, zs, i64_w, i32_w]; rfl)
                     refine pure_ (i := 1) (N := some 73) (v := ?_) (a' := ?_) #[T_,T_,F_,F_,F_,F_,F_,F_,F_,F_,F_,F_,F_,F_,F_,F_,F_,F_,F_] rfl rfl (any_of HT_.out (by kernel_rfl)) (fun _ _ _ h => h) (Or.inl ⟨by rfl, ?_⟩) ?_ ?_; rotate_left; (intro w'; go_simp; with_reducible rfl); rotate_left; (simp only [Act.put, zt, zz, zs, i64_w, i32_w]; rfl)
                     refine pure_ (i := 2) (N := some 74) (v := ?_) (a' := ?_) #[T_,T_,T_,F_,F_,F_,F_,F_,F_,F_,F_,F_,F_,F_,F_,F_,F_,F_,F_] rfl rfl (any_of HT_.out (by kernel_rfl)) (fun _ _ _ h => h) (Or.inl ⟨by rfl, ?_⟩) ?_ ?_; rotate_left; (intro w'; go_simp; with_reducible rfl); rotate_left; (simp only [Act.put, zt, zz, zs, i64_w, i32_w]; rfl)
                     refine pure_ (i := 3) (N := some 75) (v := ?_) (a' := ?_) #[T_,T_,T_,T_,F_,F_,F_,F_,F_,F_,F_,F_,F_,F_,F_,F_,F_,F_,F_] rfl rfl (any_of HT_.out (by kernel_rfl)) (fun _ _ _ h => h) (Or.inl ⟨by rfl, ?_⟩) ?_ ?_; rotate_left; (intro w'; go_simp; with_reducible rfl); rotate_left; (simp only [Act.put, zt, zz, zs, i64_w, i32_w]; rfl)
                     refine pure_ (i := 5) (N := some 77) (v := ?_) (a' := ?_) #[T_,T_,T_,T_,F_,T_,F_,F_,F_,F_,F_,F_,F_,F_,F_,F_,F_,F_,F_] rfl rfl (any_of HT_.out (by kernel_rfl)) (fun _ _ _ h => h) (Or.inl ⟨by rfl, ?_⟩) ?_ ?_; rotate_left; (intro w'; go_simp; with_reducible rfl); rotate_left; (simp only [Act.put, zt, zz, zs, i64_w, i32_w]; rfl)
                     refine pure_ (i := 6) (N := some 78) (v := ?_) (a' := ?_) #[T_,T_,T_,T_,F_,T_,T_,F_,F_,F_,F_,F_,F_,F_,F_,F_,F_,F_,F_] rfl rfl (any_of HT_.out (by kernel_rfl)) (fun _ _ _ h => h) (Or.inl ⟨by rfl, ?_⟩) ?_ ?_; rotate_left; (intro w'; go_simp; with_reducible rfl); rotate_left; (simp only [Act.put, zt, zz, zs, i64_w, i32_w]; rfl)
                     refine pure_ (i := 7) (N := some 79) (v := ?_) (a' := ?_) #[T_,T_,T_,T_,F_,T_,T_,T_,F_,F_,F_,F_,F_,F_,F_,F_,F_,F_,F_] rfl rfl (any_of HT_.out (by kernel_rfl)) (fun _ _ _ h => h) (Or.inl ⟨by rfl, ?_⟩) ?_ ?_; rotate_left; (intro w'; go_simp; with_reducible rfl); rotate_left; (simp only [Act.put, zt, zz, zs, i64_w, i32_w]; rfl)
                     refine pure_ (i := 8) (N := some 80) (v := ?_) (a' := ?_) #[T_,T_,T_,T_,F_,T_,T_,T_,T_,F_,F_,F_,F_,F_,F_,F_,F_,F_,F_] rfl rfl (any_of HT_.out (by kernel_rfl)) (fun _ _ _ h => h) (Or.inl ⟨by rfl, ?_⟩) ?_ ?_; rotate_left; (intro w'; go_simp; with_reducible rfl); rotate_left; (simp only [Act.put, zt, zz, zs, i64_w, i32_w]; rfl)
                     refine pure_ (i := 10) (N := some 82) (v := ?_) (a' := ?_) #[T_,T_,T_,T_,F_,T_,T_,T_,T_,F_,T_,F_,F_,F_,F_,F_,F_,F_,F_] rfl rfl (any_of HT_.out (by kernel_rfl)) (fun _ _ _ h => h) (Or.inl ⟨by rfl, ?_⟩) ?_ ?_; rotate_left; (intro w'; go_simp; with_reducible rfl); rotate_left; (simp only [Act.put, zt, zz, zs, i64_w, i32_w]; rfl)
                     refine pure_ (i := 11) (N := some 83) (v := ?_) (a' := ?_) #[T_,T_,T_,T_,F_,T_,T_,T_,T_,F_,T_,T_,F_,F_,F_,F_,F_,F_,F_] rfl rfl (any_of HT_.out (by kernel_rfl)) (fun _ _ _ h => h) (Or.inl ⟨by rfl, ?_⟩) ?_ ?_; rotate_left; (intro w'; go_simp; with_reducible rfl); rotate_left; (simp only [Act.put, zt, zz, zs, i64_w, i32_w]; rfl)
                     refine take_ (i := 4) (N := some 76) (v := ?_) (a' := ?_) #[T_,T_,T_,T_,T_,T_,T_,T_,T_,F_,T_,T_,F_,F_,F_,F_,F_,F_,F_] rfl rfl (take_ofW HT_.out HW_.out (by kernel_rfl)) (fun _ _ _ h => h) (Or.inl ⟨by rfl, ?_⟩) hHeld ?_ ?_; rotate_left; (rintro w' ⟨s0, s1, s2, s3, s4, s5⟩; go_simp; with_reducible rfl); rotate_left; (simp only [Act.put, zt, zz, zs, i64_w, i32_w]; rfl)
                     refine take_ (i := 9) (N := some 81) (v := ?_) (a' := ?_) #[T_,T_,T_,T_,T_,T_,T_,T_,T_,T_,T_,T_,F_,F_,F_,F_,F_,F_,F_] rfl rfl (take_ofW HT_.out HW_.out (by kernel_rfl)) (fun _ _ _ h => h) (Or.inl ⟨by rfl, ?_⟩) hHeld ?_ ?_; rotate_left; (rintro w' ⟨s0, s1, s2, s3, s4, s5⟩; go_simp; with_reducible rfl); rotate_left; (simp only [Act.put, zt, zz, zs, i64_w, i32_w]; rfl)
                     refine join_ (σ := Value × Nat) 2 #[T_,T_,T_,T_,T_,T_,T_,T_,T_,T_,T_,T_,T_,T_,T_,T_,T_,F_,F_] (fun s_ => [(84, .tuple #[.agg #[.int .i64 t165, s_.1], .bool false]), (19, .pointer (some ⟨s_.2, 0, none⟩)), (71, .tuple #[.agg #[.int .i64 t165, s_.1], .bool false]), (85, .agg #[.int .i64 t165, s_.1]), (86, .bool false)]) (fun s_ w' => (w'.cell? (ad163.add (((rd t150 x61_2)).toNat * 3)) = some (.int .i64 ((rd_T70 l0 (rd t150 x61_2)).f0.f0)) ∧ w'.cell? ⟨(ad163.add (((rd t150 x61_2)).toNat * 3)).block, (ad163.add (((rd t150 x61_2)).toNat * 3)).off + 1, none⟩ = some (.slice A163_1 ((rd_T70 l0 (rd t150 x61_2)).f0.f1).length c163_1) ∧ w'.cell? ⟨(ad163.add (((rd t150 x61_2)).toNat * 3)).block, (ad163.add (((rd t150 x61_2)).toNat * 3)).off + 2, none⟩ = some (.bool ((rd_T70 l0 (rd t150 x61_2)).f1)) ∧ w'.cell? (ad163.add (((rd t153 x67_3)).toNat * 3)) = some (.int .i64 ((rd_T70 l0 (rd t153 x67_3)).f0.f0)) ∧ w'.cell? ⟨(ad163.add (((rd t153 x67_3)).toNat * 3)).block, (ad163.add (((rd t153 x67_3)).toNat * 3)).off + 1, none⟩ = some (.slice A164_1 ((rd_T70 l0 (rd t153 x67_3)).f0.f1).length c164_1) ∧ w'.cell? ⟨(ad163.add (((rd t153 x67_3)).toNat * 3)).block, (ad163.add (((rd t153 x67_3)).toNat * 3)).off + 2, none⟩ = some (.bool ((rd_T70 l0 (rd t153 x67_3)).f1))) ∧ (Kd.V k68 68 w' w.heap.size (fun k_ => (P0_ k_ ∨ w.heap.size ≤ k_) ∧ some k_ ≠ (s_.1 : Value).ownBlock ∧ some k_ ≠ (.slice (some ad162) t153.length co28 : Value).ownBlock ∧ some k_ ≠ (u12 : Value).ownBlock ∧ some k_ ≠ (.slice (some ad161) t150.length co27 : Value).ownBlock ∧ some k_ ≠ (.slice (some ad162) t153.length co28 : Value).ownBlock ∧ k_ ≠ gb145 ∧ k_ ≠ gb146 ∧ k_ ≠ s_.2) (.slice A163_1 ((rd_T70 l0 (rd t150 x61_2)).f0.f1).length c163_1) ((rd_T70 l0 (rd t150 x61_2)).f0.f1)) ∧ (Kd.V k68 68 w' w.heap.size (fun k_ => (P0_ k_ ∨ w.heap.size ≤ k_) ∧ some k_ ≠ (s_.1 : Value).ownBlock ∧ some k_ ≠ (.slice (some ad162) t153.length co28 : Value).ownBlock ∧ some k_ ≠ (u12 : Value).ownBlock ∧ some k_ ≠ (.slice (some ad161) t150.length co27 : Value).ownBlock ∧ some k_ ≠ (.slice (some ad162) t153.length co28 : Value).ownBlock ∧ k_ ≠ gb145 ∧ k_ ≠ gb146 ∧ k_ ≠ s_.2) (.slice A164_1 ((rd_T70 l0 (rd t153 x67_3)).f0.f1).length c164_1) ((rd_T70 l0 (rd t153 x67_3)).f0.f1)) ∧ (Kd.R k68 68 w' w.heap.size (fun k_ => (w.heap.size ≤ k_)) s_.1 t166) ∧ (Kd.V k70 70 w' w.heap.size (fun k_ => (P0_ k_ ∨ w.heap.size ≤ k_) ∧ some k_ ≠ (s_.1 : Value).ownBlock ∧ some k_ ≠ (.slice (some ad162) t153.length co28 : Value).ownBlock ∧ some k_ ≠ (u12 : Value).ownBlock ∧ some k_ ≠ (.slice (some ad161) t150.length co27 : Value).ownBlock ∧ some k_ ≠ (.slice (some ad162) t153.length co28 : Value).ownBlock ∧ k_ ≠ gb145 ∧ k_ ≠ gb146 ∧ k_ ≠ s_.2) (.slice (some ad163) l0.length c0) l0) ∧ (Kd.R (Kd.int .i64) 3 w' w.heap.size (fun k_ => (w.heap.size ≤ k_) ∧ some k_ ≠ (.slice (some ad161) t150.length co27 : Value).ownBlock ∧ k_ ≠ gb146) (.slice (some ad162) t153.length co28) t153) ∧ (Kd.N k72 72 w' w.heap.size (fun k_ => (P0_ k_ ∨ w.heap.size ≤ k_) ∧ some k_ ≠ (s_.1 : Value).ownBlock ∧ some k_ ≠ (.slice (some ad162) t153.length co28 : Value).ownBlock ∧ some k_ ≠ (.slice (some ad161) t150.length co27 : Value).ownBlock ∧ some k_ ≠ (.slice (some ad162) t153.length co28 : Value).ownBlock ∧ k_ ≠ gb145 ∧ k_ ≠ gb146 ∧ k_ ≠ s_.2) u12 x12_3) ∧ (Kd.V k70 70 w' w.heap.size (fun k_ => (P0_ k_ ∨ w.heap.size ≤ k_) ∧ some k_ ≠ (s_.1 : Value).ownBlock ∧ some k_ ≠ (.slice (some ad162) t153.length co28 : Value).ownBlock ∧ some k_ ≠ (u12 : Value).ownBlock ∧ some k_ ≠ (.slice (some ad161) t150.length co27 : Value).ownBlock ∧ some k_ ≠ (.slice (some ad162) t153.length co28 : Value).ownBlock ∧ k_ ≠ gb145 ∧ k_ ≠ gb146 ∧ k_ ≠ s_.2) (.slice (some ad163) l0.length c0) l0) ∧ (Kd.R (Kd.int .i64) 3 w' w.heap.size (fun k_ => (w.heap.size ≤ k_) ∧ some k_ ≠ (.slice (some ad162) t153.length co28 : Value).ownBlock ∧ some k_ ≠ (.slice (some ad162) t153.length co28 : Value).ownBlock ∧ k_ ≠ gb146) (.slice (some ad161) t150.length co27) t150) ∧ (Kd.R (Kd.int .i64) 3 w' w.heap.size (fun k_ => (w.heap.size ≤ k_) ∧ some k_ ≠ (.slice (some ad161) t150.length co27 : Value).ownBlock ∧ k_ ≠ gb146) (.slice (some ad162) t153.length co28) t153) ∧ (w'.heap[gb145]? = some (.cells #[.slice (some ad163) l0.length c0] 22 (0, 0))) ∧ (w'.heap[gb146]? = some (.cells #[.int .i64 a1] 3 (0, 0))) ∧ (w'.heap[s_.2]? = some (.cells #[.int .i64 0, .slice none 0 0] 62 (0, 0))) ∧ (w.heap.size ≤ s_.2) ∧ (w.heap.size ≤ s_.2) ∧ (gb145 ≠ s_.2) ∧ (s_.2 ≠ gb145) ∧ (gb146 ≠ s_.2) ∧ (s_.2 ≠ gb146) ∧ (Below w.heap.size w w')) ?_ ?_
                     rotate_left
                     ·intro hCont
                      refine two_ (i := 12) (j := 16) (Ni := some 84) (Nj := some 19) #[T_,T_,T_,T_,T_,T_,T_,T_,T_,T_,T_,T_,T_,F_,F_,F_,F_,F_,F_] #[T_,T_,T_,T_,T_,T_,T_,T_,T_,T_,T_,T_,F_,F_,F_,F_,T_,F_,F_] rfl rfl rfl rfl (two_of HT_.out (by kernel_rfl)) (by decide) (by decide) (fun K hK => ?_) (fun K hK => ?_)
                      ·skip
                       refine goes_ Try.func77 (by kernel_rfl) rfl #[.agg #[.int .i64 ((rd_T70 l0 (rd t150 x61_2)).f0.f0), .slice A163_1 ((rd_T70 l0 (rd t150 x61_2)).f0.f1).length c163_1], .agg #[.int .i64 ((rd_T70 l0 (rd t153 x67_3)).f0.f0), .slice A164_1 ((rd_T70 l0 (rd t153 x67_3)).f0.f1).length c164_1], .int .i64 a1, .bool a2] (by rfl) rfl rfl (by (try simp only [List.map_toArray, List.map_cons, List.map_nil]); first | done | rfl | (simp only [List.length_drop, List.length_take]; rfl)) ?_
                       with_reducible refine (shadow_shade.calls k3 ((rd_T70 l0 (rd t150 x61_2)).f0.f0) _ _ ((rd_T70 l0 (rd t150 x61_2)).f0.f1) ((rd_T70 l0 (rd t153 x67_3)).f0.f0) _ _ ((rd_T70 l0 (rd t153 x67_3)).f0.f1) a1 a2 t165 t166 false _ ?side1 ?side2 ?side3 ?side4 A46.out).mono ?_
                       (case side1 => repeat (first | exact (by repeat (first | (with_reducible exact HR163_1.out) | (with_reducible refine cA ?_ _) | (with_reducible refine cN ?_ _) | (with_reducible refine cD ?_) | exact HR163_1.out)) | (with_reducible refine cA ?_ _) | (with_reducible refine cN ?_ _) | (with_reducible refine cD ?_)))
                       (case side2 => exact HC163_1.out)
                       (case side3 => repeat (first | exact (by repeat (first | (with_reducible exact HR164_1.out) | (with_reducible refine cA ?_ _) | (with_reducible refine cN ?_ _) | (with_reducible refine cD ?_) | exact HR164_1.out)) | (with_reducible refine cA ?_ _) | (with_reducible refine cN ?_ _) | (with_reducible refine cD ?_)))
                       (case side4 => exact HC164_1.out)
                       rintro e w62 ⟨v167, rfl, ho0, hb⟩
                       have HS0_ := (hb.cell (World.block_lt_of_cell? _ _ (hHeld.1))).trans (hHeld.1)
                       have HS1_ := (hb.cell (World.block_lt_of_cell? _ _ (hHeld.2.1))).trans (hHeld.2.1)
                       have HS2_ := (hb.cell (World.block_lt_of_cell? _ _ (hHeld.2.2.1))).trans (hHeld.2.2.1)
                       have HS3_ := (hb.cell (World.block_lt_of_cell? _ _ (hHeld.2.2.2.1))).trans (hHeld.2.2.2.1)
                       have HS4_ := (hb.cell (World.block_lt_of_cell? _ _ (hHeld.2.2.2.2.1))).trans (hHeld.2.2.2.2.1)
                       have HS5_ := (hb.cell (World.block_lt_of_cell? _ _ (hHeld.2.2.2.2.2))).trans (hHeld.2.2.2.2.2)
                       refine ⟨_, rfl, ?_⟩
                       replace HO_0 := zK (Kd.V_elder' (zv HO_0) (Kd.R_base ho0) hb)
                       replace HO_11 := zK (Kd.R_below (zr HO_11) hb)
                       replace HO_12 := zK (Kd.N_elder' (zn HO_12) (Kd.R_base ho0) hb)
                       replace HO_59 := zK (Kd.R_below (zr HO_59) hb)
                       replace HO_65 := zK (Kd.R_below (zr HO_65) hb)
                       replace HO_146000 := zK (Kd.V_elder' (zv HO_146000) (Kd.R_base ho0) hb)
                       replace HL163_1 := zK (Kd.V_elder' (zv HL163_1) (Kd.R_base ho0) hb)
                       replace HL164_1 := zK (Kd.V_elder' (zv HL164_1) (Kd.R_base ho0) hb)
                       have HO168 := zK (Kd.R_lower (Kd.R_newM (M := fun k_ => (w.heap.size ≤ k_)) ho0 (below_size (zo HB)) (fun k_ h_ => h_)) (below_size (zo HB)))
                       replace BK145 := zK (blk_below (g := gb145) (o := .cells #[.slice (some ad163) l0.length c0] 22 (0, 0)) (zb BK145) hb)
                       replace BK146 := zK (blk_below (g := gb146) (o := .cells #[.int .i64 a1] 3 (0, 0)) (zb BK146) hb)
                       replace HR163_1 := zK (Kd.C_below (by repeat (first | (with_reducible exact HR163_1.out) | (with_reducible refine cA ?_ _) | (with_reducible refine cN ?_ _) | (with_reducible refine cD ?_) | exact HR163_1.out)) hb)
                       replace HR164_1 := zK (Kd.C_below (by repeat (first | (with_reducible exact HR164_1.out) | (with_reducible refine cA ?_ _) | (with_reducible refine cN ?_ _) | (with_reducible refine cD ?_) | exact HR164_1.out)) hb)
                       replace HB := zK (below_step (zo HB) hb)
                       (try clear hb); (try clear hb2); (try clear hk); (try clear hi)
                       (try clear ho0)
                       refine hK.out _ _ ⟨HS0_, HS1_, HS2_, HS3_, HS4_, HS5_⟩ (fun hHeld => ?_)
                       clear hK K
                       refine norm_ (a' := ?_) ?_ ?_; rotate_left; (show Act.put _ (some 84) _ = _; simp only [Act.put, zt, zz, zs, i64_w, i32_w]; rfl)
                       refine pure_ (i := 13) (N := some 71) (v := ?_) (a' := ?_) #[T_,T_,T_,T_,T_,T_,T_,T_,T_,T_,T_,T_,T_,T_,F_,F_,F_,F_,F_] rfl rfl (any_of HT_.out (by kernel_rfl)) (fun _ _ _ h => h) (Or.inl ⟨by rfl, ?_⟩) ?_ ?_; rotate_left; (intro w'; go_simp; with_reducible rfl); rotate_left; (simp only [Act.put, zt, zz, zs, i64_w, i32_w]; rfl)
                       refine pure_ (i := 14) (N := some 85) (v := ?_) (a' := ?_) #[T_,T_,T_,T_,T_,T_,T_,T_,T_,T_,T_,T_,T_,T_,T_,F_,F_,F_,F_] rfl rfl (any_of HT_.out (by kernel_rfl)) (fun _ _ _ h => h) (Or.inl ⟨by rfl, ?_⟩) ?_ ?_; rotate_left; (intro w'; go_simp; with_reducible rfl); rotate_left; (simp only [Act.put, zt, zz, zs, i64_w, i32_w]; rfl)
                       refine pure_ (i := 15) (N := some 86) (v := ?_) (a' := ?_) #[T_,T_,T_,T_,T_,T_,T_,T_,T_,T_,T_,T_,T_,T_,T_,T_,F_,F_,F_] rfl rfl (any_of HT_.out (by kernel_rfl)) (fun _ _ _ h => h) (Or.inl ⟨by rfl, ?_⟩) ?_ ?_; rotate_left; (intro w'; go_simp; with_reducible rfl); rotate_left; (simp only [Act.put, zt, zz, zs, i64_w, i32_w]; rfl)
                       refine one_ (i := 16) (N := some 19) #[T_,T_,T_,T_,T_,T_,T_,T_,T_,T_,T_,T_,T_,T_,T_,T_,T_,F_,F_] rfl rfl (one_of HT_.out (by kernel_rfl)) (by decide) (fun K hK => ?_)
                       refine box_step ?hg (N := 19) ?hd (cs := #[.int .i64 0, .slice none 0 0]) (t := 62) ?hr ?_; (case hd => rfl); (case hg => rfl); (case hr => first | (go_simp; done) | (go_simp; rfl))
                       intro gb170 hg w63 hbox hb
                       have HS0_ := (hb.cell (World.block_lt_of_cell? _ _ (hHeld.1))).trans (hHeld.1)
                       have HS1_ := (hb.cell (World.block_lt_of_cell? _ _ (hHeld.2.1))).trans (hHeld.2.1)
                       have HS2_ := (hb.cell (World.block_lt_of_cell? _ _ (hHeld.2.2.1))).trans (hHeld.2.2.1)
                       have HS3_ := (hb.cell (World.block_lt_of_cell? _ _ (hHeld.2.2.2.1))).trans (hHeld.2.2.2.1)
                       have HS4_ := (hb.cell (World.block_lt_of_cell? _ _ (hHeld.2.2.2.2.1))).trans (hHeld.2.2.2.2.1)
                       have HS5_ := (hb.cell (World.block_lt_of_cell? _ _ (hHeld.2.2.2.2.2))).trans (hHeld.2.2.2.2.2)
                       replace HO_0 := zK (Kd.V_below (Kd.V_elderB (zv HO_0) gb170 (Nat.le_of_eq hg.symm)) hb)
                       replace HO_11 := zK (Kd.R_below (zr HO_11) hb)
                       replace HO_12 := zK (Kd.N_below (Kd.N_elderB (zn HO_12) gb170 (Nat.le_of_eq hg.symm)) hb)
                       replace HO_59 := zK (Kd.R_below (zr HO_59) hb)
                       replace HO_65 := zK (Kd.R_below (zr HO_65) hb)
                       replace HO_146000 := zK (Kd.V_below (Kd.V_elderB (zv HO_146000) gb170 (Nat.le_of_eq hg.symm)) hb)
                       replace HL163_1 := zK (Kd.V_below (Kd.V_elderB (zv HL163_1) gb170 (Nat.le_of_eq hg.symm)) hb)
                       replace HL164_1 := zK (Kd.V_below (Kd.V_elderB (zv HL164_1) gb170 (Nat.le_of_eq hg.symm)) hb)
                       replace HO168 := zK (Kd.R_below (zr HO168) hb)
                       replace HR163_1 := zK (Kd.C_below (by repeat (first | (with_reducible exact HR163_1.out) | (with_reducible refine cA ?_ _) | (with_reducible refine cN ?_ _) | (with_reducible refine cD ?_) | exact HR163_1.out)) hb)
                       replace HR164_1 := zK (Kd.C_below (by repeat (first | (with_reducible exact HR164_1.out) | (with_reducible refine cA ?_ _) | (with_reducible refine cN ?_ _) | (with_reducible refine cD ?_) | exact HR164_1.out)) hb)
                       have BK170 := zK (hbox)
                       have GW170 := zK ((by rw [hg]; exact (below_size (zo HB)) : w.heap.size ≤ gb170))
                       have GE170 := zK ((by rw [hg]; exact (below_size (zo HB)) : w.heap.size ≤ gb170))
                       replace HB := zK (below_step (zo HB) hb)
                       have NB145_170 := zK ((by rw [hg]; exact Nat.ne_of_lt (blk_lt (g := gb145) (o := .cells #[.slice (some ad163) l0.length c0] 22 (0, 0)) (zb BK145)) : gb145 ≠ gb170))
                       have NB170_145 := zK ((by rw [hg]; exact Nat.ne_of_gt (blk_lt (g := gb145) (o := .cells #[.slice (some ad163) l0.length c0] 22 (0, 0)) (zb BK145)) : gb170 ≠ gb145))
                       replace BK145 := zK (blk_below (g := gb145) (o := .cells #[.slice (some ad163) l0.length c0] 22 (0, 0)) (zb BK145) hb)
                       have NB146_170 := zK ((by rw [hg]; exact Nat.ne_of_lt (blk_lt (g := gb146) (o := .cells #[.int .i64 a1] 3 (0, 0)) (zb BK146)) : gb146 ≠ gb170))
                       have NB170_146 := zK ((by rw [hg]; exact Nat.ne_of_gt (blk_lt (g := gb146) (o := .cells #[.int .i64 a1] 3 (0, 0)) (zb BK146)) : gb170 ≠ gb146))
                       replace BK146 := zK (blk_below (g := gb146) (o := .cells #[.int .i64 a1] 3 (0, 0)) (zb BK146) hb)
                       clear hb hbox hg
                       refine hK.out _ _ ⟨HS0_, HS1_, HS2_, HS3_, HS4_, HS5_⟩ (fun hHeld => ?_)
                       clear hK K
                       refine norm_ (a' := ?_) ?_ ?_; rotate_left; (show Act.put _ (some 19) _ = _; simp only [Act.put, zt, zz, zs, i64_w, i32_w]; rfl)
                       exact norm_ (by simp only [putAll, Act.put, zt, zz, zs]) (hCont (v167, gb170) _ ⟨hHeld, (by (with_reducible repeat (first | apply vA | apply vN | apply vD)); exact vM HL163_1.out (fun _ hk => ⟨hk.1.1.1, ⟨hk.1.2, ⟨hk.1.1.2.1, ⟨hk.1.1.2.2.1, ⟨hk.1.1.2.2.2.1, ⟨hk.1.1.2.2.2.2.1, ⟨hk.1.1.2.2.2.2.2.1, ⟨hk.1.1.2.2.2.2.2.2, hk.2⟩⟩⟩⟩⟩⟩⟩⟩)), (by (with_reducible repeat (first | apply vA | apply vN | apply vD)); exact vM HL164_1.out (fun _ hk => ⟨hk.1.1.1, ⟨hk.1.2, ⟨hk.1.1.2.1, ⟨hk.1.1.2.2.1, ⟨hk.1.1.2.2.2.1, ⟨hk.1.1.2.2.2.2.1, ⟨hk.1.1.2.2.2.2.2.1, ⟨hk.1.1.2.2.2.2.2.2, hk.2⟩⟩⟩⟩⟩⟩⟩⟩)), (by (with_reducible repeat (first | apply Kd.R_alloc | apply Kd.R_drewN | apply Kd.R_drew)); exact Kd.R_mono HO168.out (fun _ hk => hk.1)), (by (with_reducible repeat (first | apply vA | apply vN | apply vD)); exact vM HO_0.out (fun _ hk => ⟨hk.1.1.1, ⟨hk.1.2, ⟨hk.1.1.2.1, ⟨hk.1.1.2.2.1, ⟨hk.1.1.2.2.2.1, ⟨hk.1.1.2.2.2.2.1, ⟨hk.1.1.2.2.2.2.2.1, ⟨hk.1.1.2.2.2.2.2.2, hk.2⟩⟩⟩⟩⟩⟩⟩⟩)), (zr HO_11), (by (with_reducible repeat (first | apply nA | apply nN | apply nD)); exact Kd.N_mono HO_12.out (fun _ hk => ⟨hk.1.1.1, ⟨hk.1.2, ⟨hk.1.1.2.1, ⟨hk.1.1.2.2.1, ⟨hk.1.1.2.2.2.1, ⟨hk.1.1.2.2.2.2.1, ⟨hk.1.1.2.2.2.2.2, hk.2⟩⟩⟩⟩⟩⟩⟩)), (by (with_reducible repeat (first | apply vA | apply vN | apply vD)); exact vM HO_146000.out (fun _ hk => ⟨hk.1.1.1, ⟨hk.1.2, ⟨hk.1.1.2.1, ⟨hk.1.1.2.2.1, ⟨hk.1.1.2.2.2.1, ⟨hk.1.1.2.2.2.2.1, ⟨hk.1.1.2.2.2.2.2.1, ⟨hk.1.1.2.2.2.2.2.2, hk.2⟩⟩⟩⟩⟩⟩⟩⟩)), (zr HO_59), (zr HO_65), (zb BK145), (zb BK146), (zb BK170), GW170.out, GE170.out, NB145_170.out, NB170_145.out, NB146_170.out, NB170_146.out, (zo HB)⟩)
                      ·skip
                       refine box_step ?hg (N := 19) ?hd (cs := #[.int .i64 0, .slice none 0 0]) (t := 62) ?hr ?_; (case hd => rfl); (case hg => rfl); (case hr => first | (go_simp; done) | (go_simp; rfl))
                       intro gb170 hg w62 hbox hb
                       have HS0_ := (hb.cell (World.block_lt_of_cell? _ _ (hHeld.1))).trans (hHeld.1)
                       have HS1_ := (hb.cell (World.block_lt_of_cell? _ _ (hHeld.2.1))).trans (hHeld.2.1)
                       have HS2_ := (hb.cell (World.block_lt_of_cell? _ _ (hHeld.2.2.1))).trans (hHeld.2.2.1)
                       have HS3_ := (hb.cell (World.block_lt_of_cell? _ _ (hHeld.2.2.2.1))).trans (hHeld.2.2.2.1)
                       have HS4_ := (hb.cell (World.block_lt_of_cell? _ _ (hHeld.2.2.2.2.1))).trans (hHeld.2.2.2.2.1)
                       have HS5_ := (hb.cell (World.block_lt_of_cell? _ _ (hHeld.2.2.2.2.2))).trans (hHeld.2.2.2.2.2)
                       replace HO_0 := zK (Kd.V_below (Kd.V_elderB (zv HO_0) gb170 (Nat.le_of_eq hg.symm)) hb)
                       replace HO_11 := zK (Kd.R_below (zr HO_11) hb)
                       replace HO_12 := zK (Kd.N_below (Kd.N_elderB (zn HO_12) gb170 (Nat.le_of_eq hg.symm)) hb)
                       replace HO_59 := zK (Kd.R_below (zr HO_59) hb)
                       replace HO_65 := zK (Kd.R_below (zr HO_65) hb)
                       replace HO_146000 := zK (Kd.V_below (Kd.V_elderB (zv HO_146000) gb170 (Nat.le_of_eq hg.symm)) hb)
                       replace HL163_1 := zK (Kd.V_below (Kd.V_elderB (zv HL163_1) gb170 (Nat.le_of_eq hg.symm)) hb)
                       replace HL164_1 := zK (Kd.V_below (Kd.V_elderB (zv HL164_1) gb170 (Nat.le_of_eq hg.symm)) hb)
                       replace HR163_1 := zK (Kd.C_below (by repeat (first | (with_reducible exact HR163_1.out) | (with_reducible refine cA ?_ _) | (with_reducible refine cN ?_ _) | (with_reducible refine cD ?_) | exact HR163_1.out)) hb)
                       replace HR164_1 := zK (Kd.C_below (by repeat (first | (with_reducible exact HR164_1.out) | (with_reducible refine cA ?_ _) | (with_reducible refine cN ?_ _) | (with_reducible refine cD ?_) | exact HR164_1.out)) hb)
                       have BK170 := zK (hbox)
                       have GW170 := zK ((by rw [hg]; exact (below_size (zo HB)) : w.heap.size ≤ gb170))
                       have GE170 := zK ((by rw [hg]; exact (below_size (zo HB)) : w.heap.size ≤ gb170))
                       replace HB := zK (below_step (zo HB) hb)
                       have NB145_170 := zK ((by rw [hg]; exact Nat.ne_of_lt (blk_lt (g := gb145) (o := .cells #[.slice (some ad163) l0.length c0] 22 (0, 0)) (zb BK145)) : gb145 ≠ gb170))
                       have NB170_145 := zK ((by rw [hg]; exact Nat.ne_of_gt (blk_lt (g := gb145) (o := .cells #[.slice (some ad163) l0.length c0] 22 (0, 0)) (zb BK145)) : gb170 ≠ gb145))
                       replace BK145 := zK (blk_below (g := gb145) (o := .cells #[.slice (some ad163) l0.length c0] 22 (0, 0)) (zb BK145) hb)
                       have NB146_170 := zK ((by rw [hg]; exact Nat.ne_of_lt (blk_lt (g := gb146) (o := .cells #[.int .i64 a1] 3 (0, 0)) (zb BK146)) : gb146 ≠ gb170))
                       have NB170_146 := zK ((by rw [hg]; exact Nat.ne_of_gt (blk_lt (g := gb146) (o := .cells #[.int .i64 a1] 3 (0, 0)) (zb BK146)) : gb170 ≠ gb146))
                       replace BK146 := zK (blk_below (g := gb146) (o := .cells #[.int .i64 a1] 3 (0, 0)) (zb BK146) hb)
                       clear hb hbox hg
                       refine hK.out _ _ ⟨HS0_, HS1_, HS2_, HS3_, HS4_, HS5_⟩ (fun hHeld => ?_)
                       clear hK K
                       refine norm_ (a' := ?_) ?_ ?_; rotate_left; (show Act.put _ (some 19) _ = _; simp only [Act.put, zt, zz, zs, i64_w, i32_w]; rfl)
                       refine one_ (i := 12) (N := some 84) #[T_,T_,T_,T_,T_,T_,T_,T_,T_,T_,T_,T_,T_,F_,F_,F_,T_,F_,F_] rfl rfl (one_of HT_.out (by kernel_rfl)) (by decide) (fun K hK => ?_)
                       refine goes_ Try.func77 (by kernel_rfl) rfl #[.agg #[.int .i64 ((rd_T70 l0 (rd t150 x61_2)).f0.f0), .slice A163_1 ((rd_T70 l0 (rd t150 x61_2)).f0.f1).length c163_1], .agg #[.int .i64 ((rd_T70 l0 (rd t153 x67_3)).f0.f0), .slice A164_1 ((rd_T70 l0 (rd t153 x67_3)).f0.f1).length c164_1], .int .i64 a1, .bool a2] (by rfl) rfl rfl (by (try simp only [List.map_toArray, List.map_cons, List.map_nil]); first | done | rfl | (simp only [List.length_drop, List.length_take]; rfl)) ?_
                       with_reducible refine (shadow_shade.calls k3 ((rd_T70 l0 (rd t150 x61_2)).f0.f0) _ _ ((rd_T70 l0 (rd t150 x61_2)).f0.f1) ((rd_T70 l0 (rd t153 x67_3)).f0.f0) _ _ ((rd_T70 l0 (rd t153 x67_3)).f0.f1) a1 a2 t165 t166 false _ ?side1 ?side2 ?side3 ?side4 A46.out).mono ?_
                       (case side1 => repeat (first | exact (by repeat (first | (with_reducible exact HR163_1.out) | (with_reducible refine cA ?_ _) | (with_reducible refine cN ?_ _) | (with_reducible refine cD ?_) | exact HR163_1.out)) | (with_reducible refine cA ?_ _) | (with_reducible refine cN ?_ _) | (with_reducible refine cD ?_)))
                       (case side2 => exact HC163_1.out)
                       (case side3 => repeat (first | exact (by repeat (first | (with_reducible exact HR164_1.out) | (with_reducible refine cA ?_ _) | (with_reducible refine cN ?_ _) | (with_reducible refine cD ?_) | exact HR164_1.out)) | (with_reducible refine cA ?_ _) | (with_reducible refine cN ?_ _) | (with_reducible refine cD ?_)))
                       (case side4 => exact HC164_1.out)
                       rintro e w63 ⟨v167, rfl, ho0, hb⟩
                       have HS0_ := (hb.cell (World.block_lt_of_cell? _ _ (hHeld.1))).trans (hHeld.1)
                       have HS1_ := (hb.cell (World.block_lt_of_cell? _ _ (hHeld.2.1))).trans (hHeld.2.1)
                       have HS2_ := (hb.cell (World.block_lt_of_cell? _ _ (hHeld.2.2.1))).trans (hHeld.2.2.1)
                       have HS3_ := (hb.cell (World.block_lt_of_cell? _ _ (hHeld.2.2.2.1))).trans (hHeld.2.2.2.1)
                       have HS4_ := (hb.cell (World.block_lt_of_cell? _ _ (hHeld.2.2.2.2.1))).trans (hHeld.2.2.2.2.1)
                       have HS5_ := (hb.cell (World.block_lt_of_cell? _ _ (hHeld.2.2.2.2.2))).trans (hHeld.2.2.2.2.2)
                       refine ⟨_, rfl, ?_⟩
                       replace HO_0 := zK (Kd.V_elder' (zv HO_0) (Kd.R_base ho0) hb)
                       replace HO_11 := zK (Kd.R_below (zr HO_11) hb)
                       replace HO_12 := zK (Kd.N_elder' (zn HO_12) (Kd.R_base ho0) hb)
                       replace HO_59 := zK (Kd.R_below (zr HO_59) hb)
                       replace HO_65 := zK (Kd.R_below (zr HO_65) hb)
                       replace HO_146000 := zK (Kd.V_elder' (zv HO_146000) (Kd.R_base ho0) hb)
                       replace HL163_1 := zK (Kd.V_elder' (zv HL163_1) (Kd.R_base ho0) hb)
                       replace HL164_1 := zK (Kd.V_elder' (zv HL164_1) (Kd.R_base ho0) hb)
                       have HO168 := zK (Kd.R_lower (Kd.R_newM (M := fun k_ => (w.heap.size ≤ k_)) ho0 (below_size (zo HB)) (fun k_ h_ => h_)) (below_size (zo HB)))
                       replace BK145 := zK (blk_below (g := gb145) (o := .cells #[.slice (some ad163) l0.length c0] 22 (0, 0)) (zb BK145) hb)
                       replace BK146 := zK (blk_below (g := gb146) (o := .cells #[.int .i64 a1] 3 (0, 0)) (zb BK146) hb)
                       replace HR163_1 := zK (Kd.C_below (by repeat (first | (with_reducible exact HR163_1.out) | (with_reducible refine cA ?_ _) | (with_reducible refine cN ?_ _) | (with_reducible refine cD ?_) | exact HR163_1.out)) hb)
                       replace HR164_1 := zK (Kd.C_below (by repeat (first | (with_reducible exact HR164_1.out) | (with_reducible refine cA ?_ _) | (with_reducible refine cN ?_ _) | (with_reducible refine cD ?_) | exact HR164_1.out)) hb)
                       replace BK170 := zK (blk_below (g := gb170) (o := .cells #[.int .i64 0, .slice none 0 0] 62 (0, 0)) (zb BK170) hb)
                       replace HB := zK (below_step (zo HB) hb)
                       (try clear hb); (try clear hb2); (try clear hk); (try clear hi)
                       (try clear ho0)
                       refine hK.out _ _ ⟨HS0_, HS1_, HS2_, HS3_, HS4_, HS5_⟩ (fun hHeld => ?_)
                       clear hK K
                       refine norm_ (a' := ?_) ?_ ?_; rotate_left; (show Act.put _ (some 84) _ = _; simp only [Act.put, zt, zz, zs, i64_w, i32_w]; rfl)
                       refine pure_ (i := 13) (N := some 71) (v := ?_) (a' := ?_) #[T_,T_,T_,T_,T_,T_,T_,T_,T_,T_,T_,T_,T_,T_,F_,F_,T_,F_,F_] rfl rfl (any_of HT_.out (by kernel_rfl)) (fun _ _ _ h => h) (Or.inl ⟨by rfl, ?_⟩) ?_ ?_; rotate_left; (intro w'; go_simp; with_reducible rfl); rotate_left; (simp only [Act.put, zt, zz, zs, i64_w, i32_w]; rfl)
                       refine pure_ (i := 14) (N := some 85) (v := ?_) (a' := ?_) #[T_,T_,T_,T_,T_,T_,T_,T_,T_,T_,T_,T_,T_,T_,T_,F_,T_,F_,F_] rfl rfl (any_of HT_.out (by kernel_rfl)) (fun _ _ _ h => h) (Or.inl ⟨by rfl, ?_⟩) ?_ ?_; rotate_left; (intro w'; go_simp; with_reducible rfl); rotate_left; (simp only [Act.put, zt, zz, zs, i64_w, i32_w]; rfl)
                       refine pure_ (i := 15) (N := some 86) (v := ?_) (a' := ?_) #[T_,T_,T_,T_,T_,T_,T_,T_,T_,T_,T_,T_,T_,T_,T_,T_,T_,F_,F_] rfl rfl (any_of HT_.out (by kernel_rfl)) (fun _ _ _ h => h) (Or.inl ⟨by rfl, ?_⟩) ?_ ?_; rotate_left; (intro w'; go_simp; with_reducible rfl); rotate_left; (simp only [Act.put, zt, zz, zs, i64_w, i32_w]; rfl)
                       exact norm_ (by simp only [putAll, Act.put, zt, zz, zs]) (hCont (v167, gb170) _ ⟨hHeld, (by (with_reducible repeat (first | apply vA | apply vN | apply vD)); exact vM HL163_1.out (fun _ hk => ⟨hk.1.1.1, ⟨hk.2, ⟨hk.1.1.2.1, ⟨hk.1.1.2.2.1, ⟨hk.1.1.2.2.2.1, ⟨hk.1.1.2.2.2.2.1, ⟨hk.1.1.2.2.2.2.2.1, ⟨hk.1.1.2.2.2.2.2.2, hk.1.2⟩⟩⟩⟩⟩⟩⟩⟩)), (by (with_reducible repeat (first | apply vA | apply vN | apply vD)); exact vM HL164_1.out (fun _ hk => ⟨hk.1.1.1, ⟨hk.2, ⟨hk.1.1.2.1, ⟨hk.1.1.2.2.1, ⟨hk.1.1.2.2.2.1, ⟨hk.1.1.2.2.2.2.1, ⟨hk.1.1.2.2.2.2.2.1, ⟨hk.1.1.2.2.2.2.2.2, hk.1.2⟩⟩⟩⟩⟩⟩⟩⟩)), (by (with_reducible repeat (first | apply Kd.R_alloc | apply Kd.R_drewN | apply Kd.R_drew)); exact Kd.R_mono HO168.out (fun _ hk => hk.1)), (by (with_reducible repeat (first | apply vA | apply vN | apply vD)); exact vM HO_0.out (fun _ hk => ⟨hk.1.1.1, ⟨hk.2, ⟨hk.1.1.2.1, ⟨hk.1.1.2.2.1, ⟨hk.1.1.2.2.2.1, ⟨hk.1.1.2.2.2.2.1, ⟨hk.1.1.2.2.2.2.2.1, ⟨hk.1.1.2.2.2.2.2.2, hk.1.2⟩⟩⟩⟩⟩⟩⟩⟩)), (zr HO_11), (by (with_reducible repeat (first | apply nA | apply nN | apply nD)); exact Kd.N_mono HO_12.out (fun _ hk => ⟨hk.1.1.1, ⟨hk.2, ⟨hk.1.1.2.1, ⟨hk.1.1.2.2.1, ⟨hk.1.1.2.2.2.1, ⟨hk.1.1.2.2.2.2.1, ⟨hk.1.1.2.2.2.2.2, hk.1.2⟩⟩⟩⟩⟩⟩⟩)), (by (with_reducible repeat (first | apply vA | apply vN | apply vD)); exact vM HO_146000.out (fun _ hk => ⟨hk.1.1.1, ⟨hk.2, ⟨hk.1.1.2.1, ⟨hk.1.1.2.2.1, ⟨hk.1.1.2.2.2.1, ⟨hk.1.1.2.2.2.2.1, ⟨hk.1.1.2.2.2.2.2.1, ⟨hk.1.1.2.2.2.2.2.2, hk.1.2⟩⟩⟩⟩⟩⟩⟩⟩)), (zr HO_59), (zr HO_65), (zb BK145), (zb BK146), (zb BK170), GW170.out, GE170.out, NB145_170.out, NB170_145.out, NB146_170.out, NB170_146.out, (zo HB)⟩)
                     rintro ⟨v167, gb170⟩ w64 ⟨hS_, h0_, h1_, h2_, h3_, h4_, h5_, h6_, h7_, h8_, h9_, h10_, h11_, h12_, h13_, h14_, h15_, h16_, h17_, h18_⟩
                     have n0_ : Aside0 (Kd.V k68 68 w64 w.heap.size (fun k_ => (P0_ k_ ∨ w.heap.size ≤ k_) ∧ some k_ ≠ (v167 : Value).ownBlock ∧ some k_ ≠ (.slice (some ad162) t153.length co28 : Value).ownBlock ∧ some k_ ≠ (u12 : Value).ownBlock ∧ some k_ ≠ (.slice (some ad161) t150.length co27 : Value).ownBlock ∧ some k_ ≠ (.slice (some ad162) t153.length co28 : Value).ownBlock ∧ k_ ≠ gb145 ∧ k_ ≠ gb146 ∧ k_ ≠ gb170) (.slice A163_1 ((rd_T70 l0 (rd t150 x61_2)).f0.f1).length c163_1) ((rd_T70 l0 (rd t150 x61_2)).f0.f1)) := ⟨h0_⟩
                     have n1_ : Aside0 (Kd.V k68 68 w64 w.heap.size (fun k_ => (P0_ k_ ∨ w.heap.size ≤ k_) ∧ some k_ ≠ (v167 : Value).ownBlock ∧ some k_ ≠ (.slice (some ad162) t153.length co28 : Value).ownBlock ∧ some k_ ≠ (u12 : Value).ownBlock ∧ some k_ ≠ (.slice (some ad161) t150.length co27 : Value).ownBlock ∧ some k_ ≠ (.slice (some ad162) t153.length co28 : Value).ownBlock ∧ k_ ≠ gb145 ∧ k_ ≠ gb146 ∧ k_ ≠ gb170) (.slice A164_1 ((rd_T70 l0 (rd t153 x67_3)).f0.f1).length c164_1) ((rd_T70 l0 (rd t153 x67_3)).f0.f1)) := ⟨h1_⟩
                     have n2_ : Aside0 (Kd.R k68 68 w64 w.heap.size (fun k_ => (w.heap.size ≤ k_)) v167 t166) := ⟨h2_⟩
                     have n3_ : Aside0 (Kd.V k70 70 w64 w.heap.size (fun k_ => (P0_ k_ ∨ w.heap.size ≤ k_) ∧ some k_ ≠ (v167 : Value).ownBlock ∧ some k_ ≠ (.slice (some ad162) t153.length co28 : Value).ownBlock ∧ some k_ ≠ (u12 : Value).ownBlock ∧ some k_ ≠ (.slice (some ad161) t150.length co27 : Value).ownBlock ∧ some k_ ≠ (.slice (some ad162) t153.length co28 : Value).ownBlock ∧ k_ ≠ gb145 ∧ k_ ≠ gb146 ∧ k_ ≠ gb170) (.slice (some ad163) l0.length c0) l0) := ⟨h3_⟩
                     have n4_ : Aside0 (Kd.R (Kd.int .i64) 3 w64 w.heap.size (fun k_ => (w.heap.size ≤ k_) ∧ some k_ ≠ (.slice (some ad161) t150.length co27 : Value).ownBlock ∧ k_ ≠ gb146) (.slice (some ad162) t153.length co28) t153) := ⟨h4_⟩
                     have n5_ : Aside0 (Kd.N k72 72 w64 w.heap.size (fun k_ => (P0_ k_ ∨ w.heap.size ≤ k_) ∧ some k_ ≠ (v167 : Value).ownBlock ∧ some k_ ≠ (.slice (some ad162) t153.length co28 : Value).ownBlock ∧ some k_ ≠ (.slice (some ad161) t150.length co27 : Value).ownBlock ∧ some k_ ≠ (.slice (some ad162) t153.length co28 : Value).ownBlock ∧ k_ ≠ gb145 ∧ k_ ≠ gb146 ∧ k_ ≠ gb170) u12 x12_3) := ⟨h5_⟩
                     have n6_ : Aside0 (Kd.V k70 70 w64 w.heap.size (fun k_ => (P0_ k_ ∨ w.heap.size ≤ k_) ∧ some k_ ≠ (v167 : Value).ownBlock ∧ some k_ ≠ (.slice (some ad162) t153.length co28 : Value).ownBlock ∧ some k_ ≠ (u12 : Value).ownBlock ∧ some k_ ≠ (.slice (some ad161) t150.length co27 : Value).ownBlock ∧ some k_ ≠ (.slice (some ad162) t153.length co28 : Value).ownBlock ∧ k_ ≠ gb145 ∧ k_ ≠ gb146 ∧ k_ ≠ gb170) (.slice (some ad163) l0.length c0) l0) := ⟨h6_⟩
                     have n7_ : Aside0 (Kd.R (Kd.int .i64) 3 w64 w.heap.size (fun k_ => (w.heap.size ≤ k_) ∧ some k_ ≠ (.slice (some ad162) t153.length co28 : Value).ownBlock ∧ some k_ ≠ (.slice (some ad162) t153.length co28 : Value).ownBlock ∧ k_ ≠ gb146) (.slice (some ad161) t150.length co27) t150) := ⟨h7_⟩
                     have n8_ : Aside0 (Kd.R (Kd.int .i64) 3 w64 w.heap.size (fun k_ => (w.heap.size ≤ k_) ∧ some k_ ≠ (.slice (some ad161) t150.length co27 : Value).ownBlock ∧ k_ ≠ gb146) (.slice (some ad162) t153.length co28) t153) := ⟨h8_⟩
                     have n9_ : Aside0 (w64.heap[gb145]? = some (.cells #[.slice (some ad163) l0.length c0] 22 (0, 0))) := ⟨h9_⟩
                     have n10_ : Aside0 (w64.heap[gb146]? = some (.cells #[.int .i64 a1] 3 (0, 0))) := ⟨h10_⟩
                     have n11_ : Aside0 (w64.heap[gb170]? = some (.cells #[.int .i64 0, .slice none 0 0] 62 (0, 0))) := ⟨h11_⟩
                     have n12_ : Aside0 (w.heap.size ≤ gb170) := ⟨h12_⟩
                     have n13_ : Aside0 (w.heap.size ≤ gb170) := ⟨h13_⟩
                     have n14_ : Aside0 (gb145 ≠ gb170) := ⟨h14_⟩
                     have n15_ : Aside0 (gb170 ≠ gb145) := ⟨h15_⟩
                     have n16_ : Aside0 (gb146 ≠ gb170) := ⟨h16_⟩
                     have n17_ : Aside0 (gb170 ≠ gb146) := ⟨h17_⟩
                     have n18_ : Aside0 (Below w.heap.size w w64) := ⟨h18_⟩
                     clear HO_0 HO_11 HO_12 HO_59 HO_65 HO_146000 BK145 BK146 HB h0_ h1_ h2_ h3_ h4_ h5_ h6_ h7_ h8_ h9_ h10_ h11_ h12_ h13_ h14_ h15_ h16_ h17_ h18_
                     have HL163_1 := n0_
                     have HL164_1 := n1_
                     have HO168 := n2_
                     have HO_0 := n3_
                     have HO_11 := n4_
                     have HO_12 := n5_
                     have HO_146000 := n6_
                     have HO_59 := n7_
                     have HO_65 := n8_
                     have BK145 := n9_
                     have BK146 := n10_
                     have BK170 := n11_
                     have GW170 := n12_
                     have GE170 := n13_
                     have NB145_170 := n14_
                     have NB170_145 := n15_
                     have NB146_170 := n16_
                     have NB170_146 := n17_
                     have HB := n18_
                     clear n0_ n1_ n2_ n3_ n4_ n5_ n6_ n7_ n8_ n9_ n10_ n11_ n12_ n13_ n14_ n15_ n16_ n17_ n18_
                     have hHeld : w64.cell? (ad163.add (((rd t150 x61_2)).toNat * 3)) = some (.int .i64 ((rd_T70 l0 (rd t150 x61_2)).f0.f0)) ∧ w64.cell? ⟨(ad163.add (((rd t150 x61_2)).toNat * 3)).block, (ad163.add (((rd t150 x61_2)).toNat * 3)).off + 1, none⟩ = some (.slice A163_1 ((rd_T70 l0 (rd t150 x61_2)).f0.f1).length c163_1) ∧ w64.cell? ⟨(ad163.add (((rd t150 x61_2)).toNat * 3)).block, (ad163.add (((rd t150 x61_2)).toNat * 3)).off + 2, none⟩ = some (.bool ((rd_T70 l0 (rd t150 x61_2)).f1)) ∧ w64.cell? (ad163.add (((rd t153 x67_3)).toNat * 3)) = some (.int .i64 ((rd_T70 l0 (rd t153 x67_3)).f0.f0)) ∧ w64.cell? ⟨(ad163.add (((rd t153 x67_3)).toNat * 3)).block, (ad163.add (((rd t153 x67_3)).toNat * 3)).off + 1, none⟩ = some (.slice A164_1 ((rd_T70 l0 (rd t153 x67_3)).f0.f1).length c164_1) ∧ w64.cell? ⟨(ad163.add (((rd t153 x67_3)).toNat * 3)).block, (ad163.add (((rd t153 x67_3)).toNat * 3)).off + 2, none⟩ = some (.bool ((rd_T70 l0 (rd t153 x67_3)).f1)) := hS_
                     obtain ⟨Ao66, co66, eo66⟩ := Kd.R_slice HO168.out
                     (first | subst eo66 | (injection eo66 with f1_ f2_ f3_; have f4_ := f1_.symm; have f5_ := f3_.symm; clear f1_ f2_ f3_; subst f4_; subst f5_))
                     refine norm_ (a' := ?_) ?_ ?_
                     rotate_left
                     ·simp only [putAll, Act.put, zt, zz, zs]
                      rfl
                     refine one_ (i := 17) (N := none) #[T_,T_,T_,T_,T_,T_,T_,T_,T_,T_,T_,T_,T_,T_,T_,T_,T_,T_,F_] rfl rfl (one_of HT_.out (by kernel_rfl)) (by decide) (fun K hK => ?_)
                     have hs65 : w64.cell? ⟨gb170, 0, none⟩ = some (.int .i64 0) := (blk_cell BK170.out 0).trans rfl
                     have hfs65 := blk_frozen BK170.out 0
                     have hns65_0 := NB145_170.out
                     have hns65_1 := NB146_170.out
                     have hms65_0 := NB170_145.out
                     have hms65_1 := NB170_146.out
                     have hs67 : w64.cell? ⟨gb170, 1, none⟩ = some (.slice none 0 0) := (blk_cell BK170.out 1).trans rfl
                     have hfs67 := blk_frozen BK170.out 1
                     have hns67_0 := NB145_170.out
                     have hns67_1 := NB146_170.out
                     have hms67_0 := NB170_145.out
                     have hms67_1 := NB170_146.out
                     refine skip_ (w1 := ?_) (by rfl) rfl ?_ ?_
                     rotate_left
                     ·go_simp
                      rfl
                     have hn0_ := V_apart5 HO_0.out hHeld.1 (fun W' h' => by obtain ⟨ad163_, A163_1, c163_1, e163, hx163_0, hx163_1, hx163_2, hl163_1, hi163_1⟩ := at_T70 (Kd.V_reads' h').2.2 (rd t150 x61_2) (of_eq_true p163) (of_eq_true q163); cases e163; exact hx163_0) (g := gb170) (fun _ hk => hk.2.2.2.2.2.2.2.2)
                     refine hK.out _ _ ⟨(cellA5 hn0_ ((cellA5 hn0_ (hHeld.1)))), (cellB5 hn0_ ((cellB5 hn0_ (hHeld.2.1)))), (cellB5 hn0_ ((cellB5 hn0_ (hHeld.2.2.1)))), (cellA5 hn0_ ((cellA5 hn0_ (hHeld.2.2.2.1)))), (cellB5 hn0_ ((cellB5 hn0_ (hHeld.2.2.2.2.1)))), (cellB5 hn0_ ((cellB5 hn0_ (hHeld.2.2.2.2.2))))⟩ (fun hHeld => ?_)
                     clear hK K
                     refine pure_ (i := 18) (N := some 20) (v := ?_) (a' := ?_) #[T_,T_,T_,T_,T_,T_,T_,T_,T_,T_,T_,T_,T_,T_,T_,T_,T_,T_,T_] rfl rfl (any_of HT_.out (by kernel_rfl)) (fun _ _ _ h => h) (Or.inl ⟨by rfl, ?_⟩) ?_ ?_; rotate_left; (intro w'; go_simp; with_reducible rfl); rotate_left; (simp only [Act.put, zt, zz, zs, i64_w, i32_w]; rfl)
                     refine done_ (done_of HT_.out (by kernel_rfl)) ?_
                     try go_wp2
                     go_ret2
                     exact ⟨_, by first | rfl | (simp [errW_none, errW_some] <;> rfl) | (simp [*, errW_none, errW_some] <;> rfl), by first | exact Kd.S_nil _ _ _ _ _ | exact Kd.N_nil _ _ _ _ _ | exact Kd.V_nil _ _ _ _ _ | exact Kd.Q_nil _ _ _ _ _ | exact Kd.R_nil _ _ _ _ _, zo HB⟩
                   ·rw [if_neg c45] at H
                    exact absurd H (by simp)
                  ·rw [if_neg c44] at H
                   exact absurd H (by simp)
                 ·rw [if_neg c43] at H
                  exact absurd H (by simp)
                ·rw [if_neg c42] at H
                 exact absurd H (by simp)
               ·rw [if_neg c41] at H
                exact absurd H (by simp)
              ·rw [if_neg c40] at H
               exact absurd H (by simp)
             ·rw [if_neg c39] at H
              have c39b0 : decide (x67_3 < (t153.length : Int)) = false := decide_eq_false c39
              clear c39
              have H' := zK H; clear H
              go_wp2
              go_roundg k3
              case measure => have := HK1.out; have := HK2.out; have := HK3.out; omega
              case rel => exact ⟨(x12_3), (wrap64 (x61_2 + 1)), (by first | rfl | (simp; done) | (simp [*]; done)), H', ⟨by have := HK1.out; have := HK2.out; have := HK3.out; omega⟩, ⟨by (with_reducible repeat (first | apply vA | apply vN | apply vD)); exact vM HO_0.out (fun _ hk => ⟨hk.1, ⟨hk.2.1, ⟨hk.2.2.1, ⟨hk.2.2.2.1, ⟨hk.2.2.2.2.2.1, hk.2.2.2.2.2.2⟩⟩⟩⟩⟩)⟩, ⟨zr HO_11⟩, ⟨by (with_reducible repeat (first | apply nA | apply nN | apply nD)); exact Kd.N_mono HO_12.out (fun _ hk => ⟨hk.1, ⟨hk.2.1, ⟨hk.2.2.1, ⟨hk.2.2.2.2.1, hk.2.2.2.2.2⟩⟩⟩⟩)⟩, ⟨by (with_reducible repeat (first | apply Kd.R_alloc | apply Kd.R_drewN | apply Kd.R_drew)); exact Kd.R_mono HO_59.out (fun _ hk => ⟨hk.1, ⟨hk.2.1, hk.2.2.2⟩⟩)⟩, ⟨by (with_reducible repeat (first | apply vA | apply vN | apply vD)); exact vM HO_146000.out (fun _ hk => ⟨hk.1, ⟨hk.2.1, ⟨hk.2.2.1, ⟨hk.2.2.2.1, ⟨hk.2.2.2.2.2.1, hk.2.2.2.2.2.2⟩⟩⟩⟩⟩)⟩, ⟨zb BK145⟩, ⟨zb BK146⟩, ⟨zo HB⟩⟩
          ·rw [if_neg c38] at H
           exact absurd H (by simp)
         ·rw [if_neg c37] at H
          exact absurd H (by simp)
        ·rw [if_neg c36] at H
         have c36b0 : decide (x61_2 < (t150.length : Int)) = false := decide_eq_false c36
         clear c36
         simp only [Option.some.injEq, Prod.mk.injEq] at H
         obtain ⟨rfl, rfl⟩ := H
         go_wp2
         go_ret2
         exact ⟨_, by first | rfl | (simp [errW_none, errW_some] <;> rfl) | (simp [*, errW_none, errW_some] <;> rfl), by (with_reducible repeat (first | apply nA | apply nN | apply nD)); exact Kd.N_mono HO_12.out (fun _ hk => hk.1), zo HB⟩

end Go.Proofs.Ytkfbfgkdabljiaa.PShadowSplits
