/- What the call of each function that the law reaches comes to: it answers as the plain function of the same name does, wherever that one answers; and the law itself out of its plain form. Written by a program of this session (an extended copy of the printer); no condition but what stands in each theorem. -/
import Derived.Test.YtkfbfgkdabljiaaPShadowCastsx0
import Derived.Test.YtkfbfgkdabljiaaPShadowCastsx6
import Derived.Test.YtkfbfgkdabljiaaPShadowCastsx7
import Derived.Test.YtkfbfgkdabljiaaPShadowCastsx9
namespace Go.Proofs.Ytkfbfgkdabljiaa.PShadowCasts
open Go.RowKit Go.Proofs.YtkfbfgkdabljiaaW.PrintWords Go.Proofs.YtkfbfgkdabljiaaW.PrintLast Go.Proofs.YtkfbfgkdabljiaaW.PrintMore
open Go.Proofs.YtkfbfgkdabljiaaW.PrintWords renaming blk_drewN → zN, blk_drew → zD, blk_alloc → zA, below_alloc → yA, pw_below_drewN → yN, below_drew1 → yD, below_set → yS, gate_callee → zC
open Go.Proofs.YtkfbfgkdabljiaaW.PrintWords.Kd renaming V_alloc → vA, V_drewN → vN, V_drew → vD, N_alloc → nA, N_drewN → nN, N_drew → nD, C_alloc → cA, C_drewN → cN, C_drew → cD, V_mono → vM, V_far → vF
open Go.Proofs.YtkfbfgkdabljiaaW.PrintWords.Aside0 renaming mk → zK
open Bool renaming true → T_, false → F_
open List renaming setIfInBounds_toArray → zt, set_cons_zero → zz, set_cons_succ → zs
attribute [local go_sem] max2_int min2_int max_two min_two max_three min_three max_four min_four   -- for this text's walks alone
set_option linter.unusedVariables false
set_option linter.unusedSimpArgs false

theorem cellA10 {W : World} {a : Addr} {n m g j : Nat} {u v : Value} (hne : (a.add m).block ≠ g) (h : W.cell? (a.add n) = some v) : (W.setCell ⟨g, j, none⟩ u).cell? (a.add n) = some v :=
  (cell_far (p := ⟨g, j, none⟩) (by show (Addr.add _ _).block ≠ _; rw [add_block] at hne ⊢; exact hne) u).trans h
theorem cellB10 {W : World} {a : Addr} {n m g j o : Nat} {u v : Value} (hne : (a.add m).block ≠ g) (h : W.cell? ⟨(a.add n).block, o, none⟩ = some v) : (W.setCell ⟨g, j, none⟩ u).cell? ⟨(a.add n).block, o, none⟩ = some v :=
  (cell_far (p := ⟨g, j, none⟩) (by show (Addr.add _ _).block ≠ _; rw [add_block] at hne ⊢; exact hne) u).trans h
theorem V_apart10 {α : Type} {d : Kd α} {e base g n c : Nat} {ok : Nat → Prop} {W : World} {xs : List α} {ad a : Addr} {v : Value} {x : Int} (h : Kd.V d e W base ok (.slice (some ad) n c) xs) (hc : W.cell? a = some v)
    (hat : ∀ W', Kd.V d e W' base ok (.slice (some ad) n c) xs → W'.cell? a = some (.int .i64 x)) (hok : ∀ k, ok k → k ≠ g) : a.block ≠ g := by
  intro he
  have h2 := Kd.V_far h (p := a) (fun k hk => by rw [he]; exact hok k hk) (.bool true)
  have h3 := hat _ h2
  rw [World.cell?_setCell_same _ _ _ hc] at h3
  injection h3 with h3
  cases h3
/-! ### sequiturref30_Shadow: function 15 -/
mutual
def sequiturref30_Shadow.l0 : Nat → List (S70) → Int → Bool → List (S77) → Int → Option ((List (S77)) × Int)
 | 0, _, _, _, _, _ => none
 | k + 1, x0, x1, x2, x10, x11 => if x11 < (x0.length : Int) then (if 0 ≤ x11 then ((sequiturref27_By.f k ((rd_T70 x0 x11).f0.f0) ((rd_T70 x0 x11).f0.f1) x1).bind fun t300 => (if t300 = 0 then (if x10.length < 2513169434916 then (sequiturref30_Shadow.l0 k x0 x1 x2 (x10 ++ [(⟨(⟨(⟨(rd_T70 x0 x11).f0.f0, (rd_T70 x0 x11).f0.f1⟩ : S62), (rd_T70 x0 x11).f1⟩ : S70), x11, x11⟩ : S77)]) (wrap64 (x11 + 1))) else (none)) else (sequiturref30_Shadow.l0 k x0 x1 x2 x10 (wrap64 (x11 + 1))))) else (none)) else (sequiturref30_Shadow.l1 k x0 x1 x2 x10 0)
def sequiturref30_Shadow.l1 : Nat → List (S70) → Int → Bool → List (S77) → Int → Option ((List (S77)) × Int)
 | 0, _, _, _, _, _ => none
 | k + 1, x0, x1, x2, x10, x12 => if x12 < (x0.length : Int) then (sequiturref30_Shadow.l2 k x0 x1 x2 x10 x12 0) else (some (x10, 0))
def sequiturref30_Shadow.l2 : Nat → List (S70) → Int → Bool → List (S77) → Int → Int → Option ((List (S77)) × Int)
 | 0, _, _, _, _, _, _ => none
 | k + 1, x0, x1, x2, x10, x12, x13 => if x13 < (x0.length : Int) then (if 0 ≤ x12 then (if x12 < (x0.length : Int) then ((sequiturref27_By.f k ((rd_T70 x0 x12).f0.f0) ((rd_T70 x0 x12).f0.f1) x1).bind fun t306 => (if t306 ≥ 0 then (sequiturref30_Shadow.j3 k x0 x1 x2 x10 x12 x13 true) else (if 0 ≤ x13 then ((sequiturref27_By.f k ((rd_T70 x0 x13).f0.f0) ((rd_T70 x0 x13).f0.f1) x1).bind fun t308 => (sequiturref30_Shadow.j3 k x0 x1 x2 x10 x12 x13 (decide (t308 ≤ 0)))) else (none)))) else (none)) else (none)) else (sequiturref30_Shadow.l1 k x0 x1 x2 x10 (wrap64 (x12 + 1)))
def sequiturref30_Shadow.j3 : Nat → List (S70) → Int → Bool → List (S77) → Int → Int → Bool → Option ((List (S77)) × Int)
 | 0, _, _, _, _, _, _, _ => none
 | k + 1, x0, x1, x2, x10, x12, x13, x90 => if x90 = true then (sequiturref30_Shadow.l2 k x0 x1 x2 x10 x12 (wrap64 (x13 + 1))) else (if 0 ≤ x12 then (if x12 < (x0.length : Int) then (if 0 ≤ x13 then (if x13 < (x0.length : Int) then ((sequiturref30_pair.f k ((rd_T70 x0 x12).f0.f0) ((rd_T70 x0 x12).f0.f1) ((rd_T70 x0 x13).f0.f0) ((rd_T70 x0 x13).f0.f1) x1 x2).bind fun bt311 => (if bt311.2.2 = true then (if x10.length < 2513169434916 then (sequiturref30_Shadow.l2 k x0 x1 x2 (x10 ++ [(⟨(⟨(⟨bt311.1, bt311.2.1⟩ : S62), false⟩ : S70), x12, x13⟩ : S77)]) x12 (wrap64 (x13 + 1))) else (none)) else (some (([] : List (S77)), 5)))) else (none)) else (none)) else (none)) else (none))
end
def sequiturref30_Shadow.f (k : Nat) (l0 : List (S70)) (a1 : Int) (a2 : Bool) : Option ((List (S77)) × Int) := (sequiturref30_Right.f k l0 a1).bind fun t296 => (if t296 = true then ((sequiturref30_many.f k l0 a1).bind fun bt297 => (if (wrap64 ((wrap64 ((wrap64 ((l0.length : Int) - bt297.1)) - bt297.2)) + (wrap64 (bt297.1 * bt297.2)))) > 1024 then (some (([] : List (S77)), 2)) else (sequiturref30_Shadow.l0 k l0 a1 a2 ([] : List (S77)) 0))) else (some (([] : List (S77)), 1)))
theorem sequiturref30_Shadow.mono_l : ∀ k, (∀ y0 y1 y2 y3 y4, LeO (sequiturref30_Shadow.l0 k y0 y1 y2 y3 y4) (sequiturref30_Shadow.l0 (k + 1) y0 y1 y2 y3 y4)) ∧ (∀ y0 y1 y2 y3 y4, LeO (sequiturref30_Shadow.l1 k y0 y1 y2 y3 y4) (sequiturref30_Shadow.l1 (k + 1) y0 y1 y2 y3 y4)) ∧ (∀ y0 y1 y2 y3 y4 y5, LeO (sequiturref30_Shadow.l2 k y0 y1 y2 y3 y4 y5) (sequiturref30_Shadow.l2 (k + 1) y0 y1 y2 y3 y4 y5)) ∧ (∀ y0 y1 y2 y3 y4 y5 y6, LeO (sequiturref30_Shadow.j3 k y0 y1 y2 y3 y4 y5 y6) (sequiturref30_Shadow.j3 (k + 1) y0 y1 y2 y3 y4 y5 y6))
 | 0 => ⟨fun _ _ _ _ _ r h => by simp [sequiturref30_Shadow.l0] at h, fun _ _ _ _ _ r h => by simp [sequiturref30_Shadow.l1] at h, fun _ _ _ _ _ _ r h => by simp [sequiturref30_Shadow.l2] at h, fun _ _ _ _ _ _ _ r h => by simp [sequiturref30_Shadow.j3] at h⟩
 | k + 1 => by
  obtain ⟨ih0, ih1, ih2, ih3⟩ := sequiturref30_Shadow.mono_l k
  refine ⟨?_, ?_, ?_, ?_⟩
  ·intro y0 y1 y2 y3 y4
   unfold sequiturref30_Shadow.l0
   repeat' first
   | (with_reducible exact ih0 _ _ _ _ _)
   | (with_reducible exact ih1 _ _ _ _ _)
   | (with_reducible exact ih2 _ _ _ _ _ _)
   | (with_reducible exact ih3 _ _ _ _ _ _ _)
   | (with_reducible exact sequiturref27_By.mono _ _ _ _)
   | (with_reducible exact sequiturref30_Right.mono _ _ _)
   | (with_reducible exact sequiturref30_many.mono _ _ _)
   | (with_reducible exact sequiturref30_pair.mono _ _ _ _ _ _ _)
   | (with_reducible exact LeO.refl _)
   | (with_reducible exact LeO.none _)
   | (with_reducible refine LeO.ite ?_ ?_)
   | (with_reducible refine LeO.bind ?_ (fun _ => ?_))
   | exact ih0 _ _ _ _ _
   | exact ih1 _ _ _ _ _
   | exact ih2 _ _ _ _ _ _
   | exact ih3 _ _ _ _ _ _ _
   | exact sequiturref27_By.mono _ _ _ _
   | exact sequiturref30_Right.mono _ _ _
   | exact sequiturref30_many.mono _ _ _
   | exact sequiturref30_pair.mono _ _ _ _ _ _ _
   | exact LeO.none _
   | refine LeO.ite ?_ ?_
   | refine LeO.bind ?_ (fun _ => ?_)
  ·intro y0 y1 y2 y3 y4
   unfold sequiturref30_Shadow.l1
   repeat' first
   | (with_reducible exact ih0 _ _ _ _ _)
   | (with_reducible exact ih1 _ _ _ _ _)
   | (with_reducible exact ih2 _ _ _ _ _ _)
   | (with_reducible exact ih3 _ _ _ _ _ _ _)
   | (with_reducible exact sequiturref27_By.mono _ _ _ _)
   | (with_reducible exact sequiturref30_Right.mono _ _ _)
   | (with_reducible exact sequiturref30_many.mono _ _ _)
   | (with_reducible exact sequiturref30_pair.mono _ _ _ _ _ _ _)
   | (with_reducible exact LeO.refl _)
   | (with_reducible exact LeO.none _)
   | (with_reducible refine LeO.ite ?_ ?_)
   | (with_reducible refine LeO.bind ?_ (fun _ => ?_))
   | exact ih0 _ _ _ _ _
   | exact ih1 _ _ _ _ _
   | exact ih2 _ _ _ _ _ _
   | exact ih3 _ _ _ _ _ _ _
   | exact sequiturref27_By.mono _ _ _ _
   | exact sequiturref30_Right.mono _ _ _
   | exact sequiturref30_many.mono _ _ _
   | exact sequiturref30_pair.mono _ _ _ _ _ _ _
   | exact LeO.none _
   | refine LeO.ite ?_ ?_
   | refine LeO.bind ?_ (fun _ => ?_)
  ·intro y0 y1 y2 y3 y4 y5
   unfold sequiturref30_Shadow.l2
   repeat' first
   | (with_reducible exact ih0 _ _ _ _ _)
   | (with_reducible exact ih1 _ _ _ _ _)
   | (with_reducible exact ih2 _ _ _ _ _ _)
   | (with_reducible exact ih3 _ _ _ _ _ _ _)
   | (with_reducible exact sequiturref27_By.mono _ _ _ _)
   | (with_reducible exact sequiturref30_Right.mono _ _ _)
   | (with_reducible exact sequiturref30_many.mono _ _ _)
   | (with_reducible exact sequiturref30_pair.mono _ _ _ _ _ _ _)
   | (with_reducible exact LeO.refl _)
   | (with_reducible exact LeO.none _)
   | (with_reducible refine LeO.ite ?_ ?_)
   | (with_reducible refine LeO.bind ?_ (fun _ => ?_))
   | exact ih0 _ _ _ _ _
   | exact ih1 _ _ _ _ _
   | exact ih2 _ _ _ _ _ _
   | exact ih3 _ _ _ _ _ _ _
   | exact sequiturref27_By.mono _ _ _ _
   | exact sequiturref30_Right.mono _ _ _
   | exact sequiturref30_many.mono _ _ _
   | exact sequiturref30_pair.mono _ _ _ _ _ _ _
   | exact LeO.none _
   | refine LeO.ite ?_ ?_
   | refine LeO.bind ?_ (fun _ => ?_)
  ·intro y0 y1 y2 y3 y4 y5 y6
   unfold sequiturref30_Shadow.j3
   repeat' first
   | (with_reducible exact ih0 _ _ _ _ _)
   | (with_reducible exact ih1 _ _ _ _ _)
   | (with_reducible exact ih2 _ _ _ _ _ _)
   | (with_reducible exact ih3 _ _ _ _ _ _ _)
   | (with_reducible exact sequiturref27_By.mono _ _ _ _)
   | (with_reducible exact sequiturref30_Right.mono _ _ _)
   | (with_reducible exact sequiturref30_many.mono _ _ _)
   | (with_reducible exact sequiturref30_pair.mono _ _ _ _ _ _ _)
   | (with_reducible exact LeO.refl _)
   | (with_reducible exact LeO.none _)
   | (with_reducible refine LeO.ite ?_ ?_)
   | (with_reducible refine LeO.bind ?_ (fun _ => ?_))
   | exact ih0 _ _ _ _ _
   | exact ih1 _ _ _ _ _
   | exact ih2 _ _ _ _ _ _
   | exact ih3 _ _ _ _ _ _ _
   | exact sequiturref27_By.mono _ _ _ _
   | exact sequiturref30_Right.mono _ _ _
   | exact sequiturref30_many.mono _ _ _
   | exact sequiturref30_pair.mono _ _ _ _ _ _ _
   | exact LeO.none _
   | refine LeO.ite ?_ ?_
   | refine LeO.bind ?_ (fun _ => ?_)
theorem sequiturref30_Shadow.mono : ∀ a0 a1 a2 k, LeO (sequiturref30_Shadow.f k a0 a1 a2) (sequiturref30_Shadow.f (k + 1) a0 a1 a2) := by
 intro a0 a1 a2 k
 obtain ⟨ih0, ih1, ih2, ih3⟩ := sequiturref30_Shadow.mono_l k
 unfold sequiturref30_Shadow.f
 repeat' first
   | (with_reducible exact ih0 _ _ _ _ _)
   | (with_reducible exact ih1 _ _ _ _ _)
   | (with_reducible exact ih2 _ _ _ _ _ _)
   | (with_reducible exact ih3 _ _ _ _ _ _ _)
   | (with_reducible exact sequiturref27_By.mono _ _ _ _)
   | (with_reducible exact sequiturref30_Right.mono _ _ _)
   | (with_reducible exact sequiturref30_many.mono _ _ _)
   | (with_reducible exact sequiturref30_pair.mono _ _ _ _ _ _ _)
   | (with_reducible exact LeO.refl _)
   | (with_reducible exact LeO.none _)
   | (with_reducible refine LeO.ite ?_ ?_)
   | (with_reducible refine LeO.bind ?_ (fun _ => ?_))
   | exact ih0 _ _ _ _ _
   | exact ih1 _ _ _ _ _
   | exact ih2 _ _ _ _ _ _
   | exact ih3 _ _ _ _ _ _ _
   | exact sequiturref27_By.mono _ _ _ _
   | exact sequiturref30_Right.mono _ _ _
   | exact sequiturref30_many.mono _ _ _
   | exact sequiturref30_pair.mono _ _ _ _ _ _ _
   | exact LeO.none _
   | refine LeO.ite ?_ ?_
   | refine LeO.bind ?_ (fun _ => ?_)
def sequiturref30_Shadow.T19 : Bool × List (List Nat × List Nat) := (true, [([], []), ([], []), ([0, 1], [0, 1]), ([2], [2]), ([3], [3]), ([], []), ([], []), ([5, 6], [5, 6]), ([7], [7]), ([8], [8]), ([], []), ([], []), ([4, 9, 10, 11], [4, 9, 10, 11]), ([12], [12]), ([13], [13]), ([13], [13]), ([], []), ([16, 14, 12, 0, 1, 2, 3, 4, 5, 6, 7, 8, 9, 10, 11, 12, 13, 14, 16], [14, 16]), ([15, 17, 0, 1, 2, 3, 4, 5, 6, 7, 8, 9, 10, 11, 12, 13, 14, 15, 16, 17], [15])])
def sequiturref30_Shadow.B19 : List Nat := [0, 0, 3, 7, 15, 0, 0, 96, 224, 480, 0, 0, 4095, 8191, 16383, 16383, 0, 98303, 262143]
theorem sequiturref30_Shadow.tab19 : rtab .any (opsOf Try.f15 19) = sequiturref30_Shadow.T19 := by kernel_rfl
theorem sequiturref30_Shadow.bits19 : waitsOk sequiturref30_Shadow.T19.2 sequiturref30_Shadow.B19 = true := by kernel_rfl
set_option maxHeartbeats 8000000 in
set_option maxRecDepth 100000 in
theorem sequiturref30_Shadow.calls (k : Nat) (P0_ : Nat → Prop) (A0 : Option Addr) (c0 : Nat) (l0 : List (S70)) (a1 : Int) (a2 : Bool) (r1 : List (S77)) (r2 : Int) (w : World) (hs0 : Kd.V k70 70 w w.heap.size (fun k_ => P0_ k_) (.slice A0 l0.length c0) l0) (h : sequiturref30_Shadow.f k l0 a1 a2 = some (r1, r2)) :
  Calls Try.prog 15 #[.slice A0 l0.length c0, .int .i64 a1, .bool a2] w fun e w' => ∃ v0_ : Value, e = .returned (.tuple #[v0_, .int .i64 r2]) ∧ Kd.N k77 77 w' w.heap.size (fun k_ => (P0_ k_ ∨ w.heap.size ≤ k_)) v0_ r1 ∧ Below w.heap.size w w' := by
 have hu62 := Try.underlying62
 have hu70 := Try.underlying70
 have hu77 := Try.underlying77
 have HO0 := zK (show Kd.V k70 70 w w.heap.size (fun k_ => (P0_ k_ ∨ w.heap.size ≤ k_)) (.slice A0 l0.length c0) l0 from vM hs0 (fun k_ hk => .inl hk))
 have HB := zK (Below.refl w.heap.size w)
 have H : ((sequiturref30_Right.f k l0 a1).bind fun t296 => (if t296 = true then ((sequiturref30_many.f k l0 a1).bind fun bt297 => (if (wrap64 ((wrap64 ((wrap64 ((l0.length : Int) - bt297.1)) - bt297.2)) + (wrap64 (bt297.1 * bt297.2)))) > 1024 then (some (([] : List (S77)), 2)) else (sequiturref30_Shadow.l0 k l0 a1 a2 ([] : List (S77)) 0))) else (some (([] : List (S77)), 1)))) = some (r1, r2) := h
 clear h; replace H := Option.bind_eq_some_iff.mp H
 obtain ⟨t296, A40, H⟩ := H
 replace H : (if t296 = true then ((sequiturref30_many.f k l0 a1).bind fun bt297 => (if (wrap64 ((wrap64 ((wrap64 ((l0.length : Int) - bt297.1)) - bt297.2)) + (wrap64 (bt297.1 * bt297.2)))) > 1024 then (some (([] : List (S77)), 2)) else (sequiturref30_Shadow.l0 k l0 a1 a2 ([] : List (S77)) 0))) else (some (([] : List (S77)), 1))) = some (r1, r2) := H
 have A4 := zK A40; clear A40
 by_cases c5 : t296 = true
 ·subst c5
  have H1 : ((sequiturref30_many.f k l0 a1).bind fun bt297 => (if (wrap64 ((wrap64 ((wrap64 ((l0.length : Int) - bt297.1)) - bt297.2)) + (wrap64 (bt297.1 * bt297.2)))) > 1024 then (some (([] : List (S77)), 2)) else (sequiturref30_Shadow.l0 k l0 a1 a2 ([] : List (S77)) 0))) = some (r1, r2) := by rw [if_pos rfl] at H; exact H
  clear H; have H := H1
  clear H1; replace H := Option.bind_eq_some_iff.mp H
  obtain ⟨⟨t297, t298⟩, A60, H⟩ := H
  replace H : (if (wrap64 ((wrap64 ((wrap64 ((l0.length : Int) - t297)) - t298)) + (wrap64 (t297 * t298)))) > 1024 then (some (([] : List (S77)), 2)) else (sequiturref30_Shadow.l0 k l0 a1 a2 ([] : List (S77)) 0)) = some (r1, r2) := H
  have A6 := zK A60; clear A60
  by_cases c7 : (wrap64 ((wrap64 ((wrap64 ((l0.length : Int) - t297)) - t298)) + (wrap64 (t297 * t298)))) > 1024
  ·rw [if_pos c7] at H
   have c7b0 : decide (1024 < (wrap64 ((wrap64 ((wrap64 ((l0.length : Int) - t297)) - t298)) + (wrap64 (t297 * t298))))) = true := decide_eq_true c7
   clear c7
   simp only [Option.some.injEq, Prod.mk.injEq] at H
   obtain ⟨rfl, rfl⟩ := H
   go_enter Try.func15, Try.ntmps15
   go_wp2_with (first | ((with_reducible refine zC (f := 40) rfl ?_); refine goesL_ (some 18) rfl rfl Try.func40 (by kernel_rfl) rfl #[.slice A0 l0.length c0, .int .i64 a1] rfl (by (try simp only [List.map_toArray, List.map_cons, List.map_nil]); first | done | rfl | (simp only [List.length_drop, List.length_take]; rfl)) ?_; (with_reducible refine (sequiturref30_Right.calls k _ _ l0 a1 true _ ?side1 ?side2 A4.out).mono ?_); (case side1 => repeat (first | exact (Kd.V_reads' HO0.out).2.2 | (with_reducible refine cA ?_ _) | (with_reducible refine cN ?_ _) | (with_reducible refine cD ?_))); (case side2 => exact (Kd.V_reads' HO0.out).2.1); rintro e w8 ⟨rfl, hb⟩; refine ⟨_, rfl, ?_⟩; replace HO0 := zK (Kd.V_below (zv HO0) hb); replace HB := zK (below_step (zo HB) hb); (try clear hb); (try clear hb2); (try clear hk); (try clear hi)) | ((with_reducible refine zC (f := 41) rfl ?_); refine goesL_ (some 23) rfl rfl Try.func41 (by kernel_rfl) rfl #[.slice A0 l0.length c0, .int .i64 a1] rfl (by (try simp only [List.map_toArray, List.map_cons, List.map_nil]); first | done | rfl | (simp only [List.length_drop, List.length_take]; rfl)) ?_; (with_reducible refine (sequiturref30_many.calls k _ _ l0 a1 t297 t298 _ ?side1 ?side2 A6.out).mono ?_); (case side1 => repeat (first | exact (Kd.V_reads' HO0.out).2.2 | (with_reducible refine cA ?_ _) | (with_reducible refine cN ?_ _) | (with_reducible refine cD ?_))); (case side2 => exact (Kd.V_reads' HO0.out).2.1); rintro e w9 ⟨rfl, hb⟩; refine ⟨_, rfl, ?_⟩; replace HO0 := zK (Kd.V_below (zv HO0) hb); replace HB := zK (below_step (zo HB) hb); (try clear hb); (try clear hb2); (try clear hk); (try clear hi)))
   go_ret2
   exact ⟨_, by first | rfl | (simp [errW_none, errW_some] <;> rfl) | (simp [*, errW_none, errW_some] <;> rfl), by first | exact Kd.S_nil _ _ _ _ _ | exact Kd.N_nil _ _ _ _ _ | exact Kd.V_nil _ _ _ _ _ | exact Kd.Q_nil _ _ _ _ _ | exact Kd.R_nil _ _ _ _ _, zo HB⟩
  ·rw [if_neg c7] at H
   have c7b0 : decide (1024 < (wrap64 ((wrap64 ((wrap64 ((l0.length : Int) - t297)) - t298)) + (wrap64 (t297 * t298))))) = false := decide_eq_false c7
   clear c7
   have H' := zK H; clear H
   go_enter Try.func15, Try.ntmps15
   go_wp2_with (first | ((with_reducible refine zC (f := 40) rfl ?_); refine goesL_ (some 18) rfl rfl Try.func40 (by kernel_rfl) rfl #[.slice A0 l0.length c0, .int .i64 a1] rfl (by (try simp only [List.map_toArray, List.map_cons, List.map_nil]); first | done | rfl | (simp only [List.length_drop, List.length_take]; rfl)) ?_; (with_reducible refine (sequiturref30_Right.calls k _ _ l0 a1 true _ ?side1 ?side2 A4.out).mono ?_); (case side1 => repeat (first | exact (Kd.V_reads' HO0.out).2.2 | (with_reducible refine cA ?_ _) | (with_reducible refine cN ?_ _) | (with_reducible refine cD ?_))); (case side2 => exact (Kd.V_reads' HO0.out).2.1); rintro e w10 ⟨rfl, hb⟩; refine ⟨_, rfl, ?_⟩; replace HO0 := zK (Kd.V_below (zv HO0) hb); replace HB := zK (below_step (zo HB) hb); (try clear hb); (try clear hb2); (try clear hk); (try clear hi)) | ((with_reducible refine zC (f := 41) rfl ?_); refine goesL_ (some 23) rfl rfl Try.func41 (by kernel_rfl) rfl #[.slice A0 l0.length c0, .int .i64 a1] rfl (by (try simp only [List.map_toArray, List.map_cons, List.map_nil]); first | done | rfl | (simp only [List.length_drop, List.length_take]; rfl)) ?_; (with_reducible refine (sequiturref30_many.calls k _ _ l0 a1 t297 t298 _ ?side1 ?side2 A6.out).mono ?_); (case side1 => repeat (first | exact (Kd.V_reads' HO0.out).2.2 | (with_reducible refine cA ?_ _) | (with_reducible refine cN ?_ _) | (with_reducible refine cD ?_))); (case side2 => exact (Kd.V_reads' HO0.out).2.1); rintro e w11 ⟨rfl, hb⟩; refine ⟨_, rfl, ?_⟩; replace HO0 := zK (Kd.V_below (zv HO0) hb); replace HB := zK (below_step (zo HB) hb); (try clear hb); (try clear hb2); (try clear hk); (try clear hi)))
   go_loopg [10, 11] k (fun kq v10 v11 w' => ∃ (x10_1 : List (S77)) (x11_1 : Int), v11 = .int .i64 x11_1 ∧ Aside0 (sequiturref30_Shadow.l0 kq l0 a1 a2 x10_1 x11_1 = some (r1, r2)) ∧ Aside0 (kq ≤ k) ∧ Aside0 (Kd.V k70 70 w' w.heap.size (fun k_ => (P0_ k_ ∨ w.heap.size ≤ k_) ∧ some k_ ≠ (v10 : Value).ownBlock) (.slice A0 l0.length c0) l0) ∧ Aside0 (Kd.N k77 77 w' w.heap.size (fun k_ => (P0_ k_ ∨ w.heap.size ≤ k_)) v10 x10_1) ∧ Aside0 (Below w.heap.size w w'))
   case atStart => exact ⟨(([] : List (S77))), (0), (by first | rfl | (simp; done) | (simp [*]; done)), H', ⟨Nat.le_refl _⟩, ⟨by (with_reducible repeat (first | apply vA | apply vN | apply vD)); exact vM HO0.out (fun _ hk => ⟨hk, (by simp [Value.ownBlock])⟩)⟩, ⟨by first | exact Kd.S_nil _ _ _ _ _ | exact Kd.N_nil _ _ _ _ _ | exact Kd.V_nil _ _ _ _ _ | exact Kd.Q_nil _ _ _ _ _ | exact Kd.R_nil _ _ _ _ _⟩, ⟨zo HB⟩⟩
   case round =>
    clear H'; try clear c1; try clear p2; try clear c4
    try clear c5; try clear p6; try clear c7; try clear c7b0
    obtain ⟨x10_1, x11_1, rfl, HA, HK1, HO_0, HO_10, HB⟩ := hrel
    cases gk with
    | zero => exact absurd HA.out (by simp [sequiturref30_Shadow.l0])
    | succ k1 =>
     have H := HA.out; clear HA
     simp only [sequiturref30_Shadow.l0] at H
     by_cases c12 : x11_1 < (l0.length : Int)
     ·rw [if_pos c12] at H
      have c12b0 : decide (x11_1 < (l0.length : Int)) = true := decide_eq_true c12
      clear c12
      by_cases c13 : 0 ≤ x11_1
      ·rw [if_pos c13] at H
       have c13b0 : decide (0 ≤ x11_1) = true := decide_eq_true c13; clear c13
       replace H := Option.bind_eq_some_iff.mp H
       obtain ⟨t300, A140, H⟩ := H
       replace H : (if t300 = 0 then (if x10_1.length < 2513169434916 then (sequiturref30_Shadow.l0 k1 l0 a1 a2 (x10_1 ++ [(⟨(⟨(⟨(rd_T70 l0 x11_1).f0.f0, (rd_T70 l0 x11_1).f0.f1⟩ : S62), (rd_T70 l0 x11_1).f1⟩ : S70), x11_1, x11_1⟩ : S77)]) (wrap64 (x11_1 + 1))) else (none)) else (sequiturref30_Shadow.l0 k1 l0 a1 a2 x10_1 (wrap64 (x11_1 + 1)))) = some (r1, r2) := H
       have A14 := zK A140; clear A140
       by_cases c15 : t300 = 0
       ·rw [if_pos c15] at H
        have c15b0 : (t300 == 0) = true := beq_iff_eq.mpr c15
        have c15b1 : (t300 != 0) = false := bne_eq_false_iff_eq.mpr c15; clear c15
        by_cases c16 : x10_1.length < 2513169434916
        ·rw [if_pos c16] at H
         have LMc16 := zK c16; clear c16
         obtain ⟨y302, hy302⟩ : ∃ y_ : List (S77), y_ = (x10_1 ++ [(⟨(⟨(⟨(rd_T70 l0 x11_1).f0.f0, (rd_T70 l0 x11_1).f0.f1⟩ : S62), (rd_T70 l0 x11_1).f1⟩ : S70), x11_1, x11_1⟩ : S77)]) := ⟨_, rfl⟩
         replace H : (sequiturref30_Shadow.l0 k1 l0 a1 a2 y302 (wrap64 (x11_1 + 1))) = some (r1, r2) := by first | (rw [hy302]; with_reducible exact H) | (have H2_ := (Option.bind_some _ _).symm.trans H; rw [hy302]; with_reducible exact H2_) | (have H2_ := (Option.bind_some _ _).symm.trans H; with_reducible exact H2_) | with_reducible exact H | (rw [hy302]; exact H) | exact H
         have Ny302 := zK hy302; clear hy302
         have H' := zK H; clear H
         have p299 : 0 ≤ (x11_1 : Int) := of_decide_eq_true (by first | (with_reducible assumption) | assumption)
         have q299 : x11_1 < (l0.length : Int) := of_decide_eq_true (by first | (with_reducible assumption) | assumption)
         obtain ⟨ad299, A299_1, c299_1, e299, hx299_0, hx299_1, hx299_2, hl299_1, hi299_1⟩ := at_T70 (Kd.V_reads' HO_0.out).2.2 x11_1 p299 q299
         cases e299
         obtain ⟨ce299, hce299, hMe299, hcc299⟩ := Kd.V_get HO_0.out z70 x11_1 p299 (by first | exact q299 | exact of_decide_eq_true (by first | (with_reducible assumption) | assumption) | (have e_ := (Kd.V_reads' HO_0.out).1; omega))
         obtain ⟨ua299_1, uc299_1, rfl, ul299_1, ge299_1⟩ := k70_openF hMe299
         have hv299_1 := hcc299 1 _ rfl
         rw [add_field _ _ 1 (by omega)] at hv299_1
         replace hv299_1 := Option.some.inj (hv299_1.symm.trans hx299_1)
         injection hv299_1 with hva_ hvn_ hvc_
         rw [hva_] at ge299_1
         rw [hvc_] at ul299_1
         have HL299_1 := zK (show Kd.V k68 68 _ w.heap.size _ _ ((rd_T70 l0 x11_1).f0.f1) from Kd.V_mk ul299_1 ge299_1)
         clear hva_ hvn_ hvc_ ge299_1 ul299_1 hcc299 hce299
         have HR299_1 := zK hi299_1
         have HC299_1 := zK hl299_1; clear hi299_1 hl299_1
         replace p299 := eq_true p299
         replace q299 := eq_true q299
         go_wp2_with (first | ((with_reducible refine zC (f := 42) rfl ?_); refine goesL_ (some 49) rfl rfl Try.func42 (by kernel_rfl) rfl #[.agg #[.int .i64 ((rd_T70 l0 x11_1).f0.f0), .slice A299_1 ((rd_T70 l0 x11_1).f0.f1).length c299_1], .int .i64 a1] rfl (by (try simp only [List.map_toArray, List.map_cons, List.map_nil]); first | done | rfl | (simp only [List.length_drop, List.length_take]; rfl)) ?_; (with_reducible refine (sequiturref27_By.calls k1 ((rd_T70 l0 x11_1).f0.f0) _ _ ((rd_T70 l0 x11_1).f0.f1) a1 t300 _ ?side1 ?side2 A14.out).mono ?_); (case side1 => repeat (first | exact (by repeat (first | (with_reducible exact HR299_1.out) | (with_reducible refine cA ?_ _) | (with_reducible refine cN ?_ _) | (with_reducible refine cD ?_) | exact HR299_1.out)) | (with_reducible refine cA ?_ _) | (with_reducible refine cN ?_ _) | (with_reducible refine cD ?_))); (case side2 => exact HC299_1.out); rintro e w17 ⟨rfl, hb⟩; refine ⟨_, rfl, ?_⟩; replace HO_0 := zK (Kd.V_below (zv HO_0) hb); replace HO_10 := zK (Kd.N_below (zn HO_10) hb); replace HL299_1 := zK (Kd.V_below (zv HL299_1) hb); replace HR299_1 := zK (Kd.C_below (by repeat (first | (with_reducible exact HR299_1.out) | (with_reducible refine cA ?_ _) | (with_reducible refine cN ?_ _) | (with_reducible refine cD ?_) | exact HR299_1.out)) hb); replace HB := zK (below_step (zo HB) hb); (try clear hb); (try clear hb2); (try clear hk); (try clear hi); have p301 : 0 ≤ (x11_1 : Int) := of_decide_eq_true (by first | (with_reducible assumption) | assumption); have q301 : x11_1 < (l0.length : Int) := of_decide_eq_true (by first | (with_reducible assumption) | assumption); obtain ⟨ad301, A301_1, c301_1, e301, hx301_0, hx301_1, hx301_2, hl301_1, hi301_1⟩ := at_T70 (Kd.V_reads' HO_0.out).2.2 x11_1 p301 q301; obtain rfl : ad299 = ad301 := (by injection e301); obtain ⟨ce301, hce301, hMe301, hcc301⟩ := Kd.V_get HO_0.out z70 x11_1 p301 (by first | exact q301 | exact of_decide_eq_true (by first | (with_reducible assumption) | assumption) | (have e_ := (Kd.V_reads' HO_0.out).1; omega)); obtain ⟨ua301_1, uc301_1, rfl, ul301_1, ge301_1⟩ := k70_openF hMe301; have hv301_1 := hcc301 1 _ rfl; rw [add_field _ _ 1 (by omega)] at hv301_1; replace hv301_1 := Option.some.inj (hv301_1.symm.trans hx301_1); injection hv301_1 with hva_ hvn_ hvc_; rw [hva_] at ge301_1; rw [hvc_] at ul301_1; have HL301_1 := zK (show Kd.V k68 68 _ w.heap.size _ _ ((rd_T70 l0 x11_1).f0.f1) from Kd.V_mk ul301_1 ge301_1); clear hva_ hvn_ hvc_ ge301_1 ul301_1 hcc301 hce301; have HR301_1 := zK hi301_1; have HC301_1 := zK hl301_1; clear hi301_1 hl301_1; replace p301 := eq_true p301; replace q301 := eq_true q301) | ((with_reducible refine gate_builtin (b := .append) (xs := #[.tmp 51, .tmp 59]) rfl ?_); at_builtin; refine Kd.N_append k77 (w0 := w) w.heap.size rfl (.tmp 51) (.tmp 59) 29 77 (.agg #[(.int .i64 0), (.slice none 0 0), (.bool false), (.int .i64 0), (.int .i64 0)]) 56 rfl Try.underlying29 info77 rfl (by decide) (by omega) u10 x10_1 (⟨(⟨(⟨(rd_T70 l0 x11_1).f0.f0, (rd_T70 l0 x11_1).f0.f1⟩ : S62), (rd_T70 l0 x11_1).f1⟩ : S70), x11_1, x11_1⟩ : S77) [.int .i64 ((rd_T70 l0 x11_1).f0.f0), .slice A301_1 ((rd_T70 l0 x11_1).f0.f1).length c301_1, .bool ((rd_T70 l0 x11_1).f1), .int .i64 x11_1, .int .i64 x11_1] (fun k_ => (P0_ k_ ∨ w.heap.size ≤ k_)) (fun k_ => ((fun k_ => (P0_ k_ ∨ w.heap.size ≤ k_))) k_ ∧ some k_ ≠ (u10 : Value).ownBlock) rfl rfl ?aP (fun _ hk => hk) ?aF ?aO ?aB ?aS ?aL ?_; (case aP => exact (k77_mkF _ _ (⟨(⟨(⟨(rd_T70 l0 x11_1).f0.f0, (rd_T70 l0 x11_1).f0.f1⟩ : S62), (rd_T70 l0 x11_1).f1⟩ : S70), x11_1, x11_1⟩ : S77) (Kd.V_reads' (vM (ok' := (fun k_ => ((fun k_ => (P0_ k_ ∨ w.heap.size ≤ k_))) k_ ∧ some k_ ≠ (u10 : Value).ownBlock)) (HL301_1.out) (fun k_ hk => ⟨hk.1, hk.2⟩))).2.1 (Kd.V_F (vM (ok' := (fun k_ => ((fun k_ => (P0_ k_ ∨ w.heap.size ≤ k_))) k_ ∧ some k_ ≠ (u10 : Value).ownBlock)) (HL301_1.out) (fun k_ hk => ⟨hk.1, hk.2⟩))))); (case aB => exact (zo HB)); (case aF => exact (fun k_ hk => (.inr (Nat.le_trans (below_size (zo HB)) hk)))); (case aO => exact (zn HO_10)); (case aS => exact (below_size (zo HB))); (case aL => have := LMc16.out; omega); intro v303 w18 ho hb hg hat; rw [← Ny302.out] at ho; replace HO_0 := zK (Kd.V_afterv (ok := (fun k_ => (P0_ k_ ∨ w.heap.size ≤ k_))) (zv HO_0) hg hat); replace HL299_1 := zK (Kd.V_afterv (ok := (fun k_ => (P0_ k_ ∨ w.heap.size ≤ k_))) (zv HL299_1) hg hat); replace HL301_1 := zK (Kd.V_afterv (ok := (fun k_ => (P0_ k_ ∨ w.heap.size ≤ k_))) (zv HL301_1) hg hat); replace HB := zK (hb); have HO304 := zK (ho); clear HO_10 ho hb hg hat))
         go_roundg k1
         case measure => have := HK1.out; omega
         case rel => exact ⟨(y302), (wrap64 (x11_1 + 1)), (by first | rfl | (simp; done) | (simp [*]; done)), H', ⟨by have := HK1.out; omega⟩, ⟨zv HO_0⟩, ⟨zn HO304⟩, ⟨zo HB⟩⟩
        ·rw [if_neg c16] at H
         exact absurd H (by simp)
       ·rw [if_neg c15] at H
        have c15b0 : (t300 == 0) = false := beq_eq_false_iff_ne.mpr c15
        have c15b1 : (t300 != 0) = true := bne_iff_ne.mpr c15
        have H' := zK H; clear H
        have p299 : 0 ≤ (x11_1 : Int) := of_decide_eq_true (by first | (with_reducible assumption) | assumption)
        have q299 : x11_1 < (l0.length : Int) := of_decide_eq_true (by first | (with_reducible assumption) | assumption)
        obtain ⟨ad299, A299_1, c299_1, e299, hx299_0, hx299_1, hx299_2, hl299_1, hi299_1⟩ := at_T70 (Kd.V_reads' HO_0.out).2.2 x11_1 p299 q299
        cases e299
        obtain ⟨ce299, hce299, hMe299, hcc299⟩ := Kd.V_get HO_0.out z70 x11_1 p299 (by first | exact q299 | exact of_decide_eq_true (by first | (with_reducible assumption) | assumption) | (have e_ := (Kd.V_reads' HO_0.out).1; omega))
        obtain ⟨ua299_1, uc299_1, rfl, ul299_1, ge299_1⟩ := k70_openF hMe299
        have hv299_1 := hcc299 1 _ rfl
        rw [add_field _ _ 1 (by omega)] at hv299_1
        replace hv299_1 := Option.some.inj (hv299_1.symm.trans hx299_1)
        injection hv299_1 with hva_ hvn_ hvc_
        rw [hva_] at ge299_1
        rw [hvc_] at ul299_1
        have HL299_1 := zK (show Kd.V k68 68 _ w.heap.size _ _ ((rd_T70 l0 x11_1).f0.f1) from Kd.V_mk ul299_1 ge299_1)
        clear hva_ hvn_ hvc_ ge299_1 ul299_1 hcc299 hce299
        have HR299_1 := zK hi299_1
        have HC299_1 := zK hl299_1; clear hi299_1 hl299_1
        replace p299 := eq_true p299
        replace q299 := eq_true q299
        go_wp2_with (first | ((with_reducible refine zC (f := 42) rfl ?_); refine goesL_ (some 49) rfl rfl Try.func42 (by kernel_rfl) rfl #[.agg #[.int .i64 ((rd_T70 l0 x11_1).f0.f0), .slice A299_1 ((rd_T70 l0 x11_1).f0.f1).length c299_1], .int .i64 a1] rfl (by (try simp only [List.map_toArray, List.map_cons, List.map_nil]); first | done | rfl | (simp only [List.length_drop, List.length_take]; rfl)) ?_; (with_reducible refine (sequiturref27_By.calls k1 ((rd_T70 l0 x11_1).f0.f0) _ _ ((rd_T70 l0 x11_1).f0.f1) a1 t300 _ ?side1 ?side2 A14.out).mono ?_); (case side1 => repeat (first | exact (by repeat (first | (with_reducible exact HR299_1.out) | (with_reducible refine cA ?_ _) | (with_reducible refine cN ?_ _) | (with_reducible refine cD ?_) | exact HR299_1.out)) | (with_reducible refine cA ?_ _) | (with_reducible refine cN ?_ _) | (with_reducible refine cD ?_))); (case side2 => exact HC299_1.out); rintro e w19 ⟨rfl, hb⟩; refine ⟨_, rfl, ?_⟩; replace HO_0 := zK (Kd.V_below (zv HO_0) hb); replace HO_10 := zK (Kd.N_below (zn HO_10) hb); replace HL299_1 := zK (Kd.V_below (zv HL299_1) hb); replace HR299_1 := zK (Kd.C_below (by repeat (first | (with_reducible exact HR299_1.out) | (with_reducible refine cA ?_ _) | (with_reducible refine cN ?_ _) | (with_reducible refine cD ?_) | exact HR299_1.out)) hb); replace HB := zK (below_step (zo HB) hb); (try clear hb); (try clear hb2); (try clear hk); (try clear hi)))
        go_roundg k1
        case measure => have := HK1.out; omega
        case rel => exact ⟨(x10_1), (wrap64 (x11_1 + 1)), (by first | rfl | (simp; done) | (simp [*]; done)), H', ⟨by have := HK1.out; omega⟩, ⟨zv HO_0⟩, ⟨zn HO_10⟩, ⟨zo HB⟩⟩
      ·rw [if_neg c13] at H
       exact absurd H (by simp)
     ·rw [if_neg c12] at H
      have c12b0 : decide (x11_1 < (l0.length : Int)) = false := decide_eq_false c12
      clear c12
      have H' := zK H; clear H
      go_wp2
      go_loopg [10, 12] k1 (fun kq v10 v12 w' => ∃ (x10_2 : List (S77)) (x12_2 : Int), v12 = .int .i64 x12_2 ∧ Aside0 (sequiturref30_Shadow.l1 kq l0 a1 a2 x10_2 x12_2 = some (r1, r2)) ∧ Aside0 (kq ≤ k1) ∧ Aside0 (Kd.V k70 70 w' w.heap.size (fun k_ => (P0_ k_ ∨ w.heap.size ≤ k_) ∧ some k_ ≠ (v10 : Value).ownBlock) (.slice A0 l0.length c0) l0) ∧ Aside0 (Kd.N k77 77 w' w.heap.size (fun k_ => (P0_ k_ ∨ w.heap.size ≤ k_)) v10 x10_2) ∧ Aside0 (Below w.heap.size w w'))
      case atStart => exact ⟨(x10_1), (0), (by first | rfl | (simp; done) | (simp [*]; done)), H', ⟨Nat.le_refl _⟩, ⟨zv HO_0⟩, ⟨zn HO_10⟩, ⟨zo HB⟩⟩
      case round =>
       clear H'; try clear c1; try clear c2; try clear p2
       try clear q2; try clear hx2; try clear c3; try clear p3
       try clear q3; try clear hx3; try clear c4; try clear c5
       try clear p6; try clear c7; try clear c7b0; try clear c12
       try clear c12b0; try clear c13; try clear c13b0; try clear c15
       try clear c15b0; try clear c15b1; try clear c16; try clear hx299_0
       try clear hx299_1; try clear hx299_2; try clear hx301_0; try clear hx301_1
       try clear hx301_2; try clear p2; try clear p299; try clear p301; try clear p6; try clear q299; try clear q301
       obtain ⟨x10_2, x12_2, rfl, HA, HK2, HO_0, HO_10, HB⟩ := hrel
       cases gk with
       | zero => exact absurd HA.out (by simp [sequiturref30_Shadow.l1])
       | succ k2 =>
        have H := HA.out; clear HA
        simp only [sequiturref30_Shadow.l1] at H
        by_cases c20 : x12_2 < (l0.length : Int)
        ·rw [if_pos c20] at H
         have c20b0 : decide (x12_2 < (l0.length : Int)) = true := decide_eq_true c20
         clear c20
         have H' := zK H; clear H
         go_wp2
         go_loopg [10, 13] k2 (fun kq v10 v13 w' => ∃ (x10_3 : List (S77)) (x13_3 : Int), v13 = .int .i64 x13_3 ∧ Aside0 (sequiturref30_Shadow.l2 kq l0 a1 a2 x10_3 x12_2 x13_3 = some (r1, r2)) ∧ Aside0 (kq ≤ k2) ∧ Aside0 (Kd.V k70 70 w' w.heap.size (fun k_ => (P0_ k_ ∨ w.heap.size ≤ k_) ∧ some k_ ≠ (v10 : Value).ownBlock) (.slice A0 l0.length c0) l0) ∧ Aside0 (Kd.N k77 77 w' w.heap.size (fun k_ => (P0_ k_ ∨ w.heap.size ≤ k_)) v10 x10_3) ∧ Aside0 (Below w.heap.size w w'))
         case atStart => exact ⟨(x10_2), (0), (by first | rfl | (simp; done) | (simp [*]; done)), H', ⟨Nat.le_refl _⟩, ⟨zv HO_0⟩, ⟨zn HO_10⟩, ⟨zo HB⟩⟩
         case round =>
          clear H'; try clear c1; try clear c2; try clear p2
          try clear q2; try clear hx2; try clear c3; try clear p3
          try clear q3; try clear hx3; try clear c4; try clear c5
          try clear p6; try clear c7; try clear c7b0; try clear c12
          try clear c12b0; try clear c13; try clear c13b0; try clear c15
          try clear c15b0; try clear c15b1; try clear c16; try clear c20
          try clear c20b0; try clear hx299_0; try clear hx299_1; try clear hx299_2
          try clear hx301_0; try clear hx301_1; try clear hx301_2; try clear p2
          try clear p299; try clear p3; try clear p301; try clear p6
          try clear q2; try clear q299; try clear q3; try clear q301
          obtain ⟨x10_3, x13_3, rfl, HA, HK3, HO_0, HO_10, HB⟩ := hrel
          cases gk with
          | zero => exact absurd HA.out (by simp [sequiturref30_Shadow.l2])
          | succ k3 =>
           have H := HA.out; clear HA
           simp only [sequiturref30_Shadow.l2] at H
           by_cases c21 : x13_3 < (l0.length : Int)
           ·rw [if_pos c21] at H
            have c21b0 : decide (x13_3 < (l0.length : Int)) = true := decide_eq_true c21
            clear c21
            have HC22 := zK H; clear H
            go_upto_region 18 with (fail)
            go_cut [90] (fun v90 wc => ∃ (kq : Nat) (x90_21 : Bool), v90 = .bool x90_21 ∧ Aside0 (sequiturref30_Shadow.j3 kq l0 a1 a2 x10_3 x12_2 x13_3 x90_21 = some (r1, r2)) ∧ Aside0 (kq ≤ k3) ∧ Aside0 (Kd.V k70 70 wc w.heap.size (fun k_ => (P0_ k_ ∨ w.heap.size ≤ k_) ∧ some k_ ≠ (u10 : Value).ownBlock) (.slice A0 l0.length c0) l0) ∧ Aside0 (Kd.N k77 77 wc w.heap.size (fun k_ => (P0_ k_ ∨ w.heap.size ≤ k_)) u10 x10_3) ∧ Aside0 (Below w.heap.size w wc))
            case first =>
             have H := HC22.out; clear HC22
             by_cases c23 : 0 ≤ x12_2
             ·rw [if_pos c23] at H
              have c23b0 : decide (0 ≤ x12_2) = true := decide_eq_true c23; clear c23
              (first | rw [c23b0] | (simp only [i64_w, i32_w]; rw [c23b0]) | skip)
              by_cases c24 : x12_2 < (l0.length : Int)
              ·rw [if_pos c24] at H
               have c24b0 : decide (x12_2 < (l0.length : Int)) = true := decide_eq_true c24
               clear c24; replace H := Option.bind_eq_some_iff.mp H
               obtain ⟨t306, A250, H⟩ := H
               replace H : (if t306 ≥ 0 then (sequiturref30_Shadow.j3 k3 l0 a1 a2 x10_3 x12_2 x13_3 true) else (if 0 ≤ x13_3 then ((sequiturref27_By.f k3 ((rd_T70 l0 x13_3).f0.f0) ((rd_T70 l0 x13_3).f0.f1) a1).bind fun t308 => (sequiturref30_Shadow.j3 k3 l0 a1 a2 x10_3 x12_2 x13_3 (decide (t308 ≤ 0)))) else (none))) = some (r1, r2) := H
               have A25 := zK A250; clear A250
               by_cases c26 : t306 ≥ 0
               ·rw [if_pos c26] at H
                have c26b0 : decide (0 ≤ t306) = true := decide_eq_true c26; clear c26
                have H' := zK H; clear H
                have p305 : 0 ≤ (x12_2 : Int) := of_decide_eq_true (by first | (with_reducible assumption) | assumption)
                have q305 : x12_2 < (l0.length : Int) := of_decide_eq_true (by first | (with_reducible assumption) | assumption)
                obtain ⟨ad305, A305_1, c305_1, e305, hx305_0, hx305_1, hx305_2, hl305_1, hi305_1⟩ := at_T70 (Kd.V_reads' HO_0.out).2.2 x12_2 p305 q305
                cases e305
                obtain ⟨ce305, hce305, hMe305, hcc305⟩ := Kd.V_get HO_0.out z70 x12_2 p305 (by first | exact q305 | exact of_decide_eq_true (by first | (with_reducible assumption) | assumption) | (have e_ := (Kd.V_reads' HO_0.out).1; omega))
                obtain ⟨ua305_1, uc305_1, rfl, ul305_1, ge305_1⟩ := k70_openF hMe305
                have hv305_1 := hcc305 1 _ rfl
                rw [add_field _ _ 1 (by omega)] at hv305_1
                replace hv305_1 := Option.some.inj (hv305_1.symm.trans hx305_1)
                injection hv305_1 with hva_ hvn_ hvc_
                rw [hva_] at ge305_1
                rw [hvc_] at ul305_1
                have HL305_1 := zK (show Kd.V k68 68 _ w.heap.size _ _ ((rd_T70 l0 x12_2).f0.f1) from Kd.V_mk ul305_1 ge305_1)
                clear hva_ hvn_ hvc_ ge305_1 ul305_1 hcc305 hce305
                have HR305_1 := zK hi305_1
                have HC305_1 := zK hl305_1; clear hi305_1 hl305_1
                replace p305 := eq_true p305
                replace q305 := eq_true q305
                go_wp2_with (first | ((with_reducible refine zC (f := 42) rfl ?_); refine goesL_ (some 79) rfl rfl Try.func42 (by kernel_rfl) rfl #[.agg #[.int .i64 ((rd_T70 l0 x12_2).f0.f0), .slice A305_1 ((rd_T70 l0 x12_2).f0.f1).length c305_1], .int .i64 a1] rfl (by (try simp only [List.map_toArray, List.map_cons, List.map_nil]); first | done | rfl | (simp only [List.length_drop, List.length_take]; rfl)) ?_; (with_reducible refine (sequiturref27_By.calls k3 ((rd_T70 l0 x12_2).f0.f0) _ _ ((rd_T70 l0 x12_2).f0.f1) a1 t306 _ ?side1 ?side2 A25.out).mono ?_); (case side1 => repeat (first | exact (by repeat (first | (with_reducible exact HR305_1.out) | (with_reducible refine cA ?_ _) | (with_reducible refine cN ?_ _) | (with_reducible refine cD ?_) | exact HR305_1.out)) | (with_reducible refine cA ?_ _) | (with_reducible refine cN ?_ _) | (with_reducible refine cD ?_))); (case side2 => exact HC305_1.out); rintro e w27 ⟨rfl, hb⟩; refine ⟨_, rfl, ?_⟩; replace HO_0 := zK (Kd.V_below (zv HO_0) hb); replace HO_10 := zK (Kd.N_below (zn HO_10) hb); replace HL305_1 := zK (Kd.V_below (zv HL305_1) hb); replace HR305_1 := zK (Kd.C_below (by repeat (first | (with_reducible exact HR305_1.out) | (with_reducible refine cA ?_ _) | (with_reducible refine cN ?_ _) | (with_reducible refine cD ?_) | exact HR305_1.out)) hb); replace HB := zK (below_step (zo HB) hb); (try clear hb); (try clear hb2); (try clear hk); (try clear hi)))
                go_meet
                case rel => exact ⟨_, (true), (by first | rfl | (simp; done) | (simp [*]; done)), H', ⟨by have := HK1.out; have := HK2.out; have := HK3.out; first | omega | exact Nat.le_refl _⟩, ⟨zv HO_0⟩, ⟨zn HO_10⟩, ⟨zo HB⟩⟩
               ·rw [if_neg c26] at H
                have c26b0 : decide (0 ≤ t306) = false := decide_eq_false c26; clear c26
                by_cases c28 : 0 ≤ x13_3
                ·rw [if_pos c28] at H
                 have c28b0 : decide (0 ≤ x13_3) = true := decide_eq_true c28; clear c28
                 replace H := Option.bind_eq_some_iff.mp H
                 obtain ⟨t308, A290, H⟩ := H
                 replace H : (sequiturref30_Shadow.j3 k3 l0 a1 a2 x10_3 x12_2 x13_3 (decide (t308 ≤ 0))) = some (r1, r2) := H
                 have A29 := zK A290; clear A290
                 have H' := zK H; clear H
                 have p305 : 0 ≤ (x12_2 : Int) := of_decide_eq_true (by first | (with_reducible assumption) | assumption)
                 have q305 : x12_2 < (l0.length : Int) := of_decide_eq_true (by first | (with_reducible assumption) | assumption)
                 obtain ⟨ad305, A305_1, c305_1, e305, hx305_0, hx305_1, hx305_2, hl305_1, hi305_1⟩ := at_T70 (Kd.V_reads' HO_0.out).2.2 x12_2 p305 q305
                 cases e305
                 obtain ⟨ce305, hce305, hMe305, hcc305⟩ := Kd.V_get HO_0.out z70 x12_2 p305 (by first | exact q305 | exact of_decide_eq_true (by first | (with_reducible assumption) | assumption) | (have e_ := (Kd.V_reads' HO_0.out).1; omega))
                 obtain ⟨ua305_1, uc305_1, rfl, ul305_1, ge305_1⟩ := k70_openF hMe305
                 have hv305_1 := hcc305 1 _ rfl
                 rw [add_field _ _ 1 (by omega)] at hv305_1
                 replace hv305_1 := Option.some.inj (hv305_1.symm.trans hx305_1)
                 injection hv305_1 with hva_ hvn_ hvc_
                 rw [hva_] at ge305_1
                 rw [hvc_] at ul305_1
                 have HL305_1 := zK (show Kd.V k68 68 _ w.heap.size _ _ ((rd_T70 l0 x12_2).f0.f1) from Kd.V_mk ul305_1 ge305_1)
                 clear hva_ hvn_ hvc_ ge305_1 ul305_1 hcc305 hce305
                 have HR305_1 := zK hi305_1
                 have HC305_1 := zK hl305_1; clear hi305_1 hl305_1
                 replace p305 := eq_true p305
                 replace q305 := eq_true q305
                 go_wp2_with (first | ((with_reducible refine zC (f := 42) rfl ?_); refine goesL_ (some 79) rfl rfl Try.func42 (by kernel_rfl) rfl #[.agg #[.int .i64 ((rd_T70 l0 x12_2).f0.f0), .slice A305_1 ((rd_T70 l0 x12_2).f0.f1).length c305_1], .int .i64 a1] rfl (by (try simp only [List.map_toArray, List.map_cons, List.map_nil]); first | done | rfl | (simp only [List.length_drop, List.length_take]; rfl)) ?_; (with_reducible refine (sequiturref27_By.calls k3 ((rd_T70 l0 x12_2).f0.f0) _ _ ((rd_T70 l0 x12_2).f0.f1) a1 t306 _ ?side1 ?side2 A25.out).mono ?_); (case side1 => repeat (first | exact (by repeat (first | (with_reducible exact HR305_1.out) | (with_reducible refine cA ?_ _) | (with_reducible refine cN ?_ _) | (with_reducible refine cD ?_) | exact HR305_1.out)) | (with_reducible refine cA ?_ _) | (with_reducible refine cN ?_ _) | (with_reducible refine cD ?_))); (case side2 => exact HC305_1.out); rintro e w30 ⟨rfl, hb⟩; refine ⟨_, rfl, ?_⟩; replace HO_0 := zK (Kd.V_below (zv HO_0) hb); replace HO_10 := zK (Kd.N_below (zn HO_10) hb); replace HL305_1 := zK (Kd.V_below (zv HL305_1) hb); replace HR305_1 := zK (Kd.C_below (by repeat (first | (with_reducible exact HR305_1.out) | (with_reducible refine cA ?_ _) | (with_reducible refine cN ?_ _) | (with_reducible refine cD ?_) | exact HR305_1.out)) hb); replace HB := zK (below_step (zo HB) hb); (try clear hb); (try clear hb2); (try clear hk); (try clear hi); have p307 : 0 ≤ (x13_3 : Int) := of_decide_eq_true (by first | (with_reducible assumption) | assumption); have q307 : x13_3 < (l0.length : Int) := of_decide_eq_true (by first | (with_reducible assumption) | assumption); obtain ⟨ad307, A307_1, c307_1, e307, hx307_0, hx307_1, hx307_2, hl307_1, hi307_1⟩ := at_T70 (Kd.V_reads' HO_0.out).2.2 x13_3 p307 q307; obtain rfl : ad305 = ad307 := (by injection e307); obtain ⟨ce307, hce307, hMe307, hcc307⟩ := Kd.V_get HO_0.out z70 x13_3 p307 (by first | exact q307 | exact of_decide_eq_true (by first | (with_reducible assumption) | assumption) | (have e_ := (Kd.V_reads' HO_0.out).1; omega)); obtain ⟨ua307_1, uc307_1, rfl, ul307_1, ge307_1⟩ := k70_openF hMe307; have hv307_1 := hcc307 1 _ rfl; rw [add_field _ _ 1 (by omega)] at hv307_1; replace hv307_1 := Option.some.inj (hv307_1.symm.trans hx307_1); injection hv307_1 with hva_ hvn_ hvc_; rw [hva_] at ge307_1; rw [hvc_] at ul307_1; have HL307_1 := zK (show Kd.V k68 68 _ w.heap.size _ _ ((rd_T70 l0 x13_3).f0.f1) from Kd.V_mk ul307_1 ge307_1); clear hva_ hvn_ hvc_ ge307_1 ul307_1 hcc307 hce307; have HR307_1 := zK hi307_1; have HC307_1 := zK hl307_1; clear hi307_1 hl307_1; replace p307 := eq_true p307; replace q307 := eq_true q307) | (go_at_call 42; (with_reducible refine (sequiturref27_By.calls k3 ((rd_T70 l0 x13_3).f0.f0) _ _ ((rd_T70 l0 x13_3).f0.f1) a1 t308 _ ?side1 ?side2 A29.out).mono ?_); (case side1 => repeat (first | exact (by repeat (first | (with_reducible exact HR307_1.out) | (with_reducible refine cA ?_ _) | (with_reducible refine cN ?_ _) | (with_reducible refine cD ?_) | exact HR307_1.out)) | (with_reducible refine cA ?_ _) | (with_reducible refine cN ?_ _) | (with_reducible refine cD ?_))); (case side2 => exact HC307_1.out); rintro e w31 ⟨rfl, hb⟩; replace HO_0 := zK (Kd.V_below (zv HO_0) hb); replace HO_10 := zK (Kd.N_below (zn HO_10) hb); replace HL305_1 := zK (Kd.V_below (zv HL305_1) hb); replace HL307_1 := zK (Kd.V_below (zv HL307_1) hb); replace HR305_1 := zK (Kd.C_below (by repeat (first | (with_reducible exact HR305_1.out) | (with_reducible refine cA ?_ _) | (with_reducible refine cN ?_ _) | (with_reducible refine cD ?_) | exact HR305_1.out)) hb); replace HR307_1 := zK (Kd.C_below (by repeat (first | (with_reducible exact HR307_1.out) | (with_reducible refine cA ?_ _) | (with_reducible refine cN ?_ _) | (with_reducible refine cD ?_) | exact HR307_1.out)) hb); replace HB := zK (below_step (zo HB) hb); (try clear hb); (try clear hb2); (try clear hk); (try clear hi)))
                 go_meet
                 case rel => exact ⟨_, (decide (t308 ≤ 0)), (by first | rfl | (simp; done) | (simp [*]; done)), H', ⟨by have := HK1.out; have := HK2.out; have := HK3.out; first | omega | exact Nat.le_refl _⟩, ⟨zv HO_0⟩, ⟨zn HO_10⟩, ⟨zo HB⟩⟩
                ·rw [if_neg c28] at H
                 exact absurd H (by simp)
              ·rw [if_neg c24] at H
               exact absurd H (by simp)
             ·rw [if_neg c23] at H
              exact absurd H (by simp)
            case rest =>
             clear HC22; try clear c1; try clear c2; try clear p2
             try clear q2; try clear hx2; try clear c3; try clear p3
             try clear q3; try clear hx3; try clear c4; try clear c5
             try clear p6; try clear c7; try clear c7b0; try clear c12
             try clear c12b0; try clear c13; try clear c13b0; try clear c15
             try clear c15b0; try clear c15b1; try clear c16; try clear c20
             try clear c20b0; try clear c21; try clear c21b0; try clear c23
             try clear c23b0; try clear c24; try clear c24b0; try clear c26
             try clear c26b0; try clear c28; try clear c28b0; try clear c29
             try clear p29; try clear q29; try clear hx29; try clear c30
             try clear p30; try clear q30; try clear hx30; try clear hx299_0
             try clear hx299_1; try clear hx299_2; try clear hx301_0; try clear hx301_1
             try clear hx301_2; try clear hx305_0; try clear hx305_1; try clear hx305_2
             try clear hx307_0; try clear hx307_1; try clear hx307_2; try clear p2
             try clear p299; try clear p3; try clear p301; try clear p305
             try clear p307; try clear p6; try clear q2; try clear q299
             try clear q3; try clear q301; try clear q305; try clear q307
             obtain ⟨kq, x90_21, rfl, HA, HJ21, HO_0, HO_10, HB⟩ := hcut
             cases kq with
             | zero => exact absurd HA.out (by simp [sequiturref30_Shadow.j3])
             | succ kj21 =>
              have H := HA.out; clear HA
              simp only [sequiturref30_Shadow.j3] at H
              by_cases c32 : x90_21 = true
              ·subst c32
               have H1 : (sequiturref30_Shadow.l2 kj21 l0 a1 a2 x10_3 x12_2 (wrap64 (x13_3 + 1))) = some (r1, r2) := by rw [if_pos rfl] at H; exact H
               clear H; have H := H1; clear H1
               have H' := zK H; clear H
               go_wp2
               go_roundg kj21
               case measure => have := HK1.out; have := HK2.out; have := HK3.out; have := HJ21.out; omega
               case rel => exact ⟨(x10_3), (wrap64 (x13_3 + 1)), (by first | rfl | (simp; done) | (simp [*]; done)), H', ⟨by have := HK1.out; have := HK2.out; have := HK3.out; have := HJ21.out; omega⟩, ⟨zv HO_0⟩, ⟨zn HO_10⟩, ⟨zo HB⟩⟩
              ·replace c32 := Bool.eq_false_iff.mpr c32
               subst c32
               have H1 : (if 0 ≤ x12_2 then (if x12_2 < (l0.length : Int) then (if 0 ≤ x13_3 then (if x13_3 < (l0.length : Int) then ((sequiturref30_pair.f kj21 ((rd_T70 l0 x12_2).f0.f0) ((rd_T70 l0 x12_2).f0.f1) ((rd_T70 l0 x13_3).f0.f0) ((rd_T70 l0 x13_3).f0.f1) a1 a2).bind fun bt311 => (if bt311.2.2 = true then (if x10_3.length < 2513169434916 then (sequiturref30_Shadow.l2 kj21 l0 a1 a2 (x10_3 ++ [(⟨(⟨(⟨bt311.1, bt311.2.1⟩ : S62), false⟩ : S70), x12_2, x13_3⟩ : S77)]) x12_2 (wrap64 (x13_3 + 1))) else (none)) else (some (([] : List (S77)), 5)))) else (none)) else (none)) else (none)) else (none)) = some (r1, r2) := by rw [if_neg (show ¬ (false = true) by decide)] at H; exact H
               clear H; have H := H1; clear H1
               by_cases c33 : 0 ≤ x12_2
               ·rw [if_pos c33] at H
                have c33b0 : decide (0 ≤ x12_2) = true := decide_eq_true c33; clear c33
                by_cases c34 : x12_2 < (l0.length : Int)
                ·rw [if_pos c34] at H
                 have c34b0 : decide (x12_2 < (l0.length : Int)) = true := decide_eq_true c34
                 clear c34
                 by_cases c35 : 0 ≤ x13_3
                 ·rw [if_pos c35] at H
                  have c35b0 : decide (0 ≤ x13_3) = true := decide_eq_true c35; clear c35
                  by_cases c36 : x13_3 < (l0.length : Int)
                  ·rw [if_pos c36] at H
                   have c36b0 : decide (x13_3 < (l0.length : Int)) = true := decide_eq_true c36
                   clear c36; replace H := Option.bind_eq_some_iff.mp H
                   obtain ⟨⟨t311, t312, t315⟩, A370, H⟩ := H
                   replace H : (if t315 = true then (if x10_3.length < 2513169434916 then (sequiturref30_Shadow.l2 kj21 l0 a1 a2 (x10_3 ++ [(⟨(⟨(⟨t311, t312⟩ : S62), false⟩ : S70), x12_2, x13_3⟩ : S77)]) x12_2 (wrap64 (x13_3 + 1))) else (none)) else (some (([] : List (S77)), 5))) = some (r1, r2) := H
                   have A37 := zK A370; clear A370
                   by_cases c38 : t315 = true
                   ·subst c38
                    have H1 : (if x10_3.length < 2513169434916 then (sequiturref30_Shadow.l2 kj21 l0 a1 a2 (x10_3 ++ [(⟨(⟨(⟨t311, t312⟩ : S62), false⟩ : S70), x12_2, x13_3⟩ : S77)]) x12_2 (wrap64 (x13_3 + 1))) else (none)) = some (r1, r2) := by rw [if_pos rfl] at H; exact H
                    clear H; have H := H1; clear H1
                    by_cases c39 : x10_3.length < 2513169434916
                    ·rw [if_pos c39] at H
                     have LMc39 := zK c39; clear c39
                     obtain ⟨y317, hy317⟩ : ∃ y_ : List (S77), y_ = (x10_3 ++ [(⟨(⟨(⟨t311, t312⟩ : S62), false⟩ : S70), x12_2, x13_3⟩ : S77)]) := ⟨_, rfl⟩
                     replace H : (sequiturref30_Shadow.l2 kj21 l0 a1 a2 y317 x12_2 (wrap64 (x13_3 + 1))) = some (r1, r2) := by first | (rw [hy317]; with_reducible exact H) | (have H2_ := (Option.bind_some _ _).symm.trans H; rw [hy317]; with_reducible exact H2_) | (have H2_ := (Option.bind_some _ _).symm.trans H; with_reducible exact H2_) | with_reducible exact H | (rw [hy317]; exact H) | exact H
                     have Ny317 := zK hy317; clear hy317
                     have H' := zK H; clear H
                     try go_wp2
                     replace HO_0 := zK (vD HO_0.out)
                     replace HO_10 := zK (nD HO_10.out)
                     replace HB := zK (yD HB.out)
                     have p309 : 0 ≤ (x12_2 : Int) := of_decide_eq_true (by first | (with_reducible assumption) | assumption)
                     have q309 : x12_2 < (l0.length : Int) := of_decide_eq_true (by first | (with_reducible assumption) | assumption)
                     obtain ⟨ad309, A309_1, c309_1, e309, hx309_0, hx309_1, hx309_2, hl309_1, hi309_1⟩ := at_T70 (Kd.V_reads' HO_0.out).2.2 x12_2 p309 q309
                     cases e309
                     obtain ⟨ce309, hce309, hMe309, hcc309⟩ := Kd.V_get HO_0.out z70 x12_2 p309 (by first | exact q309 | exact of_decide_eq_true (by first | (with_reducible assumption) | assumption) | (have e_ := (Kd.V_reads' HO_0.out).1; omega))
                     obtain ⟨ua309_1, uc309_1, rfl, ul309_1, ge309_1⟩ := k70_openF hMe309
                     have hv309_1 := hcc309 1 _ rfl
                     rw [add_field _ _ 1 (by omega)] at hv309_1
                     replace hv309_1 := Option.some.inj (hv309_1.symm.trans hx309_1)
                     injection hv309_1 with hva_ hvn_ hvc_
                     rw [hva_] at ge309_1
                     rw [hvc_] at ul309_1
                     have HL309_1 := zK (show Kd.V k68 68 _ w.heap.size _ _ ((rd_T70 l0 x12_2).f0.f1) from Kd.V_mk ul309_1 ge309_1)
                     clear hva_ hvn_ hvc_ ge309_1 ul309_1 hcc309 hce309
                     have HR309_1 := zK hi309_1
                     have HC309_1 := zK hl309_1; clear hi309_1 hl309_1
                     replace p309 := eq_true p309
                     replace q309 := eq_true q309
                     have p310 : 0 ≤ (x13_3 : Int) := of_decide_eq_true (by first | (with_reducible assumption) | assumption)
                     have q310 : x13_3 < (l0.length : Int) := of_decide_eq_true (by first | (with_reducible assumption) | assumption)
                     obtain ⟨ad310, A310_1, c310_1, e310, hx310_0, hx310_1, hx310_2, hl310_1, hi310_1⟩ := at_T70 (Kd.V_reads' HO_0.out).2.2 x13_3 p310 q310
                     obtain rfl : ad309 = ad310 := (by injection e310)
                     obtain ⟨ce310, hce310, hMe310, hcc310⟩ := Kd.V_get HO_0.out z70 x13_3 p310 (by first | exact q310 | exact of_decide_eq_true (by first | (with_reducible assumption) | assumption) | (have e_ := (Kd.V_reads' HO_0.out).1; omega))
                     obtain ⟨ua310_1, uc310_1, rfl, ul310_1, ge310_1⟩ := k70_openF hMe310
                     have hv310_1 := hcc310 1 _ rfl
                     rw [add_field _ _ 1 (by omega)] at hv310_1
                     replace hv310_1 := Option.some.inj (hv310_1.symm.trans hx310_1)
                     injection hv310_1 with hva_ hvn_ hvc_
                     rw [hva_] at ge310_1
                     rw [hvc_] at ul310_1
                     have HL310_1 := zK (show Kd.V k68 68 _ w.heap.size _ _ ((rd_T70 l0 x13_3).f0.f1) from Kd.V_mk ul310_1 ge310_1)
                     clear hva_ hvn_ hvc_ ge310_1 ul310_1 hcc310 hce310
                     have HR310_1 := zK hi310_1
                     have HC310_1 := zK hl310_1; clear hi310_1 hl310_1
                     replace p310 := eq_true p310
                     replace q310 := eq_true q310
                     refine start_ (n := 19) (S := fun w' => w'.cell? (ad309.add ((x12_2).toNat * 3)) = some (.int .i64 ((rd_T70 l0 x12_2).f0.f0)) ∧ w'.cell? ⟨(ad309.add ((x12_2).toNat * 3)).block, (ad309.add ((x12_2).toNat * 3)).off + 1, none⟩ = some (.slice A309_1 ((rd_T70 l0 x12_2).f0.f1).length c309_1) ∧ w'.cell? ⟨(ad309.add ((x12_2).toNat * 3)).block, (ad309.add ((x12_2).toNat * 3)).off + 2, none⟩ = some (.bool ((rd_T70 l0 x12_2).f1)) ∧ w'.cell? (ad309.add ((x13_3).toNat * 3)) = some (.int .i64 ((rd_T70 l0 x13_3).f0.f0)) ∧ w'.cell? ⟨(ad309.add ((x13_3).toNat * 3)).block, (ad309.add ((x13_3).toNat * 3)).off + 1, none⟩ = some (.slice A310_1 ((rd_T70 l0 x13_3).f0.f1).length c310_1) ∧ w'.cell? ⟨(ad309.add ((x13_3).toNat * 3)).block, (ad309.add ((x13_3).toNat * 3)).off + 2, none⟩ = some (.bool ((rd_T70 l0 x13_3).f1))) (ds := []) #[F_,F_,F_,F_,F_,F_,F_,F_,F_,F_,F_,F_,F_,F_,F_,F_,F_,F_,F_] (by kernel_rfl) rfl rfl ⟨hx309_0, hx309_1, hx309_2, hx310_0, hx310_1, hx310_2⟩ (fun hHeld => ?_); refine with_tabW sequiturref30_Shadow.tab19 sequiturref30_Shadow.bits19 (fun HT_ HW_ => ?_)
                     generalize wc.drew = w40 at HO_0 HO_10 HB HL309_1 HL310_1 HR309_1 HR310_1 hx309_0 hx309_1 hx309_2 hx310_0 hx310_1 hx310_2 hHeld ⊢
                     refine pure_ (i := 0) (N := some 92) (v := ?_) (a' := ?_) #[T_,F_,F_,F_,F_,F_,F_,F_,F_,F_,F_,F_,F_,F_,F_,F_,F_,F_,F_] rfl rfl (any_of HT_.out (by kernel_rfl)) (fun _ _ _ h => h) (Or.inl ⟨by rfl, ?_⟩) ?_ ?_; rotate_left; (intro w'; go_simp; with_reducible rfl); rotate_left; (simp only [Act.put, zt, zz, zs, i64_w, i32_w]; rfl)
                     refine pure_ (i := 1) (N := some 93) (v := ?_) (a' := ?_) #[T_,T_,F_,F_,F_,F_,F_,F_,F_,F_,F_,F_,F_,F_,F_,F_,F_,F_,F_] rfl rfl (any_of HT_.out (by kernel_rfl)) (fun _ _ _ h => h) (Or.inl ⟨by rfl, ?_⟩) ?_ ?_; rotate_left; (intro w'; go_simp; with_reducible rfl); rotate_left; (simp only [Act.put, zt, zz, zs, i64_w, i32_w]; rfl)
                     refine pure_ (i := 2) (N := some 94) (v := ?_) (a' := ?_) #[T_,T_,T_,F_,F_,F_,F_,F_,F_,F_,F_,F_,F_,F_,F_,F_,F_,F_,F_] rfl rfl (any_of HT_.out (by kernel_rfl)) (fun _ _ _ h => h) (Or.inl ⟨by rfl, ?_⟩) ?_ ?_; rotate_left; (intro w'; go_simp; with_reducible rfl); rotate_left; (simp only [Act.put, zt, zz, zs, i64_w, i32_w]; rfl)
                     refine pure_ (i := 3) (N := some 95) (v := ?_) (a' := ?_) #[T_,T_,T_,T_,F_,F_,F_,F_,F_,F_,F_,F_,F_,F_,F_,F_,F_,F_,F_] rfl rfl (any_of HT_.out (by kernel_rfl)) (fun _ _ _ h => h) (Or.inl ⟨by rfl, ?_⟩) ?_ ?_; rotate_left; (intro w'; go_simp; with_reducible rfl); rotate_left; (simp only [Act.put, zt, zz, zs, i64_w, i32_w]; rfl)
                     refine pure_ (i := 5) (N := some 97) (v := ?_) (a' := ?_) #[T_,T_,T_,T_,F_,T_,F_,F_,F_,F_,F_,F_,F_,F_,F_,F_,F_,F_,F_] rfl rfl (any_of HT_.out (by kernel_rfl)) (fun _ _ _ h => h) (Or.inl ⟨by rfl, ?_⟩) ?_ ?_; rotate_left; (intro w'; go_simp; with_reducible rfl); rotate_left; (simp only [Act.put, zt, zz, zs, i64_w, i32_w]; rfl)
                     refine pure_ (i := 6) (N := some 98) (v := ?_) (a' := ?_) #[T_,T_,T_,T_,F_,T_,T_,F_,F_,F_,F_,F_,F_,F_,F_,F_,F_,F_,F_] rfl rfl (any_of HT_.out (by kernel_rfl)) (fun _ _ _ h => h) (Or.inl ⟨by rfl, ?_⟩) ?_ ?_; rotate_left; (intro w'; go_simp; with_reducible rfl); rotate_left; (simp only [Act.put, zt, zz, zs, i64_w, i32_w]; rfl)
                     refine pure_ (i := 7) (N := some 99) (v := ?_) (a' := ?_) #[T_,T_,T_,T_,F_,T_,T_,T_,F_,F_,F_,F_,F_,F_,F_,F_,F_,F_,F_] rfl rfl (any_of HT_.out (by kernel_rfl)) (fun _ _ _ h => h) (Or.inl ⟨by rfl, ?_⟩) ?_ ?_; rotate_left; (intro w'; go_simp; with_reducible rfl); rotate_left; (simp only [Act.put, zt, zz, zs, i64_w, i32_w]; rfl)
                     refine pure_ (i := 8) (N := some 100) (v := ?_) (a' := ?_) #[T_,T_,T_,T_,F_,T_,T_,T_,T_,F_,F_,F_,F_,F_,F_,F_,F_,F_,F_] rfl rfl (any_of HT_.out (by kernel_rfl)) (fun _ _ _ h => h) (Or.inl ⟨by rfl, ?_⟩) ?_ ?_; rotate_left; (intro w'; go_simp; with_reducible rfl); rotate_left; (simp only [Act.put, zt, zz, zs, i64_w, i32_w]; rfl)
                     refine pure_ (i := 10) (N := some 102) (v := ?_) (a' := ?_) #[T_,T_,T_,T_,F_,T_,T_,T_,T_,F_,T_,F_,F_,F_,F_,F_,F_,F_,F_] rfl rfl (any_of HT_.out (by kernel_rfl)) (fun _ _ _ h => h) (Or.inl ⟨by rfl, ?_⟩) ?_ ?_; rotate_left; (intro w'; go_simp; with_reducible rfl); rotate_left; (simp only [Act.put, zt, zz, zs, i64_w, i32_w]; rfl)
                     refine pure_ (i := 11) (N := some 103) (v := ?_) (a' := ?_) #[T_,T_,T_,T_,F_,T_,T_,T_,T_,F_,T_,T_,F_,F_,F_,F_,F_,F_,F_] rfl rfl (any_of HT_.out (by kernel_rfl)) (fun _ _ _ h => h) (Or.inl ⟨by rfl, ?_⟩) ?_ ?_; rotate_left; (intro w'; go_simp; with_reducible rfl); rotate_left; (simp only [Act.put, zt, zz, zs, i64_w, i32_w]; rfl)
                     refine take_ (i := 4) (N := some 96) (v := ?_) (a' := ?_) #[T_,T_,T_,T_,T_,T_,T_,T_,T_,F_,T_,T_,F_,F_,F_,F_,F_,F_,F_] rfl rfl (take_ofW HT_.out HW_.out (by kernel_rfl)) (fun _ _ _ h => h) (Or.inl ⟨by rfl, ?_⟩) hHeld ?_ ?_; rotate_left; (rintro w' ⟨s0, s1, s2, s3, s4, s5⟩; go_simp; with_reducible rfl); rotate_left; (simp only [Act.put, zt, zz, zs, i64_w, i32_w]; rfl)
                     refine take_ (i := 9) (N := some 101) (v := ?_) (a' := ?_) #[T_,T_,T_,T_,T_,T_,T_,T_,T_,T_,T_,T_,F_,F_,F_,F_,F_,F_,F_] rfl rfl (take_ofW HT_.out HW_.out (by kernel_rfl)) (fun _ _ _ h => h) (Or.inl ⟨by rfl, ?_⟩) hHeld ?_ ?_; rotate_left; (rintro w' ⟨s0, s1, s2, s3, s4, s5⟩; go_simp; with_reducible rfl); rotate_left; (simp only [Act.put, zt, zz, zs, i64_w, i32_w]; rfl)
                     refine join_ (σ := Value × Nat) 2 #[T_,T_,T_,T_,T_,T_,T_,T_,T_,T_,T_,T_,T_,T_,T_,T_,T_,F_,F_] (fun s_ => [(104, .tuple #[.agg #[.int .i64 t311, s_.1], .bool true]), (14, .pointer (some ⟨s_.2, 0, none⟩)), (91, .tuple #[.agg #[.int .i64 t311, s_.1], .bool true]), (105, .agg #[.int .i64 t311, s_.1]), (106, .bool true)]) (fun s_ w' => (w'.cell? (ad309.add ((x12_2).toNat * 3)) = some (.int .i64 ((rd_T70 l0 x12_2).f0.f0)) ∧ w'.cell? ⟨(ad309.add ((x12_2).toNat * 3)).block, (ad309.add ((x12_2).toNat * 3)).off + 1, none⟩ = some (.slice A309_1 ((rd_T70 l0 x12_2).f0.f1).length c309_1) ∧ w'.cell? ⟨(ad309.add ((x12_2).toNat * 3)).block, (ad309.add ((x12_2).toNat * 3)).off + 2, none⟩ = some (.bool ((rd_T70 l0 x12_2).f1)) ∧ w'.cell? (ad309.add ((x13_3).toNat * 3)) = some (.int .i64 ((rd_T70 l0 x13_3).f0.f0)) ∧ w'.cell? ⟨(ad309.add ((x13_3).toNat * 3)).block, (ad309.add ((x13_3).toNat * 3)).off + 1, none⟩ = some (.slice A310_1 ((rd_T70 l0 x13_3).f0.f1).length c310_1) ∧ w'.cell? ⟨(ad309.add ((x13_3).toNat * 3)).block, (ad309.add ((x13_3).toNat * 3)).off + 2, none⟩ = some (.bool ((rd_T70 l0 x13_3).f1))) ∧ (Kd.V k68 68 w' w.heap.size (fun k_ => (P0_ k_ ∨ w.heap.size ≤ k_) ∧ some k_ ≠ (s_.1 : Value).ownBlock ∧ some k_ ≠ (u10 : Value).ownBlock ∧ k_ ≠ s_.2) (.slice A309_1 ((rd_T70 l0 x12_2).f0.f1).length c309_1) ((rd_T70 l0 x12_2).f0.f1)) ∧ (Kd.V k68 68 w' w.heap.size (fun k_ => (P0_ k_ ∨ w.heap.size ≤ k_) ∧ some k_ ≠ (s_.1 : Value).ownBlock ∧ some k_ ≠ (u10 : Value).ownBlock ∧ k_ ≠ s_.2) (.slice A310_1 ((rd_T70 l0 x13_3).f0.f1).length c310_1) ((rd_T70 l0 x13_3).f0.f1)) ∧ (Kd.R k68 68 w' w.heap.size (fun k_ => (w.heap.size ≤ k_)) s_.1 t312) ∧ (Kd.V k70 70 w' w.heap.size (fun k_ => (P0_ k_ ∨ w.heap.size ≤ k_) ∧ some k_ ≠ (s_.1 : Value).ownBlock ∧ some k_ ≠ (u10 : Value).ownBlock ∧ k_ ≠ s_.2) (.slice (some ad309) l0.length c0) l0) ∧ (Kd.N k77 77 w' w.heap.size (fun k_ => (P0_ k_ ∨ w.heap.size ≤ k_) ∧ some k_ ≠ (s_.1 : Value).ownBlock ∧ k_ ≠ s_.2) u10 x10_3) ∧ (w'.heap[s_.2]? = some (.cells #[.int .i64 0, .slice none 0 0] 62 (0, 0))) ∧ (w.heap.size ≤ s_.2) ∧ (w.heap.size ≤ s_.2) ∧ (Below w.heap.size w w')) ?_ ?_
                     rotate_left
                     ·intro hCont
                      refine two_ (i := 12) (j := 16) (Ni := some 104) (Nj := some 14) #[T_,T_,T_,T_,T_,T_,T_,T_,T_,T_,T_,T_,T_,F_,F_,F_,F_,F_,F_] #[T_,T_,T_,T_,T_,T_,T_,T_,T_,T_,T_,T_,F_,F_,F_,F_,T_,F_,F_] rfl rfl rfl rfl (two_of HT_.out (by kernel_rfl)) (by decide) (by decide) (fun K hK => ?_) (fun K hK => ?_)
                      ·skip
                       refine goes_ Try.func43 (by kernel_rfl) rfl #[.agg #[.int .i64 ((rd_T70 l0 x12_2).f0.f0), .slice A309_1 ((rd_T70 l0 x12_2).f0.f1).length c309_1], .agg #[.int .i64 ((rd_T70 l0 x13_3).f0.f0), .slice A310_1 ((rd_T70 l0 x13_3).f0.f1).length c310_1], .int .i64 a1, .bool a2] (by rfl) rfl rfl (by (try simp only [List.map_toArray, List.map_cons, List.map_nil]); first | done | rfl | (simp only [List.length_drop, List.length_take]; rfl)) ?_
                       with_reducible refine (sequiturref30_pair.calls kj21 ((rd_T70 l0 x12_2).f0.f0) _ _ ((rd_T70 l0 x12_2).f0.f1) ((rd_T70 l0 x13_3).f0.f0) _ _ ((rd_T70 l0 x13_3).f0.f1) a1 a2 t311 t312 true _ ?side1 ?side2 ?side3 ?side4 A37.out).mono ?_
                       (case side1 => repeat (first | exact (by repeat (first | (with_reducible exact HR309_1.out) | (with_reducible refine cA ?_ _) | (with_reducible refine cN ?_ _) | (with_reducible refine cD ?_) | exact HR309_1.out)) | (with_reducible refine cA ?_ _) | (with_reducible refine cN ?_ _) | (with_reducible refine cD ?_)))
                       (case side2 => exact HC309_1.out)
                       (case side3 => repeat (first | exact (by repeat (first | (with_reducible exact HR310_1.out) | (with_reducible refine cA ?_ _) | (with_reducible refine cN ?_ _) | (with_reducible refine cD ?_) | exact HR310_1.out)) | (with_reducible refine cA ?_ _) | (with_reducible refine cN ?_ _) | (with_reducible refine cD ?_)))
                       (case side4 => exact HC310_1.out)
                       rintro e w41 ⟨v313, rfl, ho0, hb⟩
                       have HS0_ := (hb.cell (World.block_lt_of_cell? _ _ (hHeld.1))).trans (hHeld.1)
                       have HS1_ := (hb.cell (World.block_lt_of_cell? _ _ (hHeld.2.1))).trans (hHeld.2.1)
                       have HS2_ := (hb.cell (World.block_lt_of_cell? _ _ (hHeld.2.2.1))).trans (hHeld.2.2.1)
                       have HS3_ := (hb.cell (World.block_lt_of_cell? _ _ (hHeld.2.2.2.1))).trans (hHeld.2.2.2.1)
                       have HS4_ := (hb.cell (World.block_lt_of_cell? _ _ (hHeld.2.2.2.2.1))).trans (hHeld.2.2.2.2.1)
                       have HS5_ := (hb.cell (World.block_lt_of_cell? _ _ (hHeld.2.2.2.2.2))).trans (hHeld.2.2.2.2.2)
                       refine ⟨_, rfl, ?_⟩
                       replace HO_0 := zK (Kd.V_elder' (zv HO_0) (Kd.R_base ho0) hb)
                       replace HO_10 := zK (Kd.N_elder' (zn HO_10) (Kd.R_base ho0) hb)
                       replace HL309_1 := zK (Kd.V_elder' (zv HL309_1) (Kd.R_base ho0) hb)
                       replace HL310_1 := zK (Kd.V_elder' (zv HL310_1) (Kd.R_base ho0) hb)
                       have HO314 := zK (Kd.R_lower (Kd.R_newM (M := fun k_ => (w.heap.size ≤ k_)) ho0 (below_size (zo HB)) (fun k_ h_ => h_)) (below_size (zo HB)))
                       replace HR309_1 := zK (Kd.C_below (by repeat (first | (with_reducible exact HR309_1.out) | (with_reducible refine cA ?_ _) | (with_reducible refine cN ?_ _) | (with_reducible refine cD ?_) | exact HR309_1.out)) hb)
                       replace HR310_1 := zK (Kd.C_below (by repeat (first | (with_reducible exact HR310_1.out) | (with_reducible refine cA ?_ _) | (with_reducible refine cN ?_ _) | (with_reducible refine cD ?_) | exact HR310_1.out)) hb)
                       replace HB := zK (below_step (zo HB) hb)
                       (try clear hb); (try clear hb2); (try clear hk); (try clear hi)
                       (try clear ho0)
                       refine hK.out _ _ ⟨HS0_, HS1_, HS2_, HS3_, HS4_, HS5_⟩ (fun hHeld => ?_)
                       clear hK K
                       refine norm_ (a' := ?_) ?_ ?_; rotate_left; (show Act.put _ (some 104) _ = _; simp only [Act.put, zt, zz, zs, i64_w, i32_w]; rfl)
                       refine pure_ (i := 13) (N := some 91) (v := ?_) (a' := ?_) #[T_,T_,T_,T_,T_,T_,T_,T_,T_,T_,T_,T_,T_,T_,F_,F_,F_,F_,F_] rfl rfl (any_of HT_.out (by kernel_rfl)) (fun _ _ _ h => h) (Or.inl ⟨by rfl, ?_⟩) ?_ ?_; rotate_left; (intro w'; go_simp; with_reducible rfl); rotate_left; (simp only [Act.put, zt, zz, zs, i64_w, i32_w]; rfl)
                       refine pure_ (i := 14) (N := some 105) (v := ?_) (a' := ?_) #[T_,T_,T_,T_,T_,T_,T_,T_,T_,T_,T_,T_,T_,T_,T_,F_,F_,F_,F_] rfl rfl (any_of HT_.out (by kernel_rfl)) (fun _ _ _ h => h) (Or.inl ⟨by rfl, ?_⟩) ?_ ?_; rotate_left; (intro w'; go_simp; with_reducible rfl); rotate_left; (simp only [Act.put, zt, zz, zs, i64_w, i32_w]; rfl)
                       refine pure_ (i := 15) (N := some 106) (v := ?_) (a' := ?_) #[T_,T_,T_,T_,T_,T_,T_,T_,T_,T_,T_,T_,T_,T_,T_,T_,F_,F_,F_] rfl rfl (any_of HT_.out (by kernel_rfl)) (fun _ _ _ h => h) (Or.inl ⟨by rfl, ?_⟩) ?_ ?_; rotate_left; (intro w'; go_simp; with_reducible rfl); rotate_left; (simp only [Act.put, zt, zz, zs, i64_w, i32_w]; rfl)
                       refine one_ (i := 16) (N := some 14) #[T_,T_,T_,T_,T_,T_,T_,T_,T_,T_,T_,T_,T_,T_,T_,T_,T_,F_,F_] rfl rfl (one_of HT_.out (by kernel_rfl)) (by decide) (fun K hK => ?_)
                       refine box_step ?hg (N := 14) ?hd (cs := #[.int .i64 0, .slice none 0 0]) (t := 62) ?hr ?_; (case hd => rfl); (case hg => rfl); (case hr => first | (go_simp; done) | (go_simp; rfl))
                       intro gb316 hg w42 hbox hb
                       have HS0_ := (hb.cell (World.block_lt_of_cell? _ _ (hHeld.1))).trans (hHeld.1)
                       have HS1_ := (hb.cell (World.block_lt_of_cell? _ _ (hHeld.2.1))).trans (hHeld.2.1)
                       have HS2_ := (hb.cell (World.block_lt_of_cell? _ _ (hHeld.2.2.1))).trans (hHeld.2.2.1)
                       have HS3_ := (hb.cell (World.block_lt_of_cell? _ _ (hHeld.2.2.2.1))).trans (hHeld.2.2.2.1)
                       have HS4_ := (hb.cell (World.block_lt_of_cell? _ _ (hHeld.2.2.2.2.1))).trans (hHeld.2.2.2.2.1)
                       have HS5_ := (hb.cell (World.block_lt_of_cell? _ _ (hHeld.2.2.2.2.2))).trans (hHeld.2.2.2.2.2)
                       replace HO_0 := zK (Kd.V_below (Kd.V_elderB (zv HO_0) gb316 (Nat.le_of_eq hg.symm)) hb)
                       replace HO_10 := zK (Kd.N_below (Kd.N_elderB (zn HO_10) gb316 (Nat.le_of_eq hg.symm)) hb)
                       replace HL309_1 := zK (Kd.V_below (Kd.V_elderB (zv HL309_1) gb316 (Nat.le_of_eq hg.symm)) hb)
                       replace HL310_1 := zK (Kd.V_below (Kd.V_elderB (zv HL310_1) gb316 (Nat.le_of_eq hg.symm)) hb)
                       replace HO314 := zK (Kd.R_below (zr HO314) hb)
                       replace HR309_1 := zK (Kd.C_below (by repeat (first | (with_reducible exact HR309_1.out) | (with_reducible refine cA ?_ _) | (with_reducible refine cN ?_ _) | (with_reducible refine cD ?_) | exact HR309_1.out)) hb)
                       replace HR310_1 := zK (Kd.C_below (by repeat (first | (with_reducible exact HR310_1.out) | (with_reducible refine cA ?_ _) | (with_reducible refine cN ?_ _) | (with_reducible refine cD ?_) | exact HR310_1.out)) hb)
                       have BK316 := zK (hbox)
                       have GW316 := zK ((by rw [hg]; exact (below_size (zo HB)) : w.heap.size ≤ gb316))
                       have GE316 := zK ((by rw [hg]; exact (below_size (zo HB)) : w.heap.size ≤ gb316))
                       replace HB := zK (below_step (zo HB) hb); clear hb hbox hg
                       refine hK.out _ _ ⟨HS0_, HS1_, HS2_, HS3_, HS4_, HS5_⟩ (fun hHeld => ?_)
                       clear hK K
                       refine norm_ (a' := ?_) ?_ ?_; rotate_left; (show Act.put _ (some 14) _ = _; simp only [Act.put, zt, zz, zs, i64_w, i32_w]; rfl)
                       exact norm_ (by simp only [putAll, Act.put, zt, zz, zs]) (hCont (v313, gb316) _ ⟨hHeld, (by (with_reducible repeat (first | apply vA | apply vN | apply vD)); exact vM HL309_1.out (fun _ hk => ⟨hk.1.1.1, ⟨hk.1.2, ⟨hk.1.1.2, hk.2⟩⟩⟩)), (by (with_reducible repeat (first | apply vA | apply vN | apply vD)); exact vM HL310_1.out (fun _ hk => ⟨hk.1.1.1, ⟨hk.1.2, ⟨hk.1.1.2, hk.2⟩⟩⟩)), (by (with_reducible repeat (first | apply Kd.R_alloc | apply Kd.R_drewN | apply Kd.R_drew)); exact Kd.R_mono HO314.out (fun _ hk => hk.1)), (by (with_reducible repeat (first | apply vA | apply vN | apply vD)); exact vM HO_0.out (fun _ hk => ⟨hk.1.1.1, ⟨hk.1.2, ⟨hk.1.1.2, hk.2⟩⟩⟩)), (by (with_reducible repeat (first | apply nA | apply nN | apply nD)); exact Kd.N_mono HO_10.out (fun _ hk => ⟨hk.1.1, ⟨hk.1.2, hk.2⟩⟩)), (zb BK316), GW316.out, GE316.out, (zo HB)⟩)
                      ·skip
                       refine box_step ?hg (N := 14) ?hd (cs := #[.int .i64 0, .slice none 0 0]) (t := 62) ?hr ?_; (case hd => rfl); (case hg => rfl); (case hr => first | (go_simp; done) | (go_simp; rfl))
                       intro gb316 hg w41 hbox hb
                       have HS0_ := (hb.cell (World.block_lt_of_cell? _ _ (hHeld.1))).trans (hHeld.1)
                       have HS1_ := (hb.cell (World.block_lt_of_cell? _ _ (hHeld.2.1))).trans (hHeld.2.1)
                       have HS2_ := (hb.cell (World.block_lt_of_cell? _ _ (hHeld.2.2.1))).trans (hHeld.2.2.1)
                       have HS3_ := (hb.cell (World.block_lt_of_cell? _ _ (hHeld.2.2.2.1))).trans (hHeld.2.2.2.1)
                       have HS4_ := (hb.cell (World.block_lt_of_cell? _ _ (hHeld.2.2.2.2.1))).trans (hHeld.2.2.2.2.1)
                       have HS5_ := (hb.cell (World.block_lt_of_cell? _ _ (hHeld.2.2.2.2.2))).trans (hHeld.2.2.2.2.2)
                       replace HO_0 := zK (Kd.V_below (Kd.V_elderB (zv HO_0) gb316 (Nat.le_of_eq hg.symm)) hb)
                       replace HO_10 := zK (Kd.N_below (Kd.N_elderB (zn HO_10) gb316 (Nat.le_of_eq hg.symm)) hb)
                       replace HL309_1 := zK (Kd.V_below (Kd.V_elderB (zv HL309_1) gb316 (Nat.le_of_eq hg.symm)) hb)
                       replace HL310_1 := zK (Kd.V_below (Kd.V_elderB (zv HL310_1) gb316 (Nat.le_of_eq hg.symm)) hb)
                       replace HR309_1 := zK (Kd.C_below (by repeat (first | (with_reducible exact HR309_1.out) | (with_reducible refine cA ?_ _) | (with_reducible refine cN ?_ _) | (with_reducible refine cD ?_) | exact HR309_1.out)) hb)
                       replace HR310_1 := zK (Kd.C_below (by repeat (first | (with_reducible exact HR310_1.out) | (with_reducible refine cA ?_ _) | (with_reducible refine cN ?_ _) | (with_reducible refine cD ?_) | exact HR310_1.out)) hb)
                       have BK316 := zK (hbox)
                       have GW316 := zK ((by rw [hg]; exact (below_size (zo HB)) : w.heap.size ≤ gb316))
                       have GE316 := zK ((by rw [hg]; exact (below_size (zo HB)) : w.heap.size ≤ gb316))
                       replace HB := zK (below_step (zo HB) hb); clear hb hbox hg
                       refine hK.out _ _ ⟨HS0_, HS1_, HS2_, HS3_, HS4_, HS5_⟩ (fun hHeld => ?_)
                       clear hK K
                       refine norm_ (a' := ?_) ?_ ?_; rotate_left; (show Act.put _ (some 14) _ = _; simp only [Act.put, zt, zz, zs, i64_w, i32_w]; rfl)
                       refine one_ (i := 12) (N := some 104) #[T_,T_,T_,T_,T_,T_,T_,T_,T_,T_,T_,T_,T_,F_,F_,F_,T_,F_,F_] rfl rfl (one_of HT_.out (by kernel_rfl)) (by decide) (fun K hK => ?_)
                       refine goes_ Try.func43 (by kernel_rfl) rfl #[.agg #[.int .i64 ((rd_T70 l0 x12_2).f0.f0), .slice A309_1 ((rd_T70 l0 x12_2).f0.f1).length c309_1], .agg #[.int .i64 ((rd_T70 l0 x13_3).f0.f0), .slice A310_1 ((rd_T70 l0 x13_3).f0.f1).length c310_1], .int .i64 a1, .bool a2] (by rfl) rfl rfl (by (try simp only [List.map_toArray, List.map_cons, List.map_nil]); first | done | rfl | (simp only [List.length_drop, List.length_take]; rfl)) ?_
                       with_reducible refine (sequiturref30_pair.calls kj21 ((rd_T70 l0 x12_2).f0.f0) _ _ ((rd_T70 l0 x12_2).f0.f1) ((rd_T70 l0 x13_3).f0.f0) _ _ ((rd_T70 l0 x13_3).f0.f1) a1 a2 t311 t312 true _ ?side1 ?side2 ?side3 ?side4 A37.out).mono ?_
                       (case side1 => repeat (first | exact (by repeat (first | (with_reducible exact HR309_1.out) | (with_reducible refine cA ?_ _) | (with_reducible refine cN ?_ _) | (with_reducible refine cD ?_) | exact HR309_1.out)) | (with_reducible refine cA ?_ _) | (with_reducible refine cN ?_ _) | (with_reducible refine cD ?_)))
                       (case side2 => exact HC309_1.out)
                       (case side3 => repeat (first | exact (by repeat (first | (with_reducible exact HR310_1.out) | (with_reducible refine cA ?_ _) | (with_reducible refine cN ?_ _) | (with_reducible refine cD ?_) | exact HR310_1.out)) | (with_reducible refine cA ?_ _) | (with_reducible refine cN ?_ _) | (with_reducible refine cD ?_)))
                       (case side4 => exact HC310_1.out)
                       rintro e w42 ⟨v313, rfl, ho0, hb⟩
                       have HS0_ := (hb.cell (World.block_lt_of_cell? _ _ (hHeld.1))).trans (hHeld.1)
                       have HS1_ := (hb.cell (World.block_lt_of_cell? _ _ (hHeld.2.1))).trans (hHeld.2.1)
                       have HS2_ := (hb.cell (World.block_lt_of_cell? _ _ (hHeld.2.2.1))).trans (hHeld.2.2.1)
                       have HS3_ := (hb.cell (World.block_lt_of_cell? _ _ (hHeld.2.2.2.1))).trans (hHeld.2.2.2.1)
                       have HS4_ := (hb.cell (World.block_lt_of_cell? _ _ (hHeld.2.2.2.2.1))).trans (hHeld.2.2.2.2.1)
                       have HS5_ := (hb.cell (World.block_lt_of_cell? _ _ (hHeld.2.2.2.2.2))).trans (hHeld.2.2.2.2.2)
                       refine ⟨_, rfl, ?_⟩
                       replace HO_0 := zK (Kd.V_elder' (zv HO_0) (Kd.R_base ho0) hb)
                       replace HO_10 := zK (Kd.N_elder' (zn HO_10) (Kd.R_base ho0) hb)
                       replace HL309_1 := zK (Kd.V_elder' (zv HL309_1) (Kd.R_base ho0) hb)
                       replace HL310_1 := zK (Kd.V_elder' (zv HL310_1) (Kd.R_base ho0) hb)
                       have HO314 := zK (Kd.R_lower (Kd.R_newM (M := fun k_ => (w.heap.size ≤ k_)) ho0 (below_size (zo HB)) (fun k_ h_ => h_)) (below_size (zo HB)))
                       replace HR309_1 := zK (Kd.C_below (by repeat (first | (with_reducible exact HR309_1.out) | (with_reducible refine cA ?_ _) | (with_reducible refine cN ?_ _) | (with_reducible refine cD ?_) | exact HR309_1.out)) hb)
                       replace HR310_1 := zK (Kd.C_below (by repeat (first | (with_reducible exact HR310_1.out) | (with_reducible refine cA ?_ _) | (with_reducible refine cN ?_ _) | (with_reducible refine cD ?_) | exact HR310_1.out)) hb)
                       replace BK316 := zK (blk_below (g := gb316) (o := .cells #[.int .i64 0, .slice none 0 0] 62 (0, 0)) (zb BK316) hb)
                       replace HB := zK (below_step (zo HB) hb)
                       (try clear hb); (try clear hb2); (try clear hk); (try clear hi)
                       (try clear ho0)
                       refine hK.out _ _ ⟨HS0_, HS1_, HS2_, HS3_, HS4_, HS5_⟩ (fun hHeld => ?_)
                       clear hK K
                       refine norm_ (a' := ?_) ?_ ?_; rotate_left; (show Act.put _ (some 104) _ = _; simp only [Act.put, zt, zz, zs, i64_w, i32_w]; rfl)
                       refine pure_ (i := 13) (N := some 91) (v := ?_) (a' := ?_) #[T_,T_,T_,T_,T_,T_,T_,T_,T_,T_,T_,T_,T_,T_,F_,F_,T_,F_,F_] rfl rfl (any_of HT_.out (by kernel_rfl)) (fun _ _ _ h => h) (Or.inl ⟨by rfl, ?_⟩) ?_ ?_; rotate_left; (intro w'; go_simp; with_reducible rfl); rotate_left; (simp only [Act.put, zt, zz, zs, i64_w, i32_w]; rfl)
                       refine pure_ (i := 14) (N := some 105) (v := ?_) (a' := ?_) #[T_,T_,T_,T_,T_,T_,T_,T_,T_,T_,T_,T_,T_,T_,T_,F_,T_,F_,F_] rfl rfl (any_of HT_.out (by kernel_rfl)) (fun _ _ _ h => h) (Or.inl ⟨by rfl, ?_⟩) ?_ ?_; rotate_left; (intro w'; go_simp; with_reducible rfl); rotate_left; (simp only [Act.put, zt, zz, zs, i64_w, i32_w]; rfl)
                       refine pure_ (i := 15) (N := some 106) (v := ?_) (a' := ?_) #[T_,T_,T_,T_,T_,T_,T_,T_,T_,T_,T_,T_,T_,T_,T_,T_,T_,F_,F_] rfl rfl (any_of HT_.out (by kernel_rfl)) (fun _ _ _ h => h) (Or.inl ⟨by rfl, ?_⟩) ?_ ?_; rotate_left; (intro w'; go_simp; with_reducible rfl); rotate_left; (simp only [Act.put, zt, zz, zs, i64_w, i32_w]; rfl)
                       exact norm_ (by simp only [putAll, Act.put, zt, zz, zs]) (hCont (v313, gb316) _ ⟨hHeld, (by (with_reducible repeat (first | apply vA | apply vN | apply vD)); exact vM HL309_1.out (fun _ hk => ⟨hk.1.1.1, ⟨hk.2, ⟨hk.1.1.2, hk.1.2⟩⟩⟩)), (by (with_reducible repeat (first | apply vA | apply vN | apply vD)); exact vM HL310_1.out (fun _ hk => ⟨hk.1.1.1, ⟨hk.2, ⟨hk.1.1.2, hk.1.2⟩⟩⟩)), (by (with_reducible repeat (first | apply Kd.R_alloc | apply Kd.R_drewN | apply Kd.R_drew)); exact Kd.R_mono HO314.out (fun _ hk => hk.1)), (by (with_reducible repeat (first | apply vA | apply vN | apply vD)); exact vM HO_0.out (fun _ hk => ⟨hk.1.1.1, ⟨hk.2, ⟨hk.1.1.2, hk.1.2⟩⟩⟩)), (by (with_reducible repeat (first | apply nA | apply nN | apply nD)); exact Kd.N_mono HO_10.out (fun _ hk => ⟨hk.1.1, ⟨hk.2, hk.1.2⟩⟩)), (zb BK316), GW316.out, GE316.out, (zo HB)⟩)
                     rintro ⟨v313, gb316⟩ w43 ⟨hS_, h0_, h1_, h2_, h3_, h4_, h5_, h6_, h7_, h8_⟩
                     have n0_ : Aside0 (Kd.V k68 68 w43 w.heap.size (fun k_ => (P0_ k_ ∨ w.heap.size ≤ k_) ∧ some k_ ≠ (v313 : Value).ownBlock ∧ some k_ ≠ (u10 : Value).ownBlock ∧ k_ ≠ gb316) (.slice A309_1 ((rd_T70 l0 x12_2).f0.f1).length c309_1) ((rd_T70 l0 x12_2).f0.f1)) := ⟨h0_⟩
                     have n1_ : Aside0 (Kd.V k68 68 w43 w.heap.size (fun k_ => (P0_ k_ ∨ w.heap.size ≤ k_) ∧ some k_ ≠ (v313 : Value).ownBlock ∧ some k_ ≠ (u10 : Value).ownBlock ∧ k_ ≠ gb316) (.slice A310_1 ((rd_T70 l0 x13_3).f0.f1).length c310_1) ((rd_T70 l0 x13_3).f0.f1)) := ⟨h1_⟩
                     have n2_ : Aside0 (Kd.R k68 68 w43 w.heap.size (fun k_ => (w.heap.size ≤ k_)) v313 t312) := ⟨h2_⟩
                     have n3_ : Aside0 (Kd.V k70 70 w43 w.heap.size (fun k_ => (P0_ k_ ∨ w.heap.size ≤ k_) ∧ some k_ ≠ (v313 : Value).ownBlock ∧ some k_ ≠ (u10 : Value).ownBlock ∧ k_ ≠ gb316) (.slice (some ad309) l0.length c0) l0) := ⟨h3_⟩
                     have n4_ : Aside0 (Kd.N k77 77 w43 w.heap.size (fun k_ => (P0_ k_ ∨ w.heap.size ≤ k_) ∧ some k_ ≠ (v313 : Value).ownBlock ∧ k_ ≠ gb316) u10 x10_3) := ⟨h4_⟩
                     have n5_ : Aside0 (w43.heap[gb316]? = some (.cells #[.int .i64 0, .slice none 0 0] 62 (0, 0))) := ⟨h5_⟩
                     have n6_ : Aside0 (w.heap.size ≤ gb316) := ⟨h6_⟩
                     have n7_ : Aside0 (w.heap.size ≤ gb316) := ⟨h7_⟩
                     have n8_ : Aside0 (Below w.heap.size w w43) := ⟨h8_⟩
                     clear HO_0 HO_10 HB h0_ h1_ h2_ h3_ h4_ h5_ h6_ h7_ h8_
                     have HL309_1 := n0_
                     have HL310_1 := n1_
                     have HO314 := n2_
                     have HO_0 := n3_
                     have HO_10 := n4_
                     have BK316 := n5_
                     have GW316 := n6_
                     have GE316 := n7_
                     have HB := n8_; clear n0_ n1_ n2_ n3_ n4_ n5_ n6_ n7_ n8_
                     have hHeld : w43.cell? (ad309.add ((x12_2).toNat * 3)) = some (.int .i64 ((rd_T70 l0 x12_2).f0.f0)) ∧ w43.cell? ⟨(ad309.add ((x12_2).toNat * 3)).block, (ad309.add ((x12_2).toNat * 3)).off + 1, none⟩ = some (.slice A309_1 ((rd_T70 l0 x12_2).f0.f1).length c309_1) ∧ w43.cell? ⟨(ad309.add ((x12_2).toNat * 3)).block, (ad309.add ((x12_2).toNat * 3)).off + 2, none⟩ = some (.bool ((rd_T70 l0 x12_2).f1)) ∧ w43.cell? (ad309.add ((x13_3).toNat * 3)) = some (.int .i64 ((rd_T70 l0 x13_3).f0.f0)) ∧ w43.cell? ⟨(ad309.add ((x13_3).toNat * 3)).block, (ad309.add ((x13_3).toNat * 3)).off + 1, none⟩ = some (.slice A310_1 ((rd_T70 l0 x13_3).f0.f1).length c310_1) ∧ w43.cell? ⟨(ad309.add ((x13_3).toNat * 3)).block, (ad309.add ((x13_3).toNat * 3)).off + 2, none⟩ = some (.bool ((rd_T70 l0 x13_3).f1)) := hS_
                     obtain ⟨Ao45, co45, eo45⟩ := Kd.R_slice HO314.out
                     (first | subst eo45 | (injection eo45 with f1_ f2_ f3_; have f4_ := f1_.symm; have f5_ := f3_.symm; clear f1_ f2_ f3_; subst f4_; subst f5_))
                     refine norm_ (a' := ?_) ?_ ?_
                     rotate_left
                     ·simp only [putAll, Act.put, zt, zz, zs]
                      rfl
                     refine one_ (i := 17) (N := none) #[T_,T_,T_,T_,T_,T_,T_,T_,T_,T_,T_,T_,T_,T_,T_,T_,T_,T_,F_] rfl rfl (one_of HT_.out (by kernel_rfl)) (by decide) (fun K hK => ?_)
                     have hs44 : w43.cell? ⟨gb316, 0, none⟩ = some (.int .i64 0) := (blk_cell BK316.out 0).trans rfl
                     have hfs44 := blk_frozen BK316.out 0
                     have hs46 : w43.cell? ⟨gb316, 1, none⟩ = some (.slice none 0 0) := (blk_cell BK316.out 1).trans rfl
                     have hfs46 := blk_frozen BK316.out 1
                     refine skip_ (w1 := ?_) (by rfl) rfl ?_ ?_
                     rotate_left
                     ·go_simp
                      rfl
                     have hn0_ := V_apart10 HO_0.out hHeld.1 (fun W' h' => by obtain ⟨ad309_, A309_1, c309_1, e309, hx309_0, hx309_1, hx309_2, hl309_1, hi309_1⟩ := at_T70 (Kd.V_reads' h').2.2 x12_2 (of_eq_true p309) (of_eq_true q309); cases e309; exact hx309_0) (g := gb316) (fun _ hk => hk.2.2.2)
                     refine hK.out _ _ ⟨(cellA10 hn0_ ((cellA10 hn0_ (hHeld.1)))), (cellB10 hn0_ ((cellB10 hn0_ (hHeld.2.1)))), (cellB10 hn0_ ((cellB10 hn0_ (hHeld.2.2.1)))), (cellA10 hn0_ ((cellA10 hn0_ (hHeld.2.2.2.1)))), (cellB10 hn0_ ((cellB10 hn0_ (hHeld.2.2.2.2.1)))), (cellB10 hn0_ ((cellB10 hn0_ (hHeld.2.2.2.2.2))))⟩ (fun hHeld => ?_)
                     clear hK K
                     refine pure_ (i := 18) (N := some 15) (v := ?_) (a' := ?_) #[T_,T_,T_,T_,T_,T_,T_,T_,T_,T_,T_,T_,T_,T_,T_,T_,T_,T_,T_] rfl rfl (any_of HT_.out (by kernel_rfl)) (fun _ _ _ h => h) (Or.inl ⟨by rfl, ?_⟩) ?_ ?_; rotate_left; (intro w'; go_simp; with_reducible rfl); rotate_left; (simp only [Act.put, zt, zz, zs, i64_w, i32_w]; rfl)
                     refine done_ (done_of HT_.out (by kernel_rfl)) ?_
                     have n0_ : Aside0 (Kd.V k70 70 ((w43.setCell ⟨gb316, 0, none⟩ (.int .i64 t311)).setCell ⟨gb316, 1, none⟩ (.slice Ao45 t312.length co45)) w.heap.size (fun k_ => (P0_ k_ ∨ w.heap.size ≤ k_) ∧ some k_ ≠ (u10 : Value).ownBlock ∧ some k_ ≠ (.slice Ao45 t312.length co45 : Value).ownBlock ∧ k_ ≠ gb316) (.slice (some ad309) l0.length c0) l0) := ⟨by (with_reducible repeat (first | apply vA | apply vN | apply vD)); exact vM (vF (p := ⟨gb316, 1, none⟩) (vF (p := ⟨gb316, 0, none⟩) (vM HO_0.out (fun k_ hk => (⟨hk, hk.2.2.2⟩ : _ ∧ k_ ≠ gb316))) (fun _ hk => hk.2) (.int .i64 t311)) (fun _ hk => hk.2) (.slice Ao45 t312.length co45)) (fun _ hk => ⟨hk.1.1, ⟨hk.1.2.2.1, ⟨hk.1.2.1, hk.1.2.2.2⟩⟩⟩)⟩
                     have n1_ : Aside0 (Kd.N k77 77 ((w43.setCell ⟨gb316, 0, none⟩ (.int .i64 t311)).setCell ⟨gb316, 1, none⟩ (.slice Ao45 t312.length co45)) w.heap.size (fun k_ => (P0_ k_ ∨ w.heap.size ≤ k_) ∧ some k_ ≠ (.slice Ao45 t312.length co45 : Value).ownBlock ∧ k_ ≠ gb316) u10 x10_3) := ⟨by (with_reducible repeat (first | apply nA | apply nN | apply nD)); exact Kd.N_mono (Kd.N_far (p := ⟨gb316, 1, none⟩) (Kd.N_far (p := ⟨gb316, 0, none⟩) (Kd.N_mono HO_10.out (fun k_ hk => (⟨hk, hk.2.2⟩ : _ ∧ k_ ≠ gb316))) (fun _ hk => hk.2) (.int .i64 t311)) (fun _ hk => hk.2) (.slice Ao45 t312.length co45)) (fun _ hk => ⟨hk.1.1, ⟨hk.1.2.1, hk.1.2.2⟩⟩)⟩
                     have n2_ : Aside0 (Kd.V k68 68 ((w43.setCell ⟨gb316, 0, none⟩ (.int .i64 t311)).setCell ⟨gb316, 1, none⟩ (.slice Ao45 t312.length co45)) w.heap.size (fun k_ => (P0_ k_ ∨ w.heap.size ≤ k_) ∧ some k_ ≠ (u10 : Value).ownBlock ∧ some k_ ≠ (.slice Ao45 t312.length co45 : Value).ownBlock ∧ k_ ≠ gb316) (.slice A309_1 ((rd_T70 l0 x12_2).f0.f1).length c309_1) ((rd_T70 l0 x12_2).f0.f1)) := ⟨by (with_reducible repeat (first | apply vA | apply vN | apply vD)); exact vM (vF (p := ⟨gb316, 1, none⟩) (vF (p := ⟨gb316, 0, none⟩) (vM HL309_1.out (fun k_ hk => (⟨hk, hk.2.2.2⟩ : _ ∧ k_ ≠ gb316))) (fun _ hk => hk.2) (.int .i64 t311)) (fun _ hk => hk.2) (.slice Ao45 t312.length co45)) (fun _ hk => ⟨hk.1.1, ⟨hk.1.2.2.1, ⟨hk.1.2.1, hk.1.2.2.2⟩⟩⟩)⟩
                     have n3_ : Aside0 (Kd.V k68 68 ((w43.setCell ⟨gb316, 0, none⟩ (.int .i64 t311)).setCell ⟨gb316, 1, none⟩ (.slice Ao45 t312.length co45)) w.heap.size (fun k_ => (P0_ k_ ∨ w.heap.size ≤ k_) ∧ some k_ ≠ (u10 : Value).ownBlock ∧ some k_ ≠ (.slice Ao45 t312.length co45 : Value).ownBlock ∧ k_ ≠ gb316) (.slice A310_1 ((rd_T70 l0 x13_3).f0.f1).length c310_1) ((rd_T70 l0 x13_3).f0.f1)) := ⟨by (with_reducible repeat (first | apply vA | apply vN | apply vD)); exact vM (vF (p := ⟨gb316, 1, none⟩) (vF (p := ⟨gb316, 0, none⟩) (vM HL310_1.out (fun k_ hk => (⟨hk, hk.2.2.2⟩ : _ ∧ k_ ≠ gb316))) (fun _ hk => hk.2) (.int .i64 t311)) (fun _ hk => hk.2) (.slice Ao45 t312.length co45)) (fun _ hk => ⟨hk.1.1, ⟨hk.1.2.2.1, ⟨hk.1.2.1, hk.1.2.2.2⟩⟩⟩)⟩
                     have n4_ : Aside0 (Kd.R k68 68 ((w43.setCell ⟨gb316, 0, none⟩ (.int .i64 t311)).setCell ⟨gb316, 1, none⟩ (.slice Ao45 t312.length co45)) w.heap.size (fun k_ => (w.heap.size ≤ k_)) (.slice Ao45 t312.length co45) t312) := ⟨by (with_reducible repeat (first | apply Kd.R_alloc | apply Kd.R_drewN | apply Kd.R_drew)); exact Kd.R_mono (Kd.R_far (p := ⟨gb316, 1, none⟩) (Kd.R_far (p := ⟨gb316, 0, none⟩) (Kd.R_types HO314.out BK316.out (by decide)) (fun _ hk => hk.2) (.int .i64 t311)) (fun _ hk => hk.2) (.slice Ao45 t312.length co45)) (fun _ hk => hk.1)⟩
                     have n5_ : Aside0 (((w43.setCell ⟨gb316, 0, none⟩ (.int .i64 t311)).setCell ⟨gb316, 1, none⟩ (.slice Ao45 t312.length co45)).heap[gb316]? = some (.cells #[.int .i64 t311, .slice Ao45 t312.length co45] 62 (0, 0))) := ⟨by refine zM ?_; refine blk_put (cs := #[.int .i64 t311, .slice none 0 0]) ?_ 1 _ rfl; refine zM ?_; refine blk_put (cs := #[.int .i64 0, .slice none 0 0]) ?_ 0 _ rfl; refine zM ?_; exact BK316.out⟩
                     have n6_ : Aside0 (Below w.heap.size w ((w43.setCell ⟨gb316, 0, none⟩ (.int .i64 t311)).setCell ⟨gb316, 1, none⟩ (.slice Ao45 t312.length co45))) := ⟨zo HB⟩
                     (try clear HO_0)
                     (try clear HO_10)
                     (try clear HL309_1)
                     (try clear HL310_1)
                     (try clear HO314)
                     (try clear BK316)
                     (try clear HB)
                     generalize ((w43.setCell ⟨gb316, 0, none⟩ (.int .i64 t311)).setCell ⟨gb316, 1, none⟩ (.slice Ao45 t312.length co45)) = w47 at n0_ n1_ n2_ n3_ n4_ n5_ n6_ ⊢
                     have HO_0 := n0_
                     have HO_10 := n1_
                     have HL309_1 := n2_
                     have HL310_1 := n3_
                     have HO314 := n4_
                     have BK316 := n5_
                     have HB := n6_; clear n0_ n1_ n2_ n3_ n4_ n5_ n6_
                     have hcz48_0 : w47.cell? ⟨gb316, 0, none⟩ = some (.int .i64 t311) := (blk_cell BK316.out 0).trans rfl
                     have hcz48_1 : w47.cell? ⟨gb316, 1, none⟩ = some (.slice Ao45 t312.length co45) := (blk_cell BK316.out 1).trans rfl
                     have hfz48_0 := blk_frozen BK316.out 0
                     have hfz48_1 := blk_frozen BK316.out 1
                     try go_wp2_with (first | ((with_reducible refine gate_builtin (b := .append) (xs := #[.tmp 109, .tmp 115]) rfl ?_); at_builtin; refine Kd.N_append k77 (w0 := w) w.heap.size rfl (.tmp 109) (.tmp 115) 29 77 (.agg #[(.int .i64 0), (.slice none 0 0), (.bool false), (.int .i64 0), (.int .i64 0)]) 56 rfl Try.underlying29 info77 rfl (by decide) (by omega) u10 x10_3 (⟨(⟨(⟨t311, t312⟩ : S62), false⟩ : S70), x12_2, x13_3⟩ : S77) [.int .i64 t311, .slice Ao45 t312.length co45, .bool false, .int .i64 x12_2, .int .i64 x13_3] (fun k_ => (P0_ k_ ∨ w.heap.size ≤ k_) ∧ k_ ≠ gb316) (fun k_ => ((fun k_ => (P0_ k_ ∨ w.heap.size ≤ k_) ∧ k_ ≠ gb316)) k_ ∧ some k_ ≠ (u10 : Value).ownBlock) rfl rfl ?aP (fun _ hk => hk) ?aF ?aO ?aB ?aS ?aL ?_; (case aP => exact (k77_mkF _ _ (⟨(⟨(⟨t311, t312⟩ : S62), false⟩ : S70), x12_2, x13_3⟩ : S77) (Kd.R_reads' (Kd.R_mono (ok' := (fun k_ => ((fun k_ => (P0_ k_ ∨ w.heap.size ≤ k_) ∧ k_ ≠ gb316)) k_ ∧ some k_ ≠ (u10 : Value).ownBlock)) (Kd.R_types (Kd.R_apart' (HO314.out) (Kd.N_typed HO_10.out) (by decide)) BK316.out (by decide)) (fun k_ hk => ⟨⟨(.inr (hk.1.1)), hk.2⟩, hk.1.2⟩))).2.1 (Kd.R_F (Kd.R_mono (ok' := (fun k_ => ((fun k_ => (P0_ k_ ∨ w.heap.size ≤ k_) ∧ k_ ≠ gb316)) k_ ∧ some k_ ≠ (u10 : Value).ownBlock)) (Kd.R_types (Kd.R_apart' (HO314.out) (Kd.N_typed HO_10.out) (by decide)) BK316.out (by decide)) (fun k_ hk => ⟨⟨(.inr (hk.1.1)), hk.2⟩, hk.1.2⟩))))); (case aB => exact (zo HB)); (case aF => exact (fun k_ hk => ⟨(.inr (Nat.le_trans (below_size (zo HB)) hk)), Kd.freshB (g := gb316) (o := .cells #[.int .i64 t311, .slice Ao45 t312.length co45] 62 (0, 0)) (zb BK316) k_ hk⟩)); (case aO => exact (by (with_reducible repeat (first | apply nA | apply nN | apply nD)); exact Kd.N_mono HO_10.out (fun _ hk => ⟨hk.1, hk.2.2⟩))); (case aS => exact (below_size (zo HB))); (case aL => have := LMc39.out; omega); intro v318 w49 ho hb hg hat; rw [← Ny317.out] at ho; replace HO_0 := zK (Kd.V_afterv (ok := (fun k_ => (P0_ k_ ∨ w.heap.size ≤ k_) ∧ some k_ ≠ (.slice Ao45 t312.length co45 : Value).ownBlock ∧ k_ ≠ gb316)) (by (with_reducible repeat (first | apply vA | apply vN | apply vD)); exact vM HO_0.out (fun _ hk => ⟨⟨hk.1, ⟨hk.2.2.1, hk.2.2.2⟩⟩, hk.2.1⟩)) hg hat); replace HL309_1 := zK (Kd.V_afterv (ok := (fun k_ => (P0_ k_ ∨ w.heap.size ≤ k_) ∧ some k_ ≠ (.slice Ao45 t312.length co45 : Value).ownBlock ∧ k_ ≠ gb316)) (by (with_reducible repeat (first | apply vA | apply vN | apply vD)); exact vM HL309_1.out (fun _ hk => ⟨⟨hk.1, ⟨hk.2.2.1, hk.2.2.2⟩⟩, hk.2.1⟩)) hg hat); replace HL310_1 := zK (Kd.V_afterv (ok := (fun k_ => (P0_ k_ ∨ w.heap.size ≤ k_) ∧ some k_ ≠ (.slice Ao45 t312.length co45 : Value).ownBlock ∧ k_ ≠ gb316)) (by (with_reducible repeat (first | apply vA | apply vN | apply vD)); exact vM HL310_1.out (fun _ hk => ⟨⟨hk.1, ⟨hk.2.2.1, hk.2.2.2⟩⟩, hk.2.1⟩)) hg hat); replace BK316 := zK (blk_grown (g := gb316) (o := .cells #[.int .i64 t311, .slice Ao45 t312.length co45] 62 (0, 0)) (zb BK316) hg (Kd.N_ne HO_10.out BK316.out (by decide))); replace HB := zK (hb); have HO319 := zK (ho); clear HO_10 HO314 ho hb hg hat))
                     go_roundg kj21
                     case measure => have := HK1.out; have := HK2.out; have := HK3.out; have := HJ21.out; omega
                     case rel => exact ⟨(y317), (wrap64 (x13_3 + 1)), (by first | rfl | (simp; done) | (simp [*]; done)), H', ⟨by have := HK1.out; have := HK2.out; have := HK3.out; have := HJ21.out; omega⟩, ⟨by (with_reducible repeat (first | apply vA | apply vN | apply vD)); exact vM HO_0.out (fun _ hk => ⟨hk.1.1, hk.2⟩)⟩, ⟨by (with_reducible repeat (first | apply nA | apply nN | apply nD)); exact Kd.N_mono HO319.out (fun _ hk => hk.1)⟩, ⟨zo HB⟩⟩
                    ·rw [if_neg c39] at H
                     exact absurd H (by simp)
                   ·replace c38 := Bool.eq_false_iff.mpr c38
                    subst c38
                    have H1 : (some (([] : List (S77)), 5)) = some (r1, r2) := by rw [if_neg (show ¬ (false = true) by decide)] at H; exact H
                    clear H; have H := H1; clear H1
                    simp only [Option.some.injEq, Prod.mk.injEq] at H
                    obtain ⟨rfl, rfl⟩ := H
                    try go_wp2
                    replace HO_0 := zK (vD HO_0.out)
                    replace HO_10 := zK (nD HO_10.out)
                    replace HB := zK (yD HB.out)
                    have p309 : 0 ≤ (x12_2 : Int) := of_decide_eq_true (by first | (with_reducible assumption) | assumption)
                    have q309 : x12_2 < (l0.length : Int) := of_decide_eq_true (by first | (with_reducible assumption) | assumption)
                    obtain ⟨ad309, A309_1, c309_1, e309, hx309_0, hx309_1, hx309_2, hl309_1, hi309_1⟩ := at_T70 (Kd.V_reads' HO_0.out).2.2 x12_2 p309 q309
                    cases e309
                    obtain ⟨ce309, hce309, hMe309, hcc309⟩ := Kd.V_get HO_0.out z70 x12_2 p309 (by first | exact q309 | exact of_decide_eq_true (by first | (with_reducible assumption) | assumption) | (have e_ := (Kd.V_reads' HO_0.out).1; omega))
                    obtain ⟨ua309_1, uc309_1, rfl, ul309_1, ge309_1⟩ := k70_openF hMe309
                    have hv309_1 := hcc309 1 _ rfl
                    rw [add_field _ _ 1 (by omega)] at hv309_1
                    replace hv309_1 := Option.some.inj (hv309_1.symm.trans hx309_1)
                    injection hv309_1 with hva_ hvn_ hvc_
                    rw [hva_] at ge309_1
                    rw [hvc_] at ul309_1
                    have HL309_1 := zK (show Kd.V k68 68 _ w.heap.size _ _ ((rd_T70 l0 x12_2).f0.f1) from Kd.V_mk ul309_1 ge309_1)
                    clear hva_ hvn_ hvc_ ge309_1 ul309_1 hcc309 hce309
                    have HR309_1 := zK hi309_1
                    have HC309_1 := zK hl309_1; clear hi309_1 hl309_1
                    replace p309 := eq_true p309
                    replace q309 := eq_true q309
                    have p310 : 0 ≤ (x13_3 : Int) := of_decide_eq_true (by first | (with_reducible assumption) | assumption)
                    have q310 : x13_3 < (l0.length : Int) := of_decide_eq_true (by first | (with_reducible assumption) | assumption)
                    obtain ⟨ad310, A310_1, c310_1, e310, hx310_0, hx310_1, hx310_2, hl310_1, hi310_1⟩ := at_T70 (Kd.V_reads' HO_0.out).2.2 x13_3 p310 q310
                    obtain rfl : ad309 = ad310 := (by injection e310)
                    obtain ⟨ce310, hce310, hMe310, hcc310⟩ := Kd.V_get HO_0.out z70 x13_3 p310 (by first | exact q310 | exact of_decide_eq_true (by first | (with_reducible assumption) | assumption) | (have e_ := (Kd.V_reads' HO_0.out).1; omega))
                    obtain ⟨ua310_1, uc310_1, rfl, ul310_1, ge310_1⟩ := k70_openF hMe310
                    have hv310_1 := hcc310 1 _ rfl
                    rw [add_field _ _ 1 (by omega)] at hv310_1
                    replace hv310_1 := Option.some.inj (hv310_1.symm.trans hx310_1)
                    injection hv310_1 with hva_ hvn_ hvc_
                    rw [hva_] at ge310_1
                    rw [hvc_] at ul310_1
                    have HL310_1 := zK (show Kd.V k68 68 _ w.heap.size _ _ ((rd_T70 l0 x13_3).f0.f1) from Kd.V_mk ul310_1 ge310_1)
                    clear hva_ hvn_ hvc_ ge310_1 ul310_1 hcc310 hce310
                    have HR310_1 := zK hi310_1
                    have HC310_1 := zK hl310_1; clear hi310_1 hl310_1
                    replace p310 := eq_true p310
                    replace q310 := eq_true q310
                    refine start_ (n := 19) (S := fun w' => w'.cell? (ad309.add ((x12_2).toNat * 3)) = some (.int .i64 ((rd_T70 l0 x12_2).f0.f0)) ∧ w'.cell? ⟨(ad309.add ((x12_2).toNat * 3)).block, (ad309.add ((x12_2).toNat * 3)).off + 1, none⟩ = some (.slice A309_1 ((rd_T70 l0 x12_2).f0.f1).length c309_1) ∧ w'.cell? ⟨(ad309.add ((x12_2).toNat * 3)).block, (ad309.add ((x12_2).toNat * 3)).off + 2, none⟩ = some (.bool ((rd_T70 l0 x12_2).f1)) ∧ w'.cell? (ad309.add ((x13_3).toNat * 3)) = some (.int .i64 ((rd_T70 l0 x13_3).f0.f0)) ∧ w'.cell? ⟨(ad309.add ((x13_3).toNat * 3)).block, (ad309.add ((x13_3).toNat * 3)).off + 1, none⟩ = some (.slice A310_1 ((rd_T70 l0 x13_3).f0.f1).length c310_1) ∧ w'.cell? ⟨(ad309.add ((x13_3).toNat * 3)).block, (ad309.add ((x13_3).toNat * 3)).off + 2, none⟩ = some (.bool ((rd_T70 l0 x13_3).f1))) (ds := []) #[F_,F_,F_,F_,F_,F_,F_,F_,F_,F_,F_,F_,F_,F_,F_,F_,F_,F_,F_] (by kernel_rfl) rfl rfl ⟨hx309_0, hx309_1, hx309_2, hx310_0, hx310_1, hx310_2⟩ (fun hHeld => ?_); refine with_tabW sequiturref30_Shadow.tab19 sequiturref30_Shadow.bits19 (fun HT_ HW_ => ?_)
                    generalize wc.drew = w50 at HO_0 HO_10 HB HL309_1 HL310_1 HR309_1 HR310_1 hx309_0 hx309_1 hx309_2 hx310_0 hx310_1 hx310_2 hHeld ⊢
                    refine pure_ (i := 0) (N := some 92) (v := ?_) (a' := ?_) #[T_,F_,F_,F_,F_,F_,F_,F_,F_,F_,F_,F_,F_,F_,F_,F_,F_,F_,F_] rfl rfl (any_of HT_.out (by kernel_rfl)) (fun _ _ _ h => h) (Or.inl ⟨by rfl, ?_⟩) ?_ ?_; rotate_left; (intro w'; go_simp; with_reducible rfl); rotate_left; (simp only [Act.put, zt, zz, zs, i64_w, i32_w]; rfl)
                    refine pure_ (i := 1) (N := some 93) (v := ?_) (a' := ?_) #[T_,T_,F_,F_,F_,F_,F_,F_,F_,F_,F_,F_,F_,F_,F_,F_,F_,F_,F_] rfl rfl (any_of HT_.out (by kernel_rfl)) (fun _ _ _ h => h) (Or.inl ⟨by rfl, ?_⟩) ?_ ?_; rotate_left; (intro w'; go_simp; with_reducible rfl); rotate_left; (simp only [Act.put, zt, zz, zs, i64_w, i32_w]; rfl)
                    refine pure_ (i := 2) (N := some 94) (v := ?_) (a' := ?_) #[T_,T_,T_,F_,F_,F_,F_,F_,F_,F_,F_,F_,F_,F_,F_,F_,F_,F_,F_] rfl rfl (any_of HT_.out (by kernel_rfl)) (fun _ _ _ h => h) (Or.inl ⟨by rfl, ?_⟩) ?_ ?_; rotate_left; (intro w'; go_simp; with_reducible rfl); rotate_left; (simp only [Act.put, zt, zz, zs, i64_w, i32_w]; rfl)
                    refine pure_ (i := 3) (N := some 95) (v := ?_) (a' := ?_) #[T_,T_,T_,T_,F_,F_,F_,F_,F_,F_,F_,F_,F_,F_,F_,F_,F_,F_,F_] rfl rfl (any_of HT_.out (by kernel_rfl)) (fun _ _ _ h => h) (Or.inl ⟨by rfl, ?_⟩) ?_ ?_; rotate_left; (intro w'; go_simp; with_reducible rfl); rotate_left; (simp only [Act.put, zt, zz, zs, i64_w, i32_w]; rfl)
                    refine pure_ (i := 5) (N := some 97) (v := ?_) (a' := ?_) #[T_,T_,T_,T_,F_,T_,F_,F_,F_,F_,F_,F_,F_,F_,F_,F_,F_,F_,F_] rfl rfl (any_of HT_.out (by kernel_rfl)) (fun _ _ _ h => h) (Or.inl ⟨by rfl, ?_⟩) ?_ ?_; rotate_left; (intro w'; go_simp; with_reducible rfl); rotate_left; (simp only [Act.put, zt, zz, zs, i64_w, i32_w]; rfl)
                    refine pure_ (i := 6) (N := some 98) (v := ?_) (a' := ?_) #[T_,T_,T_,T_,F_,T_,T_,F_,F_,F_,F_,F_,F_,F_,F_,F_,F_,F_,F_] rfl rfl (any_of HT_.out (by kernel_rfl)) (fun _ _ _ h => h) (Or.inl ⟨by rfl, ?_⟩) ?_ ?_; rotate_left; (intro w'; go_simp; with_reducible rfl); rotate_left; (simp only [Act.put, zt, zz, zs, i64_w, i32_w]; rfl)
                    refine pure_ (i := 7) (N := some 99) (v := ?_) (a' := ?_) #[T_,T_,T_,T_,F_,T_,T_,T_,F_,F_,F_,F_,F_,F_,F_,F_,F_,F_,F_] rfl rfl (any_of HT_.out (by kernel_rfl)) (fun _ _ _ h => h) (Or.inl ⟨by rfl, ?_⟩) ?_ ?_; rotate_left; (intro w'; go_simp; with_reducible rfl); rotate_left; (simp only [Act.put, zt, zz, zs, i64_w, i32_w]; rfl)
                    refine pure_ (i := 8) (N := some 100) (v := ?_) (a' := ?_) #[T_,T_,T_,T_,F_,T_,T_,T_,T_,F_,F_,F_,F_,F_,F_,F_,F_,F_,F_] rfl rfl (any_of HT_.out (by kernel_rfl)) (fun _ _ _ h => h) (Or.inl ⟨by rfl, ?_⟩) ?_ ?_; rotate_left; (intro w'; go_simp; with_reducible rfl); rotate_left; (simp only [Act.put, zt, zz, zs, i64_w, i32_w]; rfl)
                    refine pure_ (i := 10) (N := some 102) (v := ?_) (a' := ?_) #[T_,T_,T_,T_,F_,T_,T_,T_,T_,F_,T_,F_,F_,F_,F_,F_,F_,F_,F_] rfl rfl (any_of HT_.out (by kernel_rfl)) (fun _ _ _ h => h) (Or.inl ⟨by rfl, ?_⟩) ?_ ?_; rotate_left; (intro w'; go_simp; with_reducible rfl); rotate_left; (simp only [Act.put, zt, zz, zs, i64_w, i32_w]; rfl)
                    refine pure_ (i := 11) (N := some 103) (v := ?_) (a' := ?_) #[T_,T_,T_,T_,F_,T_,T_,T_,T_,F_,T_,T_,F_,F_,F_,F_,F_,F_,F_] rfl rfl (any_of HT_.out (by kernel_rfl)) (fun _ _ _ h => h) (Or.inl ⟨by rfl, ?_⟩) ?_ ?_; rotate_left; (intro w'; go_simp; with_reducible rfl); rotate_left; (simp only [Act.put, zt, zz, zs, i64_w, i32_w]; rfl)
                    refine take_ (i := 4) (N := some 96) (v := ?_) (a' := ?_) #[T_,T_,T_,T_,T_,T_,T_,T_,T_,F_,T_,T_,F_,F_,F_,F_,F_,F_,F_] rfl rfl (take_ofW HT_.out HW_.out (by kernel_rfl)) (fun _ _ _ h => h) (Or.inl ⟨by rfl, ?_⟩) hHeld ?_ ?_; rotate_left; (rintro w' ⟨s0, s1, s2, s3, s4, s5⟩; go_simp; with_reducible rfl); rotate_left; (simp only [Act.put, zt, zz, zs, i64_w, i32_w]; rfl)
                    refine take_ (i := 9) (N := some 101) (v := ?_) (a' := ?_) #[T_,T_,T_,T_,T_,T_,T_,T_,T_,T_,T_,T_,F_,F_,F_,F_,F_,F_,F_] rfl rfl (take_ofW HT_.out HW_.out (by kernel_rfl)) (fun _ _ _ h => h) (Or.inl ⟨by rfl, ?_⟩) hHeld ?_ ?_; rotate_left; (rintro w' ⟨s0, s1, s2, s3, s4, s5⟩; go_simp; with_reducible rfl); rotate_left; (simp only [Act.put, zt, zz, zs, i64_w, i32_w]; rfl)
                    refine join_ (σ := Value × Nat) 2 #[T_,T_,T_,T_,T_,T_,T_,T_,T_,T_,T_,T_,T_,T_,T_,T_,T_,F_,F_] (fun s_ => [(104, .tuple #[.agg #[.int .i64 t311, s_.1], .bool false]), (14, .pointer (some ⟨s_.2, 0, none⟩)), (91, .tuple #[.agg #[.int .i64 t311, s_.1], .bool false]), (105, .agg #[.int .i64 t311, s_.1]), (106, .bool false)]) (fun s_ w' => (w'.cell? (ad309.add ((x12_2).toNat * 3)) = some (.int .i64 ((rd_T70 l0 x12_2).f0.f0)) ∧ w'.cell? ⟨(ad309.add ((x12_2).toNat * 3)).block, (ad309.add ((x12_2).toNat * 3)).off + 1, none⟩ = some (.slice A309_1 ((rd_T70 l0 x12_2).f0.f1).length c309_1) ∧ w'.cell? ⟨(ad309.add ((x12_2).toNat * 3)).block, (ad309.add ((x12_2).toNat * 3)).off + 2, none⟩ = some (.bool ((rd_T70 l0 x12_2).f1)) ∧ w'.cell? (ad309.add ((x13_3).toNat * 3)) = some (.int .i64 ((rd_T70 l0 x13_3).f0.f0)) ∧ w'.cell? ⟨(ad309.add ((x13_3).toNat * 3)).block, (ad309.add ((x13_3).toNat * 3)).off + 1, none⟩ = some (.slice A310_1 ((rd_T70 l0 x13_3).f0.f1).length c310_1) ∧ w'.cell? ⟨(ad309.add ((x13_3).toNat * 3)).block, (ad309.add ((x13_3).toNat * 3)).off + 2, none⟩ = some (.bool ((rd_T70 l0 x13_3).f1))) ∧ (Kd.V k68 68 w' w.heap.size (fun k_ => (P0_ k_ ∨ w.heap.size ≤ k_) ∧ some k_ ≠ (s_.1 : Value).ownBlock ∧ some k_ ≠ (u10 : Value).ownBlock ∧ k_ ≠ s_.2) (.slice A309_1 ((rd_T70 l0 x12_2).f0.f1).length c309_1) ((rd_T70 l0 x12_2).f0.f1)) ∧ (Kd.V k68 68 w' w.heap.size (fun k_ => (P0_ k_ ∨ w.heap.size ≤ k_) ∧ some k_ ≠ (s_.1 : Value).ownBlock ∧ some k_ ≠ (u10 : Value).ownBlock ∧ k_ ≠ s_.2) (.slice A310_1 ((rd_T70 l0 x13_3).f0.f1).length c310_1) ((rd_T70 l0 x13_3).f0.f1)) ∧ (Kd.R k68 68 w' w.heap.size (fun k_ => (w.heap.size ≤ k_)) s_.1 t312) ∧ (Kd.V k70 70 w' w.heap.size (fun k_ => (P0_ k_ ∨ w.heap.size ≤ k_) ∧ some k_ ≠ (s_.1 : Value).ownBlock ∧ some k_ ≠ (u10 : Value).ownBlock ∧ k_ ≠ s_.2) (.slice (some ad309) l0.length c0) l0) ∧ (Kd.N k77 77 w' w.heap.size (fun k_ => (P0_ k_ ∨ w.heap.size ≤ k_) ∧ some k_ ≠ (s_.1 : Value).ownBlock ∧ k_ ≠ s_.2) u10 x10_3) ∧ (w'.heap[s_.2]? = some (.cells #[.int .i64 0, .slice none 0 0] 62 (0, 0))) ∧ (w.heap.size ≤ s_.2) ∧ (w.heap.size ≤ s_.2) ∧ (Below w.heap.size w w')) ?_ ?_
                    rotate_left
                    ·intro hCont
                     refine two_ (i := 12) (j := 16) (Ni := some 104) (Nj := some 14) #[T_,T_,T_,T_,T_,T_,T_,T_,T_,T_,T_,T_,T_,F_,F_,F_,F_,F_,F_] #[T_,T_,T_,T_,T_,T_,T_,T_,T_,T_,T_,T_,F_,F_,F_,F_,T_,F_,F_] rfl rfl rfl rfl (two_of HT_.out (by kernel_rfl)) (by decide) (by decide) (fun K hK => ?_) (fun K hK => ?_)
                     ·skip
                      refine goes_ Try.func43 (by kernel_rfl) rfl #[.agg #[.int .i64 ((rd_T70 l0 x12_2).f0.f0), .slice A309_1 ((rd_T70 l0 x12_2).f0.f1).length c309_1], .agg #[.int .i64 ((rd_T70 l0 x13_3).f0.f0), .slice A310_1 ((rd_T70 l0 x13_3).f0.f1).length c310_1], .int .i64 a1, .bool a2] (by rfl) rfl rfl (by (try simp only [List.map_toArray, List.map_cons, List.map_nil]); first | done | rfl | (simp only [List.length_drop, List.length_take]; rfl)) ?_
                      with_reducible refine (sequiturref30_pair.calls kj21 ((rd_T70 l0 x12_2).f0.f0) _ _ ((rd_T70 l0 x12_2).f0.f1) ((rd_T70 l0 x13_3).f0.f0) _ _ ((rd_T70 l0 x13_3).f0.f1) a1 a2 t311 t312 false _ ?side1 ?side2 ?side3 ?side4 A37.out).mono ?_
                      (case side1 => repeat (first | exact (by repeat (first | (with_reducible exact HR309_1.out) | (with_reducible refine cA ?_ _) | (with_reducible refine cN ?_ _) | (with_reducible refine cD ?_) | exact HR309_1.out)) | (with_reducible refine cA ?_ _) | (with_reducible refine cN ?_ _) | (with_reducible refine cD ?_)))
                      (case side2 => exact HC309_1.out)
                      (case side3 => repeat (first | exact (by repeat (first | (with_reducible exact HR310_1.out) | (with_reducible refine cA ?_ _) | (with_reducible refine cN ?_ _) | (with_reducible refine cD ?_) | exact HR310_1.out)) | (with_reducible refine cA ?_ _) | (with_reducible refine cN ?_ _) | (with_reducible refine cD ?_)))
                      (case side4 => exact HC310_1.out)
                      rintro e w51 ⟨v313, rfl, ho0, hb⟩
                      have HS0_ := (hb.cell (World.block_lt_of_cell? _ _ (hHeld.1))).trans (hHeld.1)
                      have HS1_ := (hb.cell (World.block_lt_of_cell? _ _ (hHeld.2.1))).trans (hHeld.2.1)
                      have HS2_ := (hb.cell (World.block_lt_of_cell? _ _ (hHeld.2.2.1))).trans (hHeld.2.2.1)
                      have HS3_ := (hb.cell (World.block_lt_of_cell? _ _ (hHeld.2.2.2.1))).trans (hHeld.2.2.2.1)
                      have HS4_ := (hb.cell (World.block_lt_of_cell? _ _ (hHeld.2.2.2.2.1))).trans (hHeld.2.2.2.2.1)
                      have HS5_ := (hb.cell (World.block_lt_of_cell? _ _ (hHeld.2.2.2.2.2))).trans (hHeld.2.2.2.2.2)
                      refine ⟨_, rfl, ?_⟩
                      replace HO_0 := zK (Kd.V_elder' (zv HO_0) (Kd.R_base ho0) hb)
                      replace HO_10 := zK (Kd.N_elder' (zn HO_10) (Kd.R_base ho0) hb)
                      replace HL309_1 := zK (Kd.V_elder' (zv HL309_1) (Kd.R_base ho0) hb)
                      replace HL310_1 := zK (Kd.V_elder' (zv HL310_1) (Kd.R_base ho0) hb)
                      have HO314 := zK (Kd.R_lower (Kd.R_newM (M := fun k_ => (w.heap.size ≤ k_)) ho0 (below_size (zo HB)) (fun k_ h_ => h_)) (below_size (zo HB)))
                      replace HR309_1 := zK (Kd.C_below (by repeat (first | (with_reducible exact HR309_1.out) | (with_reducible refine cA ?_ _) | (with_reducible refine cN ?_ _) | (with_reducible refine cD ?_) | exact HR309_1.out)) hb)
                      replace HR310_1 := zK (Kd.C_below (by repeat (first | (with_reducible exact HR310_1.out) | (with_reducible refine cA ?_ _) | (with_reducible refine cN ?_ _) | (with_reducible refine cD ?_) | exact HR310_1.out)) hb)
                      replace HB := zK (below_step (zo HB) hb)
                      (try clear hb); (try clear hb2); (try clear hk); (try clear hi)
                      (try clear ho0)
                      refine hK.out _ _ ⟨HS0_, HS1_, HS2_, HS3_, HS4_, HS5_⟩ (fun hHeld => ?_)
                      clear hK K
                      refine norm_ (a' := ?_) ?_ ?_; rotate_left; (show Act.put _ (some 104) _ = _; simp only [Act.put, zt, zz, zs, i64_w, i32_w]; rfl)
                      refine pure_ (i := 13) (N := some 91) (v := ?_) (a' := ?_) #[T_,T_,T_,T_,T_,T_,T_,T_,T_,T_,T_,T_,T_,T_,F_,F_,F_,F_,F_] rfl rfl (any_of HT_.out (by kernel_rfl)) (fun _ _ _ h => h) (Or.inl ⟨by rfl, ?_⟩) ?_ ?_; rotate_left; (intro w'; go_simp; with_reducible rfl); rotate_left; (simp only [Act.put, zt, zz, zs, i64_w, i32_w]; rfl)
                      refine pure_ (i := 14) (N := some 105) (v := ?_) (a' := ?_) #[T_,T_,T_,T_,T_,T_,T_,T_,T_,T_,T_,T_,T_,T_,T_,F_,F_,F_,F_] rfl rfl (any_of HT_.out (by kernel_rfl)) (fun _ _ _ h => h) (Or.inl ⟨by rfl, ?_⟩) ?_ ?_; rotate_left; (intro w'; go_simp; with_reducible rfl); rotate_left; (simp only [Act.put, zt, zz, zs, i64_w, i32_w]; rfl)
                      refine pure_ (i := 15) (N := some 106) (v := ?_) (a' := ?_) #[T_,T_,T_,T_,T_,T_,T_,T_,T_,T_,T_,T_,T_,T_,T_,T_,F_,F_,F_] rfl rfl (any_of HT_.out (by kernel_rfl)) (fun _ _ _ h => h) (Or.inl ⟨by rfl, ?_⟩) ?_ ?_; rotate_left; (intro w'; go_simp; with_reducible rfl); rotate_left; (simp only [Act.put, zt, zz, zs, i64_w, i32_w]; rfl)
                      refine one_ (i := 16) (N := some 14) #[T_,T_,T_,T_,T_,T_,T_,T_,T_,T_,T_,T_,T_,T_,T_,T_,T_,F_,F_] rfl rfl (one_of HT_.out (by kernel_rfl)) (by decide) (fun K hK => ?_)
                      refine box_step ?hg (N := 14) ?hd (cs := #[.int .i64 0, .slice none 0 0]) (t := 62) ?hr ?_; (case hd => rfl); (case hg => rfl); (case hr => first | (go_simp; done) | (go_simp; rfl))
                      intro gb316 hg w52 hbox hb
                      have HS0_ := (hb.cell (World.block_lt_of_cell? _ _ (hHeld.1))).trans (hHeld.1)
                      have HS1_ := (hb.cell (World.block_lt_of_cell? _ _ (hHeld.2.1))).trans (hHeld.2.1)
                      have HS2_ := (hb.cell (World.block_lt_of_cell? _ _ (hHeld.2.2.1))).trans (hHeld.2.2.1)
                      have HS3_ := (hb.cell (World.block_lt_of_cell? _ _ (hHeld.2.2.2.1))).trans (hHeld.2.2.2.1)
                      have HS4_ := (hb.cell (World.block_lt_of_cell? _ _ (hHeld.2.2.2.2.1))).trans (hHeld.2.2.2.2.1)
                      have HS5_ := (hb.cell (World.block_lt_of_cell? _ _ (hHeld.2.2.2.2.2))).trans (hHeld.2.2.2.2.2)
                      replace HO_0 := zK (Kd.V_below (Kd.V_elderB (zv HO_0) gb316 (Nat.le_of_eq hg.symm)) hb)
                      replace HO_10 := zK (Kd.N_below (Kd.N_elderB (zn HO_10) gb316 (Nat.le_of_eq hg.symm)) hb)
                      replace HL309_1 := zK (Kd.V_below (Kd.V_elderB (zv HL309_1) gb316 (Nat.le_of_eq hg.symm)) hb)
                      replace HL310_1 := zK (Kd.V_below (Kd.V_elderB (zv HL310_1) gb316 (Nat.le_of_eq hg.symm)) hb)
                      replace HO314 := zK (Kd.R_below (zr HO314) hb)
                      replace HR309_1 := zK (Kd.C_below (by repeat (first | (with_reducible exact HR309_1.out) | (with_reducible refine cA ?_ _) | (with_reducible refine cN ?_ _) | (with_reducible refine cD ?_) | exact HR309_1.out)) hb)
                      replace HR310_1 := zK (Kd.C_below (by repeat (first | (with_reducible exact HR310_1.out) | (with_reducible refine cA ?_ _) | (with_reducible refine cN ?_ _) | (with_reducible refine cD ?_) | exact HR310_1.out)) hb)
                      have BK316 := zK (hbox)
                      have GW316 := zK ((by rw [hg]; exact (below_size (zo HB)) : w.heap.size ≤ gb316))
                      have GE316 := zK ((by rw [hg]; exact (below_size (zo HB)) : w.heap.size ≤ gb316))
                      replace HB := zK (below_step (zo HB) hb); clear hb hbox hg
                      refine hK.out _ _ ⟨HS0_, HS1_, HS2_, HS3_, HS4_, HS5_⟩ (fun hHeld => ?_)
                      clear hK K
                      refine norm_ (a' := ?_) ?_ ?_; rotate_left; (show Act.put _ (some 14) _ = _; simp only [Act.put, zt, zz, zs, i64_w, i32_w]; rfl)
                      exact norm_ (by simp only [putAll, Act.put, zt, zz, zs]) (hCont (v313, gb316) _ ⟨hHeld, (by (with_reducible repeat (first | apply vA | apply vN | apply vD)); exact vM HL309_1.out (fun _ hk => ⟨hk.1.1.1, ⟨hk.1.2, ⟨hk.1.1.2, hk.2⟩⟩⟩)), (by (with_reducible repeat (first | apply vA | apply vN | apply vD)); exact vM HL310_1.out (fun _ hk => ⟨hk.1.1.1, ⟨hk.1.2, ⟨hk.1.1.2, hk.2⟩⟩⟩)), (by (with_reducible repeat (first | apply Kd.R_alloc | apply Kd.R_drewN | apply Kd.R_drew)); exact Kd.R_mono HO314.out (fun _ hk => hk.1)), (by (with_reducible repeat (first | apply vA | apply vN | apply vD)); exact vM HO_0.out (fun _ hk => ⟨hk.1.1.1, ⟨hk.1.2, ⟨hk.1.1.2, hk.2⟩⟩⟩)), (by (with_reducible repeat (first | apply nA | apply nN | apply nD)); exact Kd.N_mono HO_10.out (fun _ hk => ⟨hk.1.1, ⟨hk.1.2, hk.2⟩⟩)), (zb BK316), GW316.out, GE316.out, (zo HB)⟩)
                     ·skip
                      refine box_step ?hg (N := 14) ?hd (cs := #[.int .i64 0, .slice none 0 0]) (t := 62) ?hr ?_; (case hd => rfl); (case hg => rfl); (case hr => first | (go_simp; done) | (go_simp; rfl))
                      intro gb316 hg w51 hbox hb
                      have HS0_ := (hb.cell (World.block_lt_of_cell? _ _ (hHeld.1))).trans (hHeld.1)
                      have HS1_ := (hb.cell (World.block_lt_of_cell? _ _ (hHeld.2.1))).trans (hHeld.2.1)
                      have HS2_ := (hb.cell (World.block_lt_of_cell? _ _ (hHeld.2.2.1))).trans (hHeld.2.2.1)
                      have HS3_ := (hb.cell (World.block_lt_of_cell? _ _ (hHeld.2.2.2.1))).trans (hHeld.2.2.2.1)
                      have HS4_ := (hb.cell (World.block_lt_of_cell? _ _ (hHeld.2.2.2.2.1))).trans (hHeld.2.2.2.2.1)
                      have HS5_ := (hb.cell (World.block_lt_of_cell? _ _ (hHeld.2.2.2.2.2))).trans (hHeld.2.2.2.2.2)
                      replace HO_0 := zK (Kd.V_below (Kd.V_elderB (zv HO_0) gb316 (Nat.le_of_eq hg.symm)) hb)
                      replace HO_10 := zK (Kd.N_below (Kd.N_elderB (zn HO_10) gb316 (Nat.le_of_eq hg.symm)) hb)
                      replace HL309_1 := zK (Kd.V_below (Kd.V_elderB (zv HL309_1) gb316 (Nat.le_of_eq hg.symm)) hb)
                      replace HL310_1 := zK (Kd.V_below (Kd.V_elderB (zv HL310_1) gb316 (Nat.le_of_eq hg.symm)) hb)
                      replace HR309_1 := zK (Kd.C_below (by repeat (first | (with_reducible exact HR309_1.out) | (with_reducible refine cA ?_ _) | (with_reducible refine cN ?_ _) | (with_reducible refine cD ?_) | exact HR309_1.out)) hb)
                      replace HR310_1 := zK (Kd.C_below (by repeat (first | (with_reducible exact HR310_1.out) | (with_reducible refine cA ?_ _) | (with_reducible refine cN ?_ _) | (with_reducible refine cD ?_) | exact HR310_1.out)) hb)
                      have BK316 := zK (hbox)
                      have GW316 := zK ((by rw [hg]; exact (below_size (zo HB)) : w.heap.size ≤ gb316))
                      have GE316 := zK ((by rw [hg]; exact (below_size (zo HB)) : w.heap.size ≤ gb316))
                      replace HB := zK (below_step (zo HB) hb); clear hb hbox hg
                      refine hK.out _ _ ⟨HS0_, HS1_, HS2_, HS3_, HS4_, HS5_⟩ (fun hHeld => ?_)
                      clear hK K
                      refine norm_ (a' := ?_) ?_ ?_; rotate_left; (show Act.put _ (some 14) _ = _; simp only [Act.put, zt, zz, zs, i64_w, i32_w]; rfl)
                      refine one_ (i := 12) (N := some 104) #[T_,T_,T_,T_,T_,T_,T_,T_,T_,T_,T_,T_,T_,F_,F_,F_,T_,F_,F_] rfl rfl (one_of HT_.out (by kernel_rfl)) (by decide) (fun K hK => ?_)
                      refine goes_ Try.func43 (by kernel_rfl) rfl #[.agg #[.int .i64 ((rd_T70 l0 x12_2).f0.f0), .slice A309_1 ((rd_T70 l0 x12_2).f0.f1).length c309_1], .agg #[.int .i64 ((rd_T70 l0 x13_3).f0.f0), .slice A310_1 ((rd_T70 l0 x13_3).f0.f1).length c310_1], .int .i64 a1, .bool a2] (by rfl) rfl rfl (by (try simp only [List.map_toArray, List.map_cons, List.map_nil]); first | done | rfl | (simp only [List.length_drop, List.length_take]; rfl)) ?_
                      with_reducible refine (sequiturref30_pair.calls kj21 ((rd_T70 l0 x12_2).f0.f0) _ _ ((rd_T70 l0 x12_2).f0.f1) ((rd_T70 l0 x13_3).f0.f0) _ _ ((rd_T70 l0 x13_3).f0.f1) a1 a2 t311 t312 false _ ?side1 ?side2 ?side3 ?side4 A37.out).mono ?_
                      (case side1 => repeat (first | exact (by repeat (first | (with_reducible exact HR309_1.out) | (with_reducible refine cA ?_ _) | (with_reducible refine cN ?_ _) | (with_reducible refine cD ?_) | exact HR309_1.out)) | (with_reducible refine cA ?_ _) | (with_reducible refine cN ?_ _) | (with_reducible refine cD ?_)))
                      (case side2 => exact HC309_1.out)
                      (case side3 => repeat (first | exact (by repeat (first | (with_reducible exact HR310_1.out) | (with_reducible refine cA ?_ _) | (with_reducible refine cN ?_ _) | (with_reducible refine cD ?_) | exact HR310_1.out)) | (with_reducible refine cA ?_ _) | (with_reducible refine cN ?_ _) | (with_reducible refine cD ?_)))
                      (case side4 => exact HC310_1.out)
                      rintro e w52 ⟨v313, rfl, ho0, hb⟩
                      have HS0_ := (hb.cell (World.block_lt_of_cell? _ _ (hHeld.1))).trans (hHeld.1)
                      have HS1_ := (hb.cell (World.block_lt_of_cell? _ _ (hHeld.2.1))).trans (hHeld.2.1)
                      have HS2_ := (hb.cell (World.block_lt_of_cell? _ _ (hHeld.2.2.1))).trans (hHeld.2.2.1)
                      have HS3_ := (hb.cell (World.block_lt_of_cell? _ _ (hHeld.2.2.2.1))).trans (hHeld.2.2.2.1)
                      have HS4_ := (hb.cell (World.block_lt_of_cell? _ _ (hHeld.2.2.2.2.1))).trans (hHeld.2.2.2.2.1)
                      have HS5_ := (hb.cell (World.block_lt_of_cell? _ _ (hHeld.2.2.2.2.2))).trans (hHeld.2.2.2.2.2)
                      refine ⟨_, rfl, ?_⟩
                      replace HO_0 := zK (Kd.V_elder' (zv HO_0) (Kd.R_base ho0) hb)
                      replace HO_10 := zK (Kd.N_elder' (zn HO_10) (Kd.R_base ho0) hb)
                      replace HL309_1 := zK (Kd.V_elder' (zv HL309_1) (Kd.R_base ho0) hb)
                      replace HL310_1 := zK (Kd.V_elder' (zv HL310_1) (Kd.R_base ho0) hb)
                      have HO314 := zK (Kd.R_lower (Kd.R_newM (M := fun k_ => (w.heap.size ≤ k_)) ho0 (below_size (zo HB)) (fun k_ h_ => h_)) (below_size (zo HB)))
                      replace HR309_1 := zK (Kd.C_below (by repeat (first | (with_reducible exact HR309_1.out) | (with_reducible refine cA ?_ _) | (with_reducible refine cN ?_ _) | (with_reducible refine cD ?_) | exact HR309_1.out)) hb)
                      replace HR310_1 := zK (Kd.C_below (by repeat (first | (with_reducible exact HR310_1.out) | (with_reducible refine cA ?_ _) | (with_reducible refine cN ?_ _) | (with_reducible refine cD ?_) | exact HR310_1.out)) hb)
                      replace BK316 := zK (blk_below (g := gb316) (o := .cells #[.int .i64 0, .slice none 0 0] 62 (0, 0)) (zb BK316) hb)
                      replace HB := zK (below_step (zo HB) hb)
                      (try clear hb); (try clear hb2); (try clear hk); (try clear hi)
                      (try clear ho0)
                      refine hK.out _ _ ⟨HS0_, HS1_, HS2_, HS3_, HS4_, HS5_⟩ (fun hHeld => ?_)
                      clear hK K
                      refine norm_ (a' := ?_) ?_ ?_; rotate_left; (show Act.put _ (some 104) _ = _; simp only [Act.put, zt, zz, zs, i64_w, i32_w]; rfl)
                      refine pure_ (i := 13) (N := some 91) (v := ?_) (a' := ?_) #[T_,T_,T_,T_,T_,T_,T_,T_,T_,T_,T_,T_,T_,T_,F_,F_,T_,F_,F_] rfl rfl (any_of HT_.out (by kernel_rfl)) (fun _ _ _ h => h) (Or.inl ⟨by rfl, ?_⟩) ?_ ?_; rotate_left; (intro w'; go_simp; with_reducible rfl); rotate_left; (simp only [Act.put, zt, zz, zs, i64_w, i32_w]; rfl)
                      refine pure_ (i := 14) (N := some 105) (v := ?_) (a' := ?_) #[T_,T_,T_,T_,T_,T_,T_,T_,T_,T_,T_,T_,T_,T_,T_,F_,T_,F_,F_] rfl rfl (any_of HT_.out (by kernel_rfl)) (fun _ _ _ h => h) (Or.inl ⟨by rfl, ?_⟩) ?_ ?_; rotate_left; (intro w'; go_simp; with_reducible rfl); rotate_left; (simp only [Act.put, zt, zz, zs, i64_w, i32_w]; rfl)
                      refine pure_ (i := 15) (N := some 106) (v := ?_) (a' := ?_) #[T_,T_,T_,T_,T_,T_,T_,T_,T_,T_,T_,T_,T_,T_,T_,T_,T_,F_,F_] rfl rfl (any_of HT_.out (by kernel_rfl)) (fun _ _ _ h => h) (Or.inl ⟨by rfl, ?_⟩) ?_ ?_; rotate_left; (intro w'; go_simp; with_reducible rfl); rotate_left; (simp only [Act.put, zt, zz, zs, i64_w, i32_w]; rfl)
                      exact norm_ (by simp only [putAll, Act.put, zt, zz, zs]) (hCont (v313, gb316) _ ⟨hHeld, (by (with_reducible repeat (first | apply vA | apply vN | apply vD)); exact vM HL309_1.out (fun _ hk => ⟨hk.1.1.1, ⟨hk.2, ⟨hk.1.1.2, hk.1.2⟩⟩⟩)), (by (with_reducible repeat (first | apply vA | apply vN | apply vD)); exact vM HL310_1.out (fun _ hk => ⟨hk.1.1.1, ⟨hk.2, ⟨hk.1.1.2, hk.1.2⟩⟩⟩)), (by (with_reducible repeat (first | apply Kd.R_alloc | apply Kd.R_drewN | apply Kd.R_drew)); exact Kd.R_mono HO314.out (fun _ hk => hk.1)), (by (with_reducible repeat (first | apply vA | apply vN | apply vD)); exact vM HO_0.out (fun _ hk => ⟨hk.1.1.1, ⟨hk.2, ⟨hk.1.1.2, hk.1.2⟩⟩⟩)), (by (with_reducible repeat (first | apply nA | apply nN | apply nD)); exact Kd.N_mono HO_10.out (fun _ hk => ⟨hk.1.1, ⟨hk.2, hk.1.2⟩⟩)), (zb BK316), GW316.out, GE316.out, (zo HB)⟩)
                    rintro ⟨v313, gb316⟩ w53 ⟨hS_, h0_, h1_, h2_, h3_, h4_, h5_, h6_, h7_, h8_⟩
                    have n0_ : Aside0 (Kd.V k68 68 w53 w.heap.size (fun k_ => (P0_ k_ ∨ w.heap.size ≤ k_) ∧ some k_ ≠ (v313 : Value).ownBlock ∧ some k_ ≠ (u10 : Value).ownBlock ∧ k_ ≠ gb316) (.slice A309_1 ((rd_T70 l0 x12_2).f0.f1).length c309_1) ((rd_T70 l0 x12_2).f0.f1)) := ⟨h0_⟩
                    have n1_ : Aside0 (Kd.V k68 68 w53 w.heap.size (fun k_ => (P0_ k_ ∨ w.heap.size ≤ k_) ∧ some k_ ≠ (v313 : Value).ownBlock ∧ some k_ ≠ (u10 : Value).ownBlock ∧ k_ ≠ gb316) (.slice A310_1 ((rd_T70 l0 x13_3).f0.f1).length c310_1) ((rd_T70 l0 x13_3).f0.f1)) := ⟨h1_⟩
                    have n2_ : Aside0 (Kd.R k68 68 w53 w.heap.size (fun k_ => (w.heap.size ≤ k_)) v313 t312) := ⟨h2_⟩
                    have n3_ : Aside0 (Kd.V k70 70 w53 w.heap.size (fun k_ => (P0_ k_ ∨ w.heap.size ≤ k_) ∧ some k_ ≠ (v313 : Value).ownBlock ∧ some k_ ≠ (u10 : Value).ownBlock ∧ k_ ≠ gb316) (.slice (some ad309) l0.length c0) l0) := ⟨h3_⟩
                    have n4_ : Aside0 (Kd.N k77 77 w53 w.heap.size (fun k_ => (P0_ k_ ∨ w.heap.size ≤ k_) ∧ some k_ ≠ (v313 : Value).ownBlock ∧ k_ ≠ gb316) u10 x10_3) := ⟨h4_⟩
                    have n5_ : Aside0 (w53.heap[gb316]? = some (.cells #[.int .i64 0, .slice none 0 0] 62 (0, 0))) := ⟨h5_⟩
                    have n6_ : Aside0 (w.heap.size ≤ gb316) := ⟨h6_⟩
                    have n7_ : Aside0 (w.heap.size ≤ gb316) := ⟨h7_⟩
                    have n8_ : Aside0 (Below w.heap.size w w53) := ⟨h8_⟩
                    clear HO_0 HO_10 HB h0_ h1_ h2_ h3_ h4_ h5_ h6_ h7_ h8_
                    have HL309_1 := n0_
                    have HL310_1 := n1_
                    have HO314 := n2_
                    have HO_0 := n3_
                    have HO_10 := n4_
                    have BK316 := n5_
                    have GW316 := n6_
                    have GE316 := n7_
                    have HB := n8_; clear n0_ n1_ n2_ n3_ n4_ n5_ n6_ n7_ n8_
                    have hHeld : w53.cell? (ad309.add ((x12_2).toNat * 3)) = some (.int .i64 ((rd_T70 l0 x12_2).f0.f0)) ∧ w53.cell? ⟨(ad309.add ((x12_2).toNat * 3)).block, (ad309.add ((x12_2).toNat * 3)).off + 1, none⟩ = some (.slice A309_1 ((rd_T70 l0 x12_2).f0.f1).length c309_1) ∧ w53.cell? ⟨(ad309.add ((x12_2).toNat * 3)).block, (ad309.add ((x12_2).toNat * 3)).off + 2, none⟩ = some (.bool ((rd_T70 l0 x12_2).f1)) ∧ w53.cell? (ad309.add ((x13_3).toNat * 3)) = some (.int .i64 ((rd_T70 l0 x13_3).f0.f0)) ∧ w53.cell? ⟨(ad309.add ((x13_3).toNat * 3)).block, (ad309.add ((x13_3).toNat * 3)).off + 1, none⟩ = some (.slice A310_1 ((rd_T70 l0 x13_3).f0.f1).length c310_1) ∧ w53.cell? ⟨(ad309.add ((x13_3).toNat * 3)).block, (ad309.add ((x13_3).toNat * 3)).off + 2, none⟩ = some (.bool ((rd_T70 l0 x13_3).f1)) := hS_
                    obtain ⟨Ao55, co55, eo55⟩ := Kd.R_slice HO314.out
                    (first | subst eo55 | (injection eo55 with f1_ f2_ f3_; have f4_ := f1_.symm; have f5_ := f3_.symm; clear f1_ f2_ f3_; subst f4_; subst f5_))
                    refine norm_ (a' := ?_) ?_ ?_
                    rotate_left
                    ·simp only [putAll, Act.put, zt, zz, zs]
                     rfl
                    refine one_ (i := 17) (N := none) #[T_,T_,T_,T_,T_,T_,T_,T_,T_,T_,T_,T_,T_,T_,T_,T_,T_,T_,F_] rfl rfl (one_of HT_.out (by kernel_rfl)) (by decide) (fun K hK => ?_)
                    have hs54 : w53.cell? ⟨gb316, 0, none⟩ = some (.int .i64 0) := (blk_cell BK316.out 0).trans rfl
                    have hfs54 := blk_frozen BK316.out 0
                    have hs56 : w53.cell? ⟨gb316, 1, none⟩ = some (.slice none 0 0) := (blk_cell BK316.out 1).trans rfl
                    have hfs56 := blk_frozen BK316.out 1
                    refine skip_ (w1 := ?_) (by rfl) rfl ?_ ?_
                    rotate_left
                    ·go_simp
                     rfl
                    have hn0_ := V_apart10 HO_0.out hHeld.1 (fun W' h' => by obtain ⟨ad309_, A309_1, c309_1, e309, hx309_0, hx309_1, hx309_2, hl309_1, hi309_1⟩ := at_T70 (Kd.V_reads' h').2.2 x12_2 (of_eq_true p309) (of_eq_true q309); cases e309; exact hx309_0) (g := gb316) (fun _ hk => hk.2.2.2)
                    refine hK.out _ _ ⟨(cellA10 hn0_ ((cellA10 hn0_ (hHeld.1)))), (cellB10 hn0_ ((cellB10 hn0_ (hHeld.2.1)))), (cellB10 hn0_ ((cellB10 hn0_ (hHeld.2.2.1)))), (cellA10 hn0_ ((cellA10 hn0_ (hHeld.2.2.2.1)))), (cellB10 hn0_ ((cellB10 hn0_ (hHeld.2.2.2.2.1)))), (cellB10 hn0_ ((cellB10 hn0_ (hHeld.2.2.2.2.2))))⟩ (fun hHeld => ?_)
                    clear hK K
                    refine pure_ (i := 18) (N := some 15) (v := ?_) (a' := ?_) #[T_,T_,T_,T_,T_,T_,T_,T_,T_,T_,T_,T_,T_,T_,T_,T_,T_,T_,T_] rfl rfl (any_of HT_.out (by kernel_rfl)) (fun _ _ _ h => h) (Or.inl ⟨by rfl, ?_⟩) ?_ ?_; rotate_left; (intro w'; go_simp; with_reducible rfl); rotate_left; (simp only [Act.put, zt, zz, zs, i64_w, i32_w]; rfl)
                    refine done_ (done_of HT_.out (by kernel_rfl)) ?_
                    try go_wp2
                    go_ret2
                    exact ⟨_, by first | rfl | (simp [errW_none, errW_some] <;> rfl) | (simp [*, errW_none, errW_some] <;> rfl), by first | exact Kd.S_nil _ _ _ _ _ | exact Kd.N_nil _ _ _ _ _ | exact Kd.V_nil _ _ _ _ _ | exact Kd.Q_nil _ _ _ _ _ | exact Kd.R_nil _ _ _ _ _, zo HB⟩
                  ·rw [if_neg c36] at H
                   exact absurd H (by simp)
                 ·rw [if_neg c35] at H
                  exact absurd H (by simp)
                ·rw [if_neg c34] at H
                 exact absurd H (by simp)
               ·rw [if_neg c33] at H
                exact absurd H (by simp)
           ·rw [if_neg c21] at H
            have c21b0 : decide (x13_3 < (l0.length : Int)) = false := decide_eq_false c21
            clear c21
            have H' := zK H; clear H
            go_wp2
            go_roundg k3
            case measure => have := HK1.out; have := HK2.out; have := HK3.out; omega
            case rel => exact ⟨(x10_3), (wrap64 (x12_2 + 1)), (by first | rfl | (simp; done) | (simp [*]; done)), H', ⟨by have := HK1.out; have := HK2.out; have := HK3.out; omega⟩, ⟨zv HO_0⟩, ⟨zn HO_10⟩, ⟨zo HB⟩⟩
        ·rw [if_neg c20] at H
         have c20b0 : decide (x12_2 < (l0.length : Int)) = false := decide_eq_false c20
         clear c20
         simp only [Option.some.injEq, Prod.mk.injEq] at H
         obtain ⟨rfl, rfl⟩ := H
         go_wp2
         go_ret2
         exact ⟨_, by first | rfl | (simp [errW_none, errW_some] <;> rfl) | (simp [*, errW_none, errW_some] <;> rfl), by (with_reducible repeat (first | apply nA | apply nN | apply nD)); exact HO_10.out, zo HB⟩
 ·replace c5 := Bool.eq_false_iff.mpr c5
  subst c5
  have H1 : (some (([] : List (S77)), 1)) = some (r1, r2) := by rw [if_neg (show ¬ (false = true) by decide)] at H; exact H
  clear H; have H := H1; clear H1
  simp only [Option.some.injEq, Prod.mk.injEq] at H
  obtain ⟨rfl, rfl⟩ := H
  go_enter Try.func15, Try.ntmps15
  go_wp2_with (first | ((with_reducible refine zC (f := 40) rfl ?_); refine goesL_ (some 18) rfl rfl Try.func40 (by kernel_rfl) rfl #[.slice A0 l0.length c0, .int .i64 a1] rfl (by (try simp only [List.map_toArray, List.map_cons, List.map_nil]); first | done | rfl | (simp only [List.length_drop, List.length_take]; rfl)) ?_; (with_reducible refine (sequiturref30_Right.calls k _ _ l0 a1 false _ ?side1 ?side2 A4.out).mono ?_); (case side1 => repeat (first | exact (Kd.V_reads' HO0.out).2.2 | (with_reducible refine cA ?_ _) | (with_reducible refine cN ?_ _) | (with_reducible refine cD ?_))); (case side2 => exact (Kd.V_reads' HO0.out).2.1); rintro e w57 ⟨rfl, hb⟩; refine ⟨_, rfl, ?_⟩; replace HO0 := zK (Kd.V_below (zv HO0) hb); replace HB := zK (below_step (zo HB) hb); (try clear hb); (try clear hb2); (try clear hk); (try clear hi)))
  go_ret2
  exact ⟨_, by first | rfl | (simp [errW_none, errW_some] <;> rfl) | (simp [*, errW_none, errW_some] <;> rfl), by first | exact Kd.S_nil _ _ _ _ _ | exact Kd.N_nil _ _ _ _ _ | exact Kd.V_nil _ _ _ _ _ | exact Kd.Q_nil _ _ _ _ _ | exact Kd.R_nil _ _ _ _ _, zo HB⟩

end Go.Proofs.Ytkfbfgkdabljiaa.PShadowCasts
