/- What the call of each function that the law reaches comes to: it answers as the plain function of the same name does, wherever that one answers; and the law itself out of its plain form. Written by a program of this session (an extended copy of the printer); no condition but what stands in each theorem. -/
import Derived.Test.YtkfbfgkdabljiaaPShadowSplitsx0
import Derived.Test.YtkfbfgkdabljiaaPShadowSplitsx2
import Derived.Test.YtkfbfgkdabljiaaPShadowSplitsx5
namespace Go.Proofs.Ytkfbfgkdabljiaa.PShadowSplits
open Go.RowKit Go.Proofs.YtkfbfgkdabljiaaW.PrintWords Go.Proofs.YtkfbfgkdabljiaaW.PrintLast Go.Proofs.YtkfbfgkdabljiaaW.PrintMore
open Go.Proofs.YtkfbfgkdabljiaaW.PrintWords renaming blk_drewN → zN, blk_drew → zD, blk_alloc → zA, below_alloc → yA, pw_below_drewN → yN, below_drew1 → yD, below_set → yS, gate_callee → zC, gate_guard → zG
open Go.Proofs.YtkfbfgkdabljiaaW.PrintWords.Kd renaming V_alloc → vA, V_drewN → vN, V_drew → vD, N_alloc → nA, N_drewN → nN, N_drew → nD, C_alloc → cA, C_drewN → cN, C_drew → cD, V_mono → vM
open Go.Proofs.YtkfbfgkdabljiaaW.PrintWords.Aside0 renaming mk → zK
attribute [local go_sem] max2_int min2_int max_two min_two max_three min_three max_four min_four   -- for this text's walks alone
set_option linter.unusedVariables false
set_option linter.unusedSimpArgs false

/-! ### shadow_Real: function 14 -/
def shadow_Real.f (k : Nat) (l0 : List (S70)) (a1 : Int) : Option ((List (S72)) × Int) := (shadow_all.f k l0 a1 false).bind fun bt174 => (some (bt174.1, bt174.2))
theorem shadow_Real.mono : ∀ a0 a1 k, LeO (shadow_Real.f k a0 a1) (shadow_Real.f (k + 1) a0 a1) := by
 intro a0 a1 k
 unfold shadow_Real.f
 repeat' first
   | (with_reducible exact shadow_all.mono _ _ _ _)
   | (with_reducible exact LeO.refl _)
   | (with_reducible exact LeO.none _)
   | (with_reducible refine LeO.ite ?_ ?_)
   | (with_reducible refine LeO.bind ?_ (fun _ => ?_))
   | exact shadow_all.mono _ _ _ _
   | exact LeO.none _
   | refine LeO.ite ?_ ?_
   | refine LeO.bind ?_ (fun _ => ?_)
set_option maxHeartbeats 8000000 in
set_option maxRecDepth 100000 in
theorem shadow_Real.calls (k : Nat) (P0_ : Nat → Prop) (A0 : Option Addr) (c0 : Nat) (l0 : List (S70)) (a1 : Int) (r1 : List (S72)) (r2 : Int) (w : World) (hs0 : Kd.V k70 70 w w.heap.size (fun k_ => P0_ k_) (.slice A0 l0.length c0) l0) (h : shadow_Real.f k l0 a1 = some (r1, r2)) :
  Calls Try.prog 14 #[.slice A0 l0.length c0, .int .i64 a1] w fun e w' => ∃ v0_ : Value, e = .returned (.tuple #[v0_, .int .i64 r2]) ∧ Kd.N k72 72 w' w.heap.size (fun k_ => (P0_ k_ ∨ w.heap.size ≤ k_)) v0_ r1 ∧ Below w.heap.size w w' := by
 have HO0 := zK (show Kd.V k70 70 w w.heap.size (fun k_ => (P0_ k_ ∨ w.heap.size ≤ k_)) (.slice A0 l0.length c0) l0 from vM hs0 (fun k_ hk => .inl hk))
 have HB := zK (Below.refl w.heap.size w)
 have H : ((shadow_all.f k l0 a1 false).bind fun bt174 => (some (bt174.1, bt174.2))) = some (r1, r2) := h
 clear h; replace H := Option.bind_eq_some_iff.mp H
 obtain ⟨⟨t174, t177⟩, A30, H⟩ := H
 replace H : (some (t174, t177)) = some (r1, r2) := H
 have A3 := zK A30; clear A30
 simp only [Option.some.injEq, Prod.mk.injEq] at H
 obtain ⟨rfl, rfl⟩ := H
 go_enter Try.func14, Try.ntmps14
 go_wp2_with (first | ((with_reducible refine zC (f := 39) rfl ?_); refine goesL_ (some 8) rfl rfl Try.func39 (by kernel_rfl) rfl #[.slice A0 l0.length c0, .int .i64 a1, .bool false] rfl (by (try simp only [List.map_toArray, List.map_cons, List.map_nil]); first | done | rfl | (simp only [List.length_drop, List.length_take]; rfl)) ?_; (with_reducible refine (shadow_all.calls k (fun k_ => (P0_ k_ ∨ w.heap.size ≤ k_)) _ _ l0 a1 false t174 t177 _ ?side1 A3.out).mono ?_); (case side1 => exact HO0.out); rintro e w4 ⟨v175, rfl, ho0, hb⟩; refine ⟨_, rfl, ?_⟩; replace HO0 := zK (Kd.V_elder' (zv HO0) (Kd.N_base ho0) hb); have HO176 := zK (Kd.N_lower (Kd.N_mono (ok' := fun k_ => (P0_ k_ ∨ w.heap.size ≤ k_)) ho0 (fun k_ hk_ => Or.elim hk_ (fun hs_ => hs_) (fun hn_ => (.inr (Nat.le_trans (below_size (zo HB)) hn_))))) (below_size (zo HB))); replace HB := zK (below_step (zo HB) hb); (try clear hb); (try clear hb2); (try clear hk); (try clear hi); (try clear ho0)))
 go_ret2
 exact ⟨_, by first | rfl | (simp [errW_none, errW_some] <;> rfl) | (simp [*, errW_none, errW_some] <;> rfl), by (with_reducible repeat (first | apply nA | apply nN | apply nD)); exact HO176.out, zo HB⟩

/-! ### shadow_Dark: function 16 -/
def shadow_Dark.f (k : Nat) (l0 : List (S70)) (a1 : Int) : Option ((List (S72)) × Int) := (shadow_all.f k l0 a1 true).bind fun bt178 => (some (bt178.1, bt178.2))
theorem shadow_Dark.mono : ∀ a0 a1 k, LeO (shadow_Dark.f k a0 a1) (shadow_Dark.f (k + 1) a0 a1) := by
 intro a0 a1 k
 unfold shadow_Dark.f
 repeat' first
   | (with_reducible exact shadow_all.mono _ _ _ _)
   | (with_reducible exact LeO.refl _)
   | (with_reducible exact LeO.none _)
   | (with_reducible refine LeO.ite ?_ ?_)
   | (with_reducible refine LeO.bind ?_ (fun _ => ?_))
   | exact shadow_all.mono _ _ _ _
   | exact LeO.none _
   | refine LeO.ite ?_ ?_
   | refine LeO.bind ?_ (fun _ => ?_)
set_option maxHeartbeats 8000000 in
set_option maxRecDepth 100000 in
theorem shadow_Dark.calls (k : Nat) (P0_ : Nat → Prop) (A0 : Option Addr) (c0 : Nat) (l0 : List (S70)) (a1 : Int) (r1 : List (S72)) (r2 : Int) (w : World) (hs0 : Kd.V k70 70 w w.heap.size (fun k_ => P0_ k_) (.slice A0 l0.length c0) l0) (h : shadow_Dark.f k l0 a1 = some (r1, r2)) :
  Calls Try.prog 16 #[.slice A0 l0.length c0, .int .i64 a1] w fun e w' => ∃ v0_ : Value, e = .returned (.tuple #[v0_, .int .i64 r2]) ∧ Kd.N k72 72 w' w.heap.size (fun k_ => (P0_ k_ ∨ w.heap.size ≤ k_)) v0_ r1 ∧ Below w.heap.size w w' := by
 have HO0 := zK (show Kd.V k70 70 w w.heap.size (fun k_ => (P0_ k_ ∨ w.heap.size ≤ k_)) (.slice A0 l0.length c0) l0 from vM hs0 (fun k_ hk => .inl hk))
 have HB := zK (Below.refl w.heap.size w)
 have H : ((shadow_all.f k l0 a1 true).bind fun bt178 => (some (bt178.1, bt178.2))) = some (r1, r2) := h
 clear h; replace H := Option.bind_eq_some_iff.mp H
 obtain ⟨⟨t178, t181⟩, A30, H⟩ := H
 replace H : (some (t178, t181)) = some (r1, r2) := H
 have A3 := zK A30; clear A30
 simp only [Option.some.injEq, Prod.mk.injEq] at H
 obtain ⟨rfl, rfl⟩ := H
 go_enter Try.func16, Try.ntmps16
 go_wp2_with (first | ((with_reducible refine zC (f := 39) rfl ?_); refine goesL_ (some 8) rfl rfl Try.func39 (by kernel_rfl) rfl #[.slice A0 l0.length c0, .int .i64 a1, .bool true] rfl (by (try simp only [List.map_toArray, List.map_cons, List.map_nil]); first | done | rfl | (simp only [List.length_drop, List.length_take]; rfl)) ?_; (with_reducible refine (shadow_all.calls k (fun k_ => (P0_ k_ ∨ w.heap.size ≤ k_)) _ _ l0 a1 true t178 t181 _ ?side1 A3.out).mono ?_); (case side1 => exact HO0.out); rintro e w4 ⟨v179, rfl, ho0, hb⟩; refine ⟨_, rfl, ?_⟩; replace HO0 := zK (Kd.V_elder' (zv HO0) (Kd.N_base ho0) hb); have HO180 := zK (Kd.N_lower (Kd.N_mono (ok' := fun k_ => (P0_ k_ ∨ w.heap.size ≤ k_)) ho0 (fun k_ hk_ => Or.elim hk_ (fun hs_ => hs_) (fun hn_ => (.inr (Nat.le_trans (below_size (zo HB)) hn_))))) (below_size (zo HB))); replace HB := zK (below_step (zo HB) hb); (try clear hb); (try clear hb2); (try clear hk); (try clear hi); (try clear ho0)))
 go_ret2
 exact ⟨_, by first | rfl | (simp [errW_none, errW_some] <;> rfl) | (simp [*, errW_none, errW_some] <;> rfl), by (with_reducible repeat (first | apply nA | apply nN | apply nD)); exact HO180.out, zo HB⟩

/-! ### sequiturlaw30_alive: function 12 -/
def sequiturlaw30_alive.f (k : Nat)  : Option (Bool) := (some (([(⟨(⟨1, (([(⟨0, (-2)⟩ : S68)] : List (S68)))⟩ : S62), false⟩ : S70), (⟨(⟨(-5), (([(⟨0, 3⟩ : S68)] : List (S68)))⟩ : S62), false⟩ : S70)] : List (S70)) : List (S70))).bind fun y188 => ((shadow_Real.f k y188 0).bind fun bt191 => ((shadow_Dark.f k y188 0).bind fun bt195 => (if bt191.2 = 0 then (if bt195.2 = 0 then (if (bt191.1.length : Int) = 1 then (if (bt195.1.length : Int) = 1 then (if 0 < (bt191.1.length : Int) then (if ((rd_T72 bt191.1 0).f0.f0.f0) = (-7) then (if 0 < (bt195.1.length : Int) then (if ((rd_T72 bt195.1 0).f0.f0.f0) = (-5) then (if ((rd_T72 bt191.1 0).f1) = 0 then (some (((rd_T72 bt191.1 0).f2) == 1)) else (none)) else (none)) else (none)) else (none)) else (none)) else (none)) else (none)) else (none)) else (none))))
theorem sequiturlaw30_alive.mono : ∀ k, LeO (sequiturlaw30_alive.f k ) (sequiturlaw30_alive.f (k + 1) ) := by
 intro  k
 unfold sequiturlaw30_alive.f
 repeat' first
   | (with_reducible exact shadow_Dark.mono _ _ _)
   | (with_reducible exact shadow_Real.mono _ _ _)
   | (with_reducible exact LeO.refl _)
   | (with_reducible exact LeO.none _)
   | (with_reducible refine LeO.ite ?_ ?_)
   | (with_reducible refine LeO.bind ?_ (fun _ => ?_))
   | exact shadow_Dark.mono _ _ _
   | exact shadow_Real.mono _ _ _
   | exact LeO.none _
   | refine LeO.ite ?_ ?_
   | refine LeO.bind ?_ (fun _ => ?_)
set_option maxHeartbeats 8000000 in
set_option maxRecDepth 100000 in
theorem sequiturlaw30_alive.calls (k : Nat)  (r : Bool) (w : World) (h : sequiturlaw30_alive.f k  = some r) :
  Calls Try.prog 12 #[] w fun e w' => e = .returned (.bool r) ∧ Below w.heap.size w w' := by
 have hu68 := Try.underlying68
 have hu62 := Try.underlying62
 have hu70 := Try.underlying70
 have HB := zK (Below.refl w.heap.size w)
 have H : ((some (([(⟨(⟨1, (([(⟨0, (-2)⟩ : S68)] : List (S68)))⟩ : S62), false⟩ : S70), (⟨(⟨(-5), (([(⟨0, 3⟩ : S68)] : List (S68)))⟩ : S62), false⟩ : S70)] : List (S70)) : List (S70))).bind fun y188 => ((shadow_Real.f k y188 0).bind fun bt191 => ((shadow_Dark.f k y188 0).bind fun bt195 => (if bt191.2 = 0 then (if bt195.2 = 0 then (if (bt191.1.length : Int) = 1 then (if (bt195.1.length : Int) = 1 then (if 0 < (bt191.1.length : Int) then (if ((rd_T72 bt191.1 0).f0.f0.f0) = (-7) then (if 0 < (bt195.1.length : Int) then (if ((rd_T72 bt195.1 0).f0.f0.f0) = (-5) then (if ((rd_T72 bt191.1 0).f1) = 0 then (some (((rd_T72 bt191.1 0).f2) == 1)) else (none)) else (none)) else (none)) else (none)) else (none)) else (none)) else (none)) else (none)) else (none))))) = some r := h
 clear h
 obtain ⟨y182, hy182⟩ : ∃ y_ : List (S68), y_ = (([(⟨0, (-2)⟩ : S68)] : List (S68))) := ⟨_, rfl⟩
 replace H : ((some (([(⟨(⟨1, y182⟩ : S62), false⟩ : S70), (⟨(⟨(-5), (([(⟨0, 3⟩ : S68)] : List (S68)))⟩ : S62), false⟩ : S70)] : List (S70)) : List (S70))).bind fun y188 => ((shadow_Real.f k y188 0).bind fun bt191 => ((shadow_Dark.f k y188 0).bind fun bt195 => (if bt191.2 = 0 then (if bt195.2 = 0 then (if (bt191.1.length : Int) = 1 then (if (bt195.1.length : Int) = 1 then (if 0 < (bt191.1.length : Int) then (if ((rd_T72 bt191.1 0).f0.f0.f0) = (-7) then (if 0 < (bt195.1.length : Int) then (if ((rd_T72 bt195.1 0).f0.f0.f0) = (-5) then (if ((rd_T72 bt191.1 0).f1) = 0 then (some (((rd_T72 bt191.1 0).f2) == 1)) else (none)) else (none)) else (none)) else (none)) else (none)) else (none)) else (none)) else (none)) else (none))))) = some r := by first | (rw [hy182]; with_reducible exact H) | (have H2_ := (Option.bind_some _ _).symm.trans H; rw [hy182]; with_reducible exact H2_) | (have H2_ := (Option.bind_some _ _).symm.trans H; with_reducible exact H2_) | with_reducible exact H | (rw [hy182]; exact H) | exact H
 have Ny182 := zK hy182; clear hy182
 obtain ⟨y185, hy185⟩ : ∃ y_ : List (S68), y_ = (([(⟨0, 3⟩ : S68)] : List (S68))) := ⟨_, rfl⟩
 replace H : ((some (([(⟨(⟨1, y182⟩ : S62), false⟩ : S70), (⟨(⟨(-5), y185⟩ : S62), false⟩ : S70)] : List (S70)) : List (S70))).bind fun y188 => ((shadow_Real.f k y188 0).bind fun bt191 => ((shadow_Dark.f k y188 0).bind fun bt195 => (if bt191.2 = 0 then (if bt195.2 = 0 then (if (bt191.1.length : Int) = 1 then (if (bt195.1.length : Int) = 1 then (if 0 < (bt191.1.length : Int) then (if ((rd_T72 bt191.1 0).f0.f0.f0) = (-7) then (if 0 < (bt195.1.length : Int) then (if ((rd_T72 bt195.1 0).f0.f0.f0) = (-5) then (if ((rd_T72 bt191.1 0).f1) = 0 then (some (((rd_T72 bt191.1 0).f2) == 1)) else (none)) else (none)) else (none)) else (none)) else (none)) else (none)) else (none)) else (none)) else (none))))) = some r := by first | (rw [hy185]; with_reducible exact H) | (have H2_ := (Option.bind_some _ _).symm.trans H; rw [hy185]; with_reducible exact H2_) | (have H2_ := (Option.bind_some _ _).symm.trans H; with_reducible exact H2_) | with_reducible exact H | (rw [hy185]; exact H) | exact H
 have Ny185 := zK hy185; clear hy185
 obtain ⟨y188, hy188⟩ : ∃ y_ : List (S70), y_ = (([(⟨(⟨1, y182⟩ : S62), false⟩ : S70), (⟨(⟨(-5), y185⟩ : S62), false⟩ : S70)] : List (S70))) := ⟨_, rfl⟩
 replace H : ((shadow_Real.f k y188 0).bind fun bt191 => ((shadow_Dark.f k y188 0).bind fun bt195 => (if bt191.2 = 0 then (if bt195.2 = 0 then (if (bt191.1.length : Int) = 1 then (if (bt195.1.length : Int) = 1 then (if 0 < (bt191.1.length : Int) then (if ((rd_T72 bt191.1 0).f0.f0.f0) = (-7) then (if 0 < (bt195.1.length : Int) then (if ((rd_T72 bt195.1 0).f0.f0.f0) = (-5) then (if ((rd_T72 bt191.1 0).f1) = 0 then (some (((rd_T72 bt191.1 0).f2) == 1)) else (none)) else (none)) else (none)) else (none)) else (none)) else (none)) else (none)) else (none)) else (none)))) = some r := by first | (rw [hy188]; with_reducible exact H) | (have H2_ := (Option.bind_some _ _).symm.trans H; rw [hy188]; with_reducible exact H2_) | (have H2_ := (Option.bind_some _ _).symm.trans H; with_reducible exact H2_) | with_reducible exact H | (rw [hy188]; exact H) | exact H
 have Ny188 := zK hy188; clear hy188; replace H := Option.bind_eq_some_iff.mp H
 obtain ⟨⟨t191, t194⟩, A10, H⟩ := H
 replace H : ((shadow_Dark.f k y188 0).bind fun bt195 => (if t194 = 0 then (if bt195.2 = 0 then (if (t191.length : Int) = 1 then (if (bt195.1.length : Int) = 1 then (if 0 < (t191.length : Int) then (if ((rd_T72 t191 0).f0.f0.f0) = (-7) then (if 0 < (bt195.1.length : Int) then (if ((rd_T72 bt195.1 0).f0.f0.f0) = (-5) then (if ((rd_T72 t191 0).f1) = 0 then (some (((rd_T72 t191 0).f2) == 1)) else (none)) else (none)) else (none)) else (none)) else (none)) else (none)) else (none)) else (none)) else (none))) = some r := H
 have A1 := zK A10; clear A10; replace H := Option.bind_eq_some_iff.mp H
 obtain ⟨⟨t195, t198⟩, A20, H⟩ := H
 replace H : (if t194 = 0 then (if t198 = 0 then (if (t191.length : Int) = 1 then (if (t195.length : Int) = 1 then (if 0 < (t191.length : Int) then (if ((rd_T72 t191 0).f0.f0.f0) = (-7) then (if 0 < (t195.length : Int) then (if ((rd_T72 t195 0).f0.f0.f0) = (-5) then (if ((rd_T72 t191 0).f1) = 0 then (some (((rd_T72 t191 0).f2) == 1)) else (none)) else (none)) else (none)) else (none)) else (none)) else (none)) else (none)) else (none)) else (none)) = some r := H
 have A2 := zK A20; clear A20
 by_cases c3 : t194 = 0
 ·rw [if_pos c3] at H
  have c3b0 : (t194 == 0) = true := beq_iff_eq.mpr c3
  have c3b1 : (t194 != 0) = false := bne_eq_false_iff_eq.mpr c3; clear c3
  by_cases c4 : t198 = 0
  ·rw [if_pos c4] at H
   have c4b0 : (t198 == 0) = true := beq_iff_eq.mpr c4
   have c4b1 : (t198 != 0) = false := bne_eq_false_iff_eq.mpr c4; clear c4
   by_cases c5 : (t191.length : Int) = 1
   ·rw [if_pos c5] at H
    have c5b0 : ((t191.length : Int) == 1) = true := beq_iff_eq.mpr c5
    have c5b1 : ((t191.length : Int) != 1) = false := bne_eq_false_iff_eq.mpr c5
    clear c5
    by_cases c6 : (t195.length : Int) = 1
    ·rw [if_pos c6] at H
     have c6b0 : ((t195.length : Int) == 1) = true := beq_iff_eq.mpr c6
     have c6b1 : ((t195.length : Int) != 1) = false := bne_eq_false_iff_eq.mpr c6
     clear c6
     by_cases c7 : 0 < (t191.length : Int)
     ·rw [if_pos c7] at H
      have c7b0 : decide (0 < (t191.length : Int)) = true := decide_eq_true c7
      have c7b1 : decide (0 < t191.length) = true := decide_eq_true (by omega)
      clear c7
      by_cases c8 : ((rd_T72 t191 0).f0.f0.f0) = (-7)
      ·rw [if_pos c8] at H
       have c8b0 : (((rd_T72 t191 0).f0.f0.f0) == (-7)) = true := beq_iff_eq.mpr c8
       have c8b1 : (((rd_T72 t191 0).f0.f0.f0) != (-7)) = false := bne_eq_false_iff_eq.mpr c8
       clear c8
       by_cases c9 : 0 < (t195.length : Int)
       ·rw [if_pos c9] at H
        have c9b0 : decide (0 < (t195.length : Int)) = true := decide_eq_true c9
        have c9b1 : decide (0 < t195.length) = true := decide_eq_true (by omega)
        clear c9
        by_cases c10 : ((rd_T72 t195 0).f0.f0.f0) = (-5)
        ·rw [if_pos c10] at H
         have c10b0 : (((rd_T72 t195 0).f0.f0.f0) == (-5)) = true := beq_iff_eq.mpr c10
         have c10b1 : (((rd_T72 t195 0).f0.f0.f0) != (-5)) = false := bne_eq_false_iff_eq.mpr c10
         clear c10
         by_cases c11 : ((rd_T72 t191 0).f1) = 0
         ·rw [if_pos c11] at H
          have c11b0 : (((rd_T72 t191 0).f1) == 0) = true := beq_iff_eq.mpr c11
          have c11b1 : (((rd_T72 t191 0).f1) != 0) = false := bne_eq_false_iff_eq.mpr c11
          clear c11
          obtain rfl := Option.some.inj H
          go_enter Try.func12, Try.ntmps12
          go_wp2_with (first | ((with_reducible refine gate_dst (N := 7) rfl ?_); (try (refine zG (by rfl) ?_; dsimp only)); refine Kd.R_lit k68 _ 68 ?hg (N := 7) ?hd (xs := ([(⟨0, (-2)⟩ : S68)] : List (S68))) (inner := [.int .i64 0, .int .i64 (-2)]) (ok := fun _ => True) (okp := fun _ => True) ?hr ?hp (fun _ hk => hk) trivial (Below.refl _ _) (Nat.le_refl _) (by simp) ?_; (case hd => rfl); (case hg => rfl); (case hr => first | (go_simp; done) | (go_simp; rfl)); (case hp => exact (Reps.c2 (show Kd.M k68 _ _ _ (⟨0, (-2)⟩ : S68) [.int .i64 0, .int .i64 (-2)] from (k68_mkM _ _ _ (⟨0, (-2)⟩ : S68) )) (Reps.none _ _))); intro v183 w12 ho13 hb hg_ hnew_; clear hg_ hnew_; (first | rw [← Ny182.out] at ho13 | (simp only [Int.reduceToNat] at ho13; rw [← Ny182.out] at ho13)); have HO184 := zK (Kd.R_lower ho13 (below_size (zo HB))); replace HB := zK (below_step (zo HB) hb); clear hb ho13; obtain ⟨Ao14, co14, eo14⟩ := Kd.R_slice HO184.out; subst eo14) | ((with_reducible refine gate_dst (N := 11) rfl ?_); (try (refine zG (by rfl) ?_; dsimp only)); refine Kd.R_lit k68 _ 68 ?hg (N := 11) ?hd (xs := ([(⟨0, 3⟩ : S68)] : List (S68))) (inner := [.int .i64 0, .int .i64 3]) (ok := fun _ => True) (okp := fun _ => True) ?hr ?hp (fun _ hk => hk) trivial (Below.refl _ _) (Nat.le_refl _) (by simp) ?_; (case hd => rfl); (case hg => rfl); (case hr => first | (go_simp; done) | (go_simp; rfl)); (case hp => exact (Reps.c2 (show Kd.M k68 _ _ _ (⟨0, 3⟩ : S68) [.int .i64 0, .int .i64 3] from (k68_mkM _ _ _ (⟨0, 3⟩ : S68) )) (Reps.none _ _))); intro v186 w15 ho16 hb hg_ hnew_; clear hg_ hnew_; (first | rw [← Ny185.out] at ho16 | (simp only [Int.reduceToNat] at ho16; rw [← Ny185.out] at ho16)); have HO187 := zK (Kd.R_lower (Kd.R_new' ho16 (Kd.R_lt (zr HO184))) (below_size (zo HB))); replace HO184 := zK (Kd.R_elder' (zr HO184) (Kd.R_base ho16) hb); replace HB := zK (below_step (zo HB) hb); clear hb ho16; obtain ⟨Ao17, co17, eo17⟩ := Kd.R_slice HO187.out; subst eo17) | ((with_reducible refine gate_dst (N := 14) rfl ?_); (try (refine zG (by rfl) ?_; dsimp only)); refine Kd.N_lit k70 _ 70 ?hg (N' := 14) ?hd (xs := ([(⟨(⟨1, y182⟩ : S62), false⟩ : S70), (⟨(⟨(-5), y185⟩ : S62), false⟩ : S70)] : List (S70))) (inner := [.int .i64 1, .slice Ao14 y182.length co14, .bool false, .int .i64 (-5), .slice Ao17 y185.length co17, .bool false]) (ok := (fun _ => True)) (okp := (fun _ => True)) ?hr ?hp (fun _ hk => hk) ((show ∀ k_, w15.heap.size ≤ k_ → (fun _ => True) k_ from fun k_ hk => trivial) _ (Nat.le_refl _)) (Below.refl _ _) (Nat.le_refl _) (by simp) ?_; (case hd => rfl); (case hg => rfl); (case hr => first | (go_simp; done) | (go_simp; rfl)); (case hp => exact (Reps.c3 (show Kd.FK k70 _ _ (⟨(⟨1, y182⟩ : S62), false⟩ : S70) [.int .i64 1, .slice Ao14 y182.length co14, .bool false] from (k70_mkF _ _ (⟨(⟨1, y182⟩ : S62), false⟩ : S70) (Kd.R_reads' (Kd.R_mono (ok' := (fun _ => True)) (HO184.out) (fun k_ hk => trivial))).2.1 (Kd.R_F (Kd.R_mono (ok' := (fun _ => True)) (HO184.out) (fun k_ hk => trivial))))) (Reps.c3 (show Kd.FK k70 _ _ (⟨(⟨(-5), y185⟩ : S62), false⟩ : S70) [.int .i64 (-5), .slice Ao17 y185.length co17, .bool false] from (k70_mkF _ _ (⟨(⟨(-5), y185⟩ : S62), false⟩ : S70) (Kd.R_reads' (Kd.R_mono (ok' := (fun _ => True)) (HO187.out) (fun k_ hk => trivial))).2.1 (Kd.R_F (Kd.R_mono (ok' := (fun _ => True)) (HO187.out) (fun k_ hk => trivial))))) (Reps.none _ _)))); intro v189 w18 ho19 hb hg_ hnew_; clear hg_ hnew_; (first | rw [← Ny188.out] at ho19 | (simp only [Int.reduceToNat] at ho19; rw [← Ny188.out] at ho19)); have HO190 := zK (Kd.N_lower ho19 (below_size (zo HB))); replace HB := zK (below_step (zo HB) hb); clear HO184 HO187 hb ho19; obtain ⟨Ao20, co20, eo20⟩ := Kd.N_slice HO190.out; subst eo20) | ((with_reducible refine zC (f := 14) rfl ?_); refine goesL_ (some 17) rfl rfl Try.func14 (by kernel_rfl) rfl #[.slice Ao20 y188.length co20, .int .i64 0] rfl (by (try simp only [List.map_toArray, List.map_cons, List.map_nil]); first | done | rfl | (simp only [List.length_drop, List.length_take]; rfl)) ?_; (with_reducible refine (shadow_Real.calls k (fun k_ => True) _ _ y188 0 t191 t194 _ ?side1 A1.out).mono ?_); (case side1 => exact Kd.N_V (HO190.out)); rintro e w21 ⟨v192, rfl, ho0, hb⟩; refine ⟨_, rfl, ?_⟩; replace HO190 := zK (Kd.N_elder' (zn HO190) (Kd.N_base ho0) hb); have HO193 := zK (Kd.N_lower (Kd.N_mono (ok' := fun k_ => True) ho0 (fun k_ hk_ => trivial)) (below_size (zo HB))); replace HB := zK (below_step (zo HB) hb); (try clear hb); (try clear hb2); (try clear hk); (try clear hi); (try clear ho0)) | ((with_reducible refine zC (f := 16) rfl ?_); refine goesL_ (some 22) rfl rfl Try.func16 (by kernel_rfl) rfl #[.slice Ao20 y188.length co20, .int .i64 0] rfl (by (try simp only [List.map_toArray, List.map_cons, List.map_nil]); first | done | rfl | (simp only [List.length_drop, List.length_take]; rfl)) ?_; (with_reducible refine (shadow_Dark.calls k (fun k_ => (True ∧ some k_ ≠ (v192 : Value).ownBlock)) _ _ y188 0 t195 t198 _ ?side1 A2.out).mono ?_); (case side1 => exact Kd.N_V (HO190.out)); rintro e w22 ⟨v196, rfl, ho0, hb⟩; refine ⟨_, rfl, ?_⟩; replace HO190 := zK (Kd.N_elder' (zn HO190) (Kd.N_base ho0) hb); have HO197 := zK (Kd.N_lower (Kd.N_mono (ok' := fun k_ => some k_ ≠ (v192 : Value).ownBlock) ho0 (fun k_ hk_ => Or.elim hk_ (fun hs_ => hs_.2) (fun hn_ => (Kd.fresh' (Kd.N_lt (zn HO193)) k_ hn_)))) (below_size (zo HB))); replace HO193 := zK (Kd.N_elder' (zn HO193) (Kd.N_base ho0) hb); replace HB := zK (below_step (zo HB) hb); (try clear hb); (try clear hb2); (try clear hk); (try clear hi); (try clear ho0); obtain ⟨Ao23, co23, eo23⟩ := Kd.N_slice HO193.out; subst eo23; obtain ⟨Ao24, co24, eo24⟩ := Kd.N_slice HO197.out; subst eo24; have p199 : 0 ≤ (0 : Int) := (by omega); have q199 : 0 < (t191.length : Int) := of_decide_eq_true (by first | (with_reducible assumption) | assumption); obtain ⟨ad199, A199_1, c199_1, e199, hx199_0, hx199_1, hx199_2, hx199_3, hx199_4, hl199_1, hi199_1⟩ := at_T72 (Kd.N_reads' HO193.out).2.2 0 p199 q199; cases e199; obtain ⟨ce199, hce199, hMe199, hcc199⟩ := Kd.N_get HO193.out z72 0 p199 (by first | exact q199 | exact of_decide_eq_true (by first | (with_reducible assumption) | assumption) | (have e_ := (Kd.N_reads' HO193.out).1; omega)); obtain ⟨ua199_1, uc199_1, rfl, ul199_1, ge199_1⟩ := k72_openF hMe199; have hv199_1 := hcc199 1 _ rfl; rw [add_field _ _ 1 (by omega)] at hv199_1; replace hv199_1 := Option.some.inj (hv199_1.symm.trans hx199_1); injection hv199_1 with hva_ hvn_ hvc_; rw [hva_] at ge199_1; rw [hvc_] at ul199_1; have HL199_1 := zK (show Kd.V k68 68 _ w.heap.size _ _ ((rd_T72 t191 0).f0.f0.f1) from Kd.V_mk ul199_1 ge199_1); clear hva_ hvn_ hvc_ ge199_1 ul199_1 hcc199 hce199; have qi199 : (0 < t191.length) = True := eq_true (by omega); (try rw [show ((0 : Int)).toNat = 0 from rfl] at hx199_0); (try rw [show 0 * 5 = 0 from rfl] at hx199_0); (try rw [Addr.add_zero'] at hx199_0); (try rw [show ((0 : Int)).toNat = 0 from rfl] at hx199_1); (try rw [show 0 * 5 = 0 from rfl] at hx199_1); (try rw [Addr.add_zero'] at hx199_1); (try rw [show ((0 : Int)).toNat = 0 from rfl] at hx199_2); (try rw [show 0 * 5 = 0 from rfl] at hx199_2); (try rw [Addr.add_zero'] at hx199_2); (try rw [show ((0 : Int)).toNat = 0 from rfl] at hx199_3); (try rw [show 0 * 5 = 0 from rfl] at hx199_3); (try rw [Addr.add_zero'] at hx199_3); (try rw [show ((0 : Int)).toNat = 0 from rfl] at hx199_4); (try rw [show 0 * 5 = 0 from rfl] at hx199_4); (try rw [Addr.add_zero'] at hx199_4); have HR199_1 := zK hi199_1; have HC199_1 := zK hl199_1; clear hi199_1 hl199_1; replace p199 := eq_true p199; replace q199 := eq_true q199; have p200 : 0 ≤ (0 : Int) := (by omega); have q200 : 0 < (t195.length : Int) := of_decide_eq_true (by first | (with_reducible assumption) | assumption); obtain ⟨ad200, A200_1, c200_1, e200, hx200_0, hx200_1, hx200_2, hx200_3, hx200_4, hl200_1, hi200_1⟩ := at_T72 (Kd.N_reads' HO197.out).2.2 0 p200 q200; cases e200; obtain ⟨ce200, hce200, hMe200, hcc200⟩ := Kd.N_get HO197.out z72 0 p200 (by first | exact q200 | exact of_decide_eq_true (by first | (with_reducible assumption) | assumption) | (have e_ := (Kd.N_reads' HO197.out).1; omega)); obtain ⟨ua200_1, uc200_1, rfl, ul200_1, ge200_1⟩ := k72_openF hMe200; have hv200_1 := hcc200 1 _ rfl; rw [add_field _ _ 1 (by omega)] at hv200_1; replace hv200_1 := Option.some.inj (hv200_1.symm.trans hx200_1); injection hv200_1 with hva_ hvn_ hvc_; rw [hva_] at ge200_1; rw [hvc_] at ul200_1; have HL200_1 := zK (show Kd.V k68 68 _ w.heap.size _ _ ((rd_T72 t195 0).f0.f0.f1) from Kd.V_mk ul200_1 ge200_1); clear hva_ hvn_ hvc_ ge200_1 ul200_1 hcc200 hce200; have qi200 : (0 < t195.length) = True := eq_true (by omega); (try rw [show ((0 : Int)).toNat = 0 from rfl] at hx200_0); (try rw [show 0 * 5 = 0 from rfl] at hx200_0); (try rw [Addr.add_zero'] at hx200_0); (try rw [show ((0 : Int)).toNat = 0 from rfl] at hx200_1); (try rw [show 0 * 5 = 0 from rfl] at hx200_1); (try rw [Addr.add_zero'] at hx200_1); (try rw [show ((0 : Int)).toNat = 0 from rfl] at hx200_2); (try rw [show 0 * 5 = 0 from rfl] at hx200_2); (try rw [Addr.add_zero'] at hx200_2); (try rw [show ((0 : Int)).toNat = 0 from rfl] at hx200_3); (try rw [show 0 * 5 = 0 from rfl] at hx200_3); (try rw [Addr.add_zero'] at hx200_3); (try rw [show ((0 : Int)).toNat = 0 from rfl] at hx200_4); (try rw [show 0 * 5 = 0 from rfl] at hx200_4); (try rw [Addr.add_zero'] at hx200_4); have HR200_1 := zK hi200_1; have HC200_1 := zK hl200_1; clear hi200_1 hl200_1; replace p200 := eq_true p200; replace q200 := eq_true q200; have p201 : 0 ≤ (0 : Int) := (by omega); have q201 : 0 < (t191.length : Int) := of_decide_eq_true (by first | (with_reducible assumption) | assumption); obtain ⟨ad201, A201_1, c201_1, e201, hx201_0, hx201_1, hx201_2, hx201_3, hx201_4, hl201_1, hi201_1⟩ := at_T72 (Kd.N_reads' HO193.out).2.2 0 p201 q201; obtain rfl : ad199 = ad201 := (by injection e201); obtain ⟨ce201, hce201, hMe201, hcc201⟩ := Kd.N_get HO193.out z72 0 p201 (by first | exact q201 | exact of_decide_eq_true (by first | (with_reducible assumption) | assumption) | (have e_ := (Kd.N_reads' HO193.out).1; omega)); obtain ⟨ua201_1, uc201_1, rfl, ul201_1, ge201_1⟩ := k72_openF hMe201; have hv201_1 := hcc201 1 _ rfl; rw [add_field _ _ 1 (by omega)] at hv201_1; replace hv201_1 := Option.some.inj (hv201_1.symm.trans hx201_1); injection hv201_1 with hva_ hvn_ hvc_; rw [hva_] at ge201_1; rw [hvc_] at ul201_1; have HL201_1 := zK (show Kd.V k68 68 _ w.heap.size _ _ ((rd_T72 t191 0).f0.f0.f1) from Kd.V_mk ul201_1 ge201_1); clear hva_ hvn_ hvc_ ge201_1 ul201_1 hcc201 hce201; have qi201 : (0 < t191.length) = True := eq_true (by omega); (try rw [show ((0 : Int)).toNat = 0 from rfl] at hx201_0); (try rw [show 0 * 5 = 0 from rfl] at hx201_0); (try rw [Addr.add_zero'] at hx201_0); (try rw [show ((0 : Int)).toNat = 0 from rfl] at hx201_1); (try rw [show 0 * 5 = 0 from rfl] at hx201_1); (try rw [Addr.add_zero'] at hx201_1); (try rw [show ((0 : Int)).toNat = 0 from rfl] at hx201_2); (try rw [show 0 * 5 = 0 from rfl] at hx201_2); (try rw [Addr.add_zero'] at hx201_2); (try rw [show ((0 : Int)).toNat = 0 from rfl] at hx201_3); (try rw [show 0 * 5 = 0 from rfl] at hx201_3); (try rw [Addr.add_zero'] at hx201_3); (try rw [show ((0 : Int)).toNat = 0 from rfl] at hx201_4); (try rw [show 0 * 5 = 0 from rfl] at hx201_4); (try rw [Addr.add_zero'] at hx201_4); have HR201_1 := zK hi201_1; have HC201_1 := zK hl201_1; clear hi201_1 hl201_1; replace p201 := eq_true p201; replace q201 := eq_true q201; have ea_ := Option.some.inj (hx199_1.symm.trans hx201_1); injection ea_ with ea_ en_ ec_; subst ea_; subst ec_; clear en_; have p202 : 0 ≤ (0 : Int) := (by omega); have q202 : 0 < (t191.length : Int) := of_decide_eq_true (by first | (with_reducible assumption) | assumption); obtain ⟨ad202, A202_1, c202_1, e202, hx202_0, hx202_1, hx202_2, hx202_3, hx202_4, hl202_1, hi202_1⟩ := at_T72 (Kd.N_reads' HO193.out).2.2 0 p202 q202; obtain rfl : ad199 = ad202 := (by injection e202); obtain ⟨ce202, hce202, hMe202, hcc202⟩ := Kd.N_get HO193.out z72 0 p202 (by first | exact q202 | exact of_decide_eq_true (by first | (with_reducible assumption) | assumption) | (have e_ := (Kd.N_reads' HO193.out).1; omega)); obtain ⟨ua202_1, uc202_1, rfl, ul202_1, ge202_1⟩ := k72_openF hMe202; have hv202_1 := hcc202 1 _ rfl; rw [add_field _ _ 1 (by omega)] at hv202_1; replace hv202_1 := Option.some.inj (hv202_1.symm.trans hx202_1); injection hv202_1 with hva_ hvn_ hvc_; rw [hva_] at ge202_1; rw [hvc_] at ul202_1; have HL202_1 := zK (show Kd.V k68 68 _ w.heap.size _ _ ((rd_T72 t191 0).f0.f0.f1) from Kd.V_mk ul202_1 ge202_1); clear hva_ hvn_ hvc_ ge202_1 ul202_1 hcc202 hce202; have qi202 : (0 < t191.length) = True := eq_true (by omega); (try rw [show ((0 : Int)).toNat = 0 from rfl] at hx202_0); (try rw [show 0 * 5 = 0 from rfl] at hx202_0); (try rw [Addr.add_zero'] at hx202_0); (try rw [show ((0 : Int)).toNat = 0 from rfl] at hx202_1); (try rw [show 0 * 5 = 0 from rfl] at hx202_1); (try rw [Addr.add_zero'] at hx202_1); (try rw [show ((0 : Int)).toNat = 0 from rfl] at hx202_2); (try rw [show 0 * 5 = 0 from rfl] at hx202_2); (try rw [Addr.add_zero'] at hx202_2); (try rw [show ((0 : Int)).toNat = 0 from rfl] at hx202_3); (try rw [show 0 * 5 = 0 from rfl] at hx202_3); (try rw [Addr.add_zero'] at hx202_3); (try rw [show ((0 : Int)).toNat = 0 from rfl] at hx202_4); (try rw [show 0 * 5 = 0 from rfl] at hx202_4); (try rw [Addr.add_zero'] at hx202_4); have HR202_1 := zK hi202_1; have HC202_1 := zK hl202_1; clear hi202_1 hl202_1; replace p202 := eq_true p202; replace q202 := eq_true q202; have ea_ := Option.some.inj (hx199_1.symm.trans hx202_1); injection ea_ with ea_ en_ ec_; subst ea_; subst ec_; clear en_))
          go_ret
          exact ⟨by first | rfl | (simp [errW_none, errW_some] <;> rfl) | (simp [*, errW_none, errW_some] <;> rfl), zo HB⟩
         ·rw [if_neg c11] at H
          exact absurd H (by simp)
        ·rw [if_neg c10] at H
         exact absurd H (by simp)
       ·rw [if_neg c9] at H
        exact absurd H (by simp)
      ·rw [if_neg c8] at H
       exact absurd H (by simp)
     ·rw [if_neg c7] at H
      exact absurd H (by simp)
    ·rw [if_neg c6] at H
     exact absurd H (by simp)
   ·rw [if_neg c5] at H
    exact absurd H (by simp)
  ·rw [if_neg c4] at H
   exact absurd H (by simp)
 ·rw [if_neg c3] at H
  exact absurd H (by simp)

/-! ### sequiturref30_Long: function 13 -/
def sequiturref30_Long.l0 : Nat → List (S70) → Int → Option (Bool)
 | 0, _, _ => none
 | k + 1, x0, x5 => if x5 < (x0.length : Int) then (if 0 ≤ x5 then (if (((rd_T70 x0 x5).f0.f1).length : Int) > 70 then (some true) else (sequiturref30_Long.l0 k x0 (wrap64 (x5 + 1)))) else (none)) else (some false)
def sequiturref30_Long.f (k : Nat) (l0 : List (S70)) (a1 : Int) : Option (Bool) := if (l0.length : Int) > a1 then (some true) else (sequiturref30_Long.l0 k l0 0)
theorem sequiturref30_Long.mono_l : ∀ k, (∀ y0 y1, LeO (sequiturref30_Long.l0 k y0 y1) (sequiturref30_Long.l0 (k + 1) y0 y1))
 | 0 => fun _ _ r h => by simp [sequiturref30_Long.l0] at h
 | k + 1 => by
  have ih0 := sequiturref30_Long.mono_l k
  ·intro y0 y1
   unfold sequiturref30_Long.l0
   repeat' first
   | (with_reducible exact ih0 _ _)
   | (with_reducible exact LeO.refl _)
   | (with_reducible exact LeO.none _)
   | (with_reducible refine LeO.ite ?_ ?_)
   | (with_reducible refine LeO.bind ?_ (fun _ => ?_))
   | exact ih0 _ _
   | exact LeO.none _
   | refine LeO.ite ?_ ?_
   | refine LeO.bind ?_ (fun _ => ?_)
theorem sequiturref30_Long.mono : ∀ a0 a1 k, LeO (sequiturref30_Long.f k a0 a1) (sequiturref30_Long.f (k + 1) a0 a1) := by
 intro a0 a1 k
 have ih0 := sequiturref30_Long.mono_l k
 unfold sequiturref30_Long.f
 repeat' first
   | (with_reducible exact ih0 _ _)
   | (with_reducible exact LeO.refl _)
   | (with_reducible exact LeO.none _)
   | (with_reducible refine LeO.ite ?_ ?_)
   | (with_reducible refine LeO.bind ?_ (fun _ => ?_))
   | exact ih0 _ _
   | exact LeO.none _
   | refine LeO.ite ?_ ?_
   | refine LeO.bind ?_ (fun _ => ?_)
set_option maxHeartbeats 8000000 in
set_option maxRecDepth 100000 in
theorem sequiturref30_Long.calls (k : Nat) (A0 : Option Addr) (c0 : Nat) (l0 : List (S70)) (a1 : Int) (r : Bool) (w : World) (hr0 : Kd.C k70 w A0 l0.length l0) (hc0 : l0.length ≤ c0) (h : sequiturref30_Long.f k l0 a1 = some r) :
  Calls Try.prog 13 #[.slice A0 l0.length c0, .int .i64 a1] w fun e w' => e = .returned (.bool r) ∧ Drawn0 w w' := by
 have HR0 := zK hr0
 have HC0 := zK hc0; clear hr0 hc0
 have H : (if (l0.length : Int) > a1 then (some true) else (sequiturref30_Long.l0 k l0 0)) = some r := h
 clear h
 by_cases c3 : (l0.length : Int) > a1
 ·rw [if_pos c3] at H
  have c3b0 : decide (a1 < (l0.length : Int)) = true := decide_eq_true c3
  clear c3
  obtain rfl := Option.some.inj H
  go_enter Try.func13, Try.ntmps13
  go_wp2
  go_ret
  exact ⟨by first | rfl | (simp; done) | (simp [*]; done), by repeat (first | exact Drawn0.refl _ | apply Drawn0.step)⟩
 ·rw [if_neg c3] at H
  have c3b0 : decide (a1 < (l0.length : Int)) = false := decide_eq_false c3
  clear c3
  have H' := zK H; clear H
  go_enter Try.func13, Try.ntmps13
  go_wp2
  go_loopg [5] k (fun kq v5 w' => ∃ (x5_1 : Int), v5 = .int .i64 x5_1 ∧ Aside0 (sequiturref30_Long.l0 kq l0 x5_1 = some r) ∧ Aside0 (kq ≤ k) ∧ Drawn0 w w')
  case atStart => exact ⟨(0), (by first | rfl | (simp; done) | (simp [*]; done)), H', ⟨Nat.le_refl _⟩, by repeat (first | exact Drawn0.refl _ | apply Drawn0.step)⟩
  case round =>
   clear H'; try clear c1; try clear p2; try clear c3; try clear c3b0
   obtain ⟨x5_1, rfl, HA, HK1, ⟨m1, rfl⟩⟩ := hrel
   cases gk with
   | zero => exact absurd HA.out (by simp [sequiturref30_Long.l0])
   | succ k1 =>
    have H := HA.out; clear HA
    simp only [sequiturref30_Long.l0] at H
    by_cases c4 : x5_1 < (l0.length : Int)
    ·rw [if_pos c4] at H
     have c4b0 : decide (x5_1 < (l0.length : Int)) = true := decide_eq_true c4
     clear c4
     by_cases c5 : 0 ≤ x5_1
     ·rw [if_pos c5] at H
      have c5b0 : decide (0 ≤ x5_1) = true := decide_eq_true c5; clear c5
      by_cases c6 : (((rd_T70 l0 x5_1).f0.f1).length : Int) > 70
      ·rw [if_pos c6] at H
       have c6b0 : decide (70 < (((rd_T70 l0 x5_1).f0.f1).length : Int)) = true := decide_eq_true c6
       have c6b1 : decide (70 < ((rd_T70 l0 x5_1).f0.f1).length) = true := decide_eq_true (by omega)
       clear c6
       obtain rfl := Option.some.inj H
       have p203 : 0 ≤ (x5_1 : Int) := of_decide_eq_true (by first | (with_reducible assumption) | assumption)
       have q203 : x5_1 < (l0.length : Int) := of_decide_eq_true (by first | (with_reducible assumption) | assumption)
       obtain ⟨ad203, A203_1, c203_1, e203, hx203_0, hx203_1, hx203_2, hl203_1, hi203_1⟩ := at_T70 HR0.out x5_1 p203 q203
       cases e203
       have HR203_1 := zK hi203_1
       have HC203_1 := zK hl203_1; clear hi203_1 hl203_1
       replace p203 := eq_true p203
       replace q203 := eq_true q203
       go_wp2
       go_ret
       exact ⟨by first | rfl | (simp; done) | (simp [*]; done), by repeat (first | exact Drawn0.refl _ | apply Drawn0.step)⟩
      ·rw [if_neg c6] at H
       have c6b0 : decide (70 < (((rd_T70 l0 x5_1).f0.f1).length : Int)) = false := decide_eq_false c6
       have c6b1 : decide (70 < ((rd_T70 l0 x5_1).f0.f1).length) = false := decide_eq_false (by omega)
       clear c6
       have H' := zK H; clear H
       have p203 : 0 ≤ (x5_1 : Int) := of_decide_eq_true (by first | (with_reducible assumption) | assumption)
       have q203 : x5_1 < (l0.length : Int) := of_decide_eq_true (by first | (with_reducible assumption) | assumption)
       obtain ⟨ad203, A203_1, c203_1, e203, hx203_0, hx203_1, hx203_2, hl203_1, hi203_1⟩ := at_T70 HR0.out x5_1 p203 q203
       cases e203
       have HR203_1 := zK hi203_1
       have HC203_1 := zK hl203_1; clear hi203_1 hl203_1
       replace p203 := eq_true p203
       replace q203 := eq_true q203
       go_wp2
       go_roundg k1
       case measure => have := HK1.out; omega
       case rel => exact ⟨(wrap64 (x5_1 + 1)), (by first | rfl | (simp; done) | (simp [*]; done)), H', ⟨by have := HK1.out; omega⟩, by repeat (first | exact Drawn0.refl _ | apply Drawn0.step)⟩
     ·rw [if_neg c5] at H
      exact absurd H (by simp)
    ·rw [if_neg c4] at H
     have c4b0 : decide (x5_1 < (l0.length : Int)) = false := decide_eq_false c4
     clear c4
     obtain rfl := Option.some.inj H
     go_wp2
     go_ret
     exact ⟨by first | rfl | (simp; done) | (simp [*]; done), by repeat (first | exact Drawn0.refl _ | apply Drawn0.step)⟩

/-! ### shadow_many: function 64 -/
def shadow_many.f (a0 : Int) (a1 : Int) : Option (Int) := if a1 = 0 then (none) else (if (Int.tmod a0 a1) = 0 then (some (IntKind.u64.wrap (a0 - (IntKind.u64.wrap (Int.tdiv a0 a1))))) else (some (IntKind.u64.wrap (a0 - (IntKind.u64.wrap ((IntKind.u64.wrap (Int.tdiv a0 a1)) + 1))))))
set_option maxHeartbeats 8000000 in
set_option maxRecDepth 100000 in
theorem shadow_many.calls (a0 : Int) (a1 : Int) (r : Int) (w : World) (h : shadow_many.f a0 a1 = some r) :
  Calls Try.prog 64 #[.int .u64 a0, .int .u64 a1] w fun e w' => e = .returned (.int .u64 r) ∧ Drawn0 w w' := by
 have H : (if a1 = 0 then (none) else (if (Int.tmod a0 a1) = 0 then (some (IntKind.u64.wrap (a0 - (IntKind.u64.wrap (Int.tdiv a0 a1))))) else (some (IntKind.u64.wrap (a0 - (IntKind.u64.wrap ((IntKind.u64.wrap (Int.tdiv a0 a1)) + 1))))))) = some r := h
 clear h
 by_cases c3 : a1 = 0
 ·rw [if_pos c3] at H
  exact absurd H (by simp)
 ·rw [if_neg c3] at H
  have c3b0 : (a1 == 0) = false := beq_eq_false_iff_ne.mpr c3
  have c3b1 : (a1 != 0) = true := bne_iff_ne.mpr c3
  by_cases c4 : (Int.tmod a0 a1) = 0
  ·rw [if_pos c4] at H
   have c4b0 : ((Int.tmod a0 a1) == 0) = true := beq_iff_eq.mpr c4
   have c4b1 : ((Int.tmod a0 a1) != 0) = false := bne_eq_false_iff_eq.mpr c4
   clear c4
   obtain rfl := Option.some.inj H
   go_enter Try.func64, Try.ntmps64
   go_wp2
   go_ret
   exact ⟨by first | rfl | (simp; done) | (simp [*]; done), by repeat (first | exact Drawn0.refl _ | apply Drawn0.step)⟩
  ·rw [if_neg c4] at H
   have c4b0 : ((Int.tmod a0 a1) == 0) = false := beq_eq_false_iff_ne.mpr c4
   have c4b1 : ((Int.tmod a0 a1) != 0) = true := bne_iff_ne.mpr c4
   obtain rfl := Option.some.inj H
   go_enter Try.func64, Try.ntmps64
   go_wp2
   go_ret
   exact ⟨by first | rfl | (simp; done) | (simp [*]; done), by repeat (first | exact Drawn0.refl _ | apply Drawn0.step)⟩

/-! ### num_told: function 110 -/
def num_told.f (a0 : Int) (a1 : Bool) : Option (Int × Bool) := if a1 = true then (some (a0, true)) else (some (0, false))
set_option maxHeartbeats 8000000 in
set_option maxRecDepth 100000 in
theorem num_told.calls (a0 : Int) (a1 : Bool) (r1 : Int) (r2 : Bool) (w : World) (h : num_told.f a0 a1 = some (r1, r2)) :
  Calls Try.prog 110 #[.int .i64 a0, .bool a1] w fun e w' => e = .returned (.tuple #[.int .i64 r1, .bool r2]) ∧ Drawn0 w w' := by
 have H : (if a1 = true then (some (a0, true)) else (some (0, false))) = some (r1, r2) := h
 clear h
 by_cases c3 : a1 = true
 ·subst c3
  have H1 : (some (a0, true)) = some (r1, r2) := by rw [if_pos rfl] at H; exact H
  clear H; have H := H1; clear H1
  simp only [Option.some.injEq, Prod.mk.injEq] at H
  obtain ⟨rfl, rfl⟩ := H
  go_enter Try.func110, Try.ntmps110
  go_wp2
  go_ret2
  exact ⟨by first | rfl | (simp; done) | (simp [*]; done), by repeat (first | exact Drawn0.refl _ | apply Drawn0.step)⟩
 ·replace c3 := Bool.eq_false_iff.mpr c3
  subst c3
  have H1 : (some (0, false)) = some (r1, r2) := by rw [if_neg (show ¬ (false = true) by decide)] at H; exact H
  clear H; have H := H1; clear H1
  simp only [Option.some.injEq, Prod.mk.injEq] at H
  obtain ⟨rfl, rfl⟩ := H
  go_enter Try.func110, Try.ntmps110
  go_wp2
  go_ret2
  exact ⟨by first | rfl | (simp; done) | (simp [*]; done), by repeat (first | exact Drawn0.refl _ | apply Drawn0.step)⟩

/-! ### num_Sub: function 91 -/
def num_Sub.f (a0 : Int) (a1 : Int) : Option (Int × Bool) := (num_told.f (wrap64 (a0 - a1)) ((decide ((wrap64 (a0 - a1)) < a0)) == (decide (a1 > 0)))).bind fun bt204 => (some (bt204.1, bt204.2))
set_option maxHeartbeats 8000000 in
set_option maxRecDepth 100000 in
theorem num_Sub.calls (a0 : Int) (a1 : Int) (r1 : Int) (r2 : Bool) (w : World) (h : num_Sub.f a0 a1 = some (r1, r2)) :
  Calls Try.prog 91 #[.int .i64 a0, .int .i64 a1] w fun e w' => e = .returned (.tuple #[.int .i64 r1, .bool r2]) ∧ Drawn0 w w' := by
 have H : ((num_told.f (wrap64 (a0 - a1)) ((decide ((wrap64 (a0 - a1)) < a0)) == (decide (a1 > 0)))).bind fun bt204 => (some (bt204.1, bt204.2))) = some (r1, r2) := h
 clear h; replace H := Option.bind_eq_some_iff.mp H
 obtain ⟨⟨t204, t205⟩, A30, H⟩ := H
 replace H : (some (t204, t205)) = some (r1, r2) := H
 have A3 := zK A30; clear A30
 simp only [Option.some.injEq, Prod.mk.injEq] at H
 obtain ⟨rfl, rfl⟩ := H
 go_enter Try.func91, Try.ntmps91
 go_wp2_with (first | ((with_reducible refine zC (f := 110) rfl ?_); refine goesL_ (some 17) rfl rfl Try.func110 (by kernel_rfl) rfl #[.int .i64 (wrap64 (a0 - a1)), .bool ((decide ((wrap64 (a0 - a1)) < a0)) == (decide (a1 > 0)))] rfl (by (try simp only [List.map_toArray, List.map_cons, List.map_nil]); first | done | rfl | (simp only [List.length_drop, List.length_take]; rfl)) ?_; (with_reducible refine (num_told.calls (wrap64 (a0 - a1)) ((decide ((wrap64 (a0 - a1)) < a0)) == (decide (a1 > 0))) t204 t205 _ A3.out).mono ?_); rintro e w' ⟨rfl, ⟨nd, rfl⟩⟩; refine ⟨_, rfl, ?_⟩))
 go_ret2
 exact ⟨by first | rfl | (simp; done) | (simp [*]; done), by repeat (first | exact Drawn0.refl _ | apply Drawn0.step)⟩

/-! ### lin_right_1: function 106 -/
def lin_right_1.f (k : Nat) (a0_0 : Int) (l0_1 : List (S68)) : Option (Bool) := (lin_Right.f k a0_0 l0_1).bind fun t207 => (some (t207 != 0))
theorem lin_right_1.mono : ∀ a0 a1 k, LeO (lin_right_1.f k a0 a1) (lin_right_1.f (k + 1) a0 a1) := by
 intro a0 a1 k
 unfold lin_right_1.f
 repeat' first
   | (with_reducible exact lin_Right.mono _ _ _)
   | (with_reducible exact LeO.refl _)
   | (with_reducible exact LeO.none _)
   | (with_reducible refine LeO.ite ?_ ?_)
   | (with_reducible refine LeO.bind ?_ (fun _ => ?_))
   | exact lin_Right.mono _ _ _
   | exact LeO.none _
   | refine LeO.ite ?_ ?_
   | refine LeO.bind ?_ (fun _ => ?_)
set_option maxHeartbeats 8000000 in
set_option maxRecDepth 100000 in
theorem lin_right_1.calls (k : Nat) (a0_0 : Int) (A0_1 : Option Addr) (c0_1 : Nat) (l0_1 : List (S68)) (r : Bool) (w : World) (hr0_1 : Kd.C k68 w A0_1 l0_1.length l0_1) (hc0_1 : l0_1.length ≤ c0_1) (h : lin_right_1.f k a0_0 l0_1 = some r) :
  Calls Try.prog 106 #[.agg #[.int .i64 a0_0, .slice A0_1 l0_1.length c0_1]] w fun e w' => e = .returned (.bool r) ∧ Below w.heap.size w w' := by
 have hu62 := Try.underlying62
 have HR0_1 := zK hr0_1
 have HC0_1 := zK hc0_1; clear hr0_1 hc0_1
 have HB := zK (Below.refl w.heap.size w)
 have H : ((lin_Right.f k a0_0 l0_1).bind fun t207 => (some (t207 != 0))) = some r := h
 clear h; replace H := Option.bind_eq_some_iff.mp H
 obtain ⟨t207, A20, H⟩ := H; replace H : (some (t207 != 0)) = some r := H
 have A2 := zK A20; clear A20
 obtain rfl := Option.some.inj H
 go_enter Try.func106, Try.ntmps106
 go_wp2_with (first | ((with_reducible refine gate_dst (N := 1) rfl ?_); refine box_event ?hg (N := 1) ?hd (cs := #[.int .i64 a0_0, .slice A0_1 l0_1.length c0_1]) (t := 62) ?hr ?_; (case hd => rfl); (case hg => rfl); (case hr => first | (go_simp; done) | (go_simp; rfl)); intro gb206 hg w3 hbox hb; have BK206 := zK (hbox); have GW206 := zK ((by rw [hg]; exact (below_size (zo HB)) : w.heap.size ≤ gb206)); have GE206 := zK ((by rw [hg]; exact (below_size (zo HB)) : w.heap.size ≤ gb206)); replace HB := zK (below_step (zo HB) hb); clear hb hbox hg; have hcz4_0 : w3.cell? ⟨gb206, 0, none⟩ = some (.int .i64 a0_0) := (blk_cell BK206.out 0).trans rfl; have hcz4_1 : w3.cell? ⟨gb206, 1, none⟩ = some (.slice A0_1 l0_1.length c0_1) := (blk_cell BK206.out 1).trans rfl; have hfz4_0 := blk_frozen BK206.out 0; have hfz4_1 := blk_frozen BK206.out 1) | ((with_reducible refine zC (f := 100) rfl ?_); refine goesL_ (some 4) rfl rfl Try.func100 (by kernel_rfl) rfl #[.agg #[.int .i64 a0_0, .slice A0_1 l0_1.length c0_1]] rfl (by (try simp only [List.map_toArray, List.map_cons, List.map_nil]); first | done | rfl | (simp only [List.length_drop, List.length_take]; rfl)) ?_; (with_reducible refine (lin_Right.calls k a0_0 _ _ l0_1 t207 _ ?side1 ?side2 A2.out).mono ?_); (case side1 => repeat (first | exact (Kd.C_below HR0_1.out HB.out) | (with_reducible refine cA ?_ _) | (with_reducible refine cN ?_ _) | (with_reducible refine cD ?_))); (case side2 => exact HC0_1.out); rintro e w5 ⟨rfl, hb⟩; refine ⟨_, rfl, ?_⟩; replace BK206 := zK (blk_below (g := gb206) (o := .cells #[.int .i64 a0_0, .slice A0_1 l0_1.length c0_1] 62 (0, 0)) (zb BK206) hb); replace HB := zK (below_step (zo HB) hb); (try clear hb); (try clear hb2); (try clear hk); (try clear hi)))
 go_ret
 exact ⟨by first | rfl | (simp [errW_none, errW_some] <;> rfl) | (simp [*, errW_none, errW_some] <;> rfl), zo HB⟩

/-! ### api_Lin_117: function 117 -/
def api_Lin_117.l0 : Nat → List (S62) → Int → Int → Option (Int)
 | 0, _, _, _ => none
 | k + 1, x0, x7, x8 => if x8 < x7 then (if 0 ≤ x8 then (if x8 < (x0.length : Int) then ((lin_right_1.f k ((rd_T62 x0 x8).f0) ((rd_T62 x0 x8).f1)).bind fun t209 => (if t209 = true then (some x8) else (api_Lin_117.l0 k x0 x7 (wrap64 (x8 + 1))))) else (none)) else (none)) else (some (-1))
def api_Lin_117.f (k : Nat) (l0 : List (S62))  : Option (Int) := api_Lin_117.l0 k l0 (l0.length : Int) 0
theorem api_Lin_117.mono_l : ∀ k, (∀ y0 y1 y2, LeO (api_Lin_117.l0 k y0 y1 y2) (api_Lin_117.l0 (k + 1) y0 y1 y2))
 | 0 => fun _ _ _ r h => by simp [api_Lin_117.l0] at h
 | k + 1 => by
  have ih0 := api_Lin_117.mono_l k
  ·intro y0 y1 y2
   unfold api_Lin_117.l0
   repeat' first
   | (with_reducible exact ih0 _ _ _)
   | (with_reducible exact lin_right_1.mono _ _ _)
   | (with_reducible exact LeO.refl _)
   | (with_reducible exact LeO.none _)
   | (with_reducible refine LeO.ite ?_ ?_)
   | (with_reducible refine LeO.bind ?_ (fun _ => ?_))
   | exact ih0 _ _ _
   | exact lin_right_1.mono _ _ _
   | exact LeO.none _
   | refine LeO.ite ?_ ?_
   | refine LeO.bind ?_ (fun _ => ?_)
theorem api_Lin_117.mono : ∀ a0 k, LeO (api_Lin_117.f k a0) (api_Lin_117.f (k + 1) a0) := by
 intro a0 k
 have ih0 := api_Lin_117.mono_l k
 unfold api_Lin_117.f
 repeat' first
   | (with_reducible exact ih0 _ _ _)
   | (with_reducible exact lin_right_1.mono _ _ _)
   | (with_reducible exact LeO.refl _)
   | (with_reducible exact LeO.none _)
   | (with_reducible refine LeO.ite ?_ ?_)
   | (with_reducible refine LeO.bind ?_ (fun _ => ?_))
   | exact ih0 _ _ _
   | exact lin_right_1.mono _ _ _
   | exact LeO.none _
   | refine LeO.ite ?_ ?_
   | refine LeO.bind ?_ (fun _ => ?_)
set_option maxHeartbeats 8000000 in
set_option maxRecDepth 100000 in
theorem api_Lin_117.calls (k : Nat) (A0 : Option Addr) (c0 : Nat) (l0 : List (S62))  (r : Int) (w : World) (hr0 : Kd.C k62 w A0 l0.length l0) (hc0 : l0.length ≤ c0) (h : api_Lin_117.f k l0 = some r) :
  Calls Try.prog 117 #[.slice A0 l0.length c0, .func (.func 106) #[] #[]] w fun e w' => e = .returned (.int .i64 r) ∧ Below w.heap.size w w' := by
 have hu62 := Try.underlying62
 have HR0 := zK hr0
 have HC0 := zK hc0; clear hr0 hc0
 have HB := zK (Below.refl w.heap.size w)
 have H : (api_Lin_117.l0 k l0 (l0.length : Int) 0) = some r := h; clear h
 have H' := zK H; clear H
 go_enter Try.func117, Try.ntmps117
 go_wp2
 go_loopg [8] k (fun kq v8 w' => ∃ (x8_1 : Int), v8 = .int .i64 x8_1 ∧ Aside0 (api_Lin_117.l0 kq l0 (l0.length : Int) x8_1 = some r) ∧ Aside0 (kq ≤ k) ∧ Aside0 (Below w.heap.size w w'))
 case atStart => exact ⟨(0), (by first | rfl | (simp; done) | (simp [*]; done)), H', ⟨Nat.le_refl _⟩, ⟨zo HB⟩⟩
 case round =>
  clear H'; try clear c1; try clear p2
  obtain ⟨x8_1, rfl, HA, HK1, HB⟩ := hrel
  cases gk with
  | zero => exact absurd HA.out (by simp [api_Lin_117.l0])
  | succ k1 =>
   have H := HA.out; clear HA
   simp only [api_Lin_117.l0] at H
   by_cases c3 : x8_1 < (l0.length : Int)
   ·rw [if_pos c3] at H
    have c3b0 : decide (x8_1 < (l0.length : Int)) = true := decide_eq_true c3
    clear c3
    by_cases c4 : 0 ≤ x8_1
    ·rw [if_pos c4] at H
     have c4b0 : decide (0 ≤ x8_1) = true := decide_eq_true c4; clear c4
     by_cases c5 : x8_1 < (l0.length : Int)
     ·rw [if_pos c5] at H
      have c5b0 : decide (x8_1 < (l0.length : Int)) = true := decide_eq_true c5
      clear c5; replace H := Option.bind_eq_some_iff.mp H
      obtain ⟨t209, A60, H⟩ := H
      replace H : (if t209 = true then (some x8_1) else (api_Lin_117.l0 k1 l0 (l0.length : Int) (wrap64 (x8_1 + 1)))) = some r := H
      have A6 := zK A60; clear A60
      by_cases c7 : t209 = true
      ·subst c7
       have H1 : (some x8_1) = some r := by rw [if_pos rfl] at H; exact H
       clear H; have H := H1; clear H1
       obtain rfl := Option.some.inj H
       have p208 : 0 ≤ (x8_1 : Int) := of_decide_eq_true (by first | (with_reducible assumption) | assumption)
       have q208 : x8_1 < (l0.length : Int) := of_decide_eq_true (by first | (with_reducible assumption) | assumption)
       obtain ⟨ad208, A208_1, c208_1, e208, hx208_0, hx208_1, hl208_1, hi208_1⟩ := at_T62 HR0.out x8_1 p208 q208
       cases e208
       replace hx208_0 := (HB.out.cell (World.block_lt_of_cell? w _ hx208_0)).trans hx208_0
       replace hx208_1 := (HB.out.cell (World.block_lt_of_cell? w _ hx208_1)).trans hx208_1
       have HR208_1 := zK hi208_1
       have HC208_1 := zK hl208_1; clear hi208_1 hl208_1
       replace p208 := eq_true p208
       replace q208 := eq_true q208
       go_wp2_with (first | (go_at_call 106; (with_reducible refine (lin_right_1.calls k1 ((rd_T62 l0 x8_1).f0) _ _ ((rd_T62 l0 x8_1).f1) true _ ?side1 ?side2 A6.out).mono ?_); (case side1 => repeat (first | exact (Kd.C_below HR208_1.out HB.out) | (with_reducible refine cA ?_ _) | (with_reducible refine cN ?_ _) | (with_reducible refine cD ?_))); (case side2 => exact HC208_1.out); rintro e w8 ⟨rfl, hb⟩; replace HB := zK (below_step (zo HB) hb); (try clear hb); (try clear hb2); (try clear hk); (try clear hi)))
       go_ret
       exact ⟨by first | rfl | (simp [errW_none, errW_some] <;> rfl) | (simp [*, errW_none, errW_some] <;> rfl), zo HB⟩
      ·replace c7 := Bool.eq_false_iff.mpr c7
       subst c7
       have H1 : (api_Lin_117.l0 k1 l0 (l0.length : Int) (wrap64 (x8_1 + 1))) = some r := by rw [if_neg (show ¬ (false = true) by decide)] at H; exact H
       clear H; have H := H1; clear H1
       have H' := zK H; clear H
       have p208 : 0 ≤ (x8_1 : Int) := of_decide_eq_true (by first | (with_reducible assumption) | assumption)
       have q208 : x8_1 < (l0.length : Int) := of_decide_eq_true (by first | (with_reducible assumption) | assumption)
       obtain ⟨ad208, A208_1, c208_1, e208, hx208_0, hx208_1, hl208_1, hi208_1⟩ := at_T62 HR0.out x8_1 p208 q208
       cases e208
       replace hx208_0 := (HB.out.cell (World.block_lt_of_cell? w _ hx208_0)).trans hx208_0
       replace hx208_1 := (HB.out.cell (World.block_lt_of_cell? w _ hx208_1)).trans hx208_1
       have HR208_1 := zK hi208_1
       have HC208_1 := zK hl208_1; clear hi208_1 hl208_1
       replace p208 := eq_true p208
       replace q208 := eq_true q208
       go_wp2_with (first | (go_at_call 106; (with_reducible refine (lin_right_1.calls k1 ((rd_T62 l0 x8_1).f0) _ _ ((rd_T62 l0 x8_1).f1) false _ ?side1 ?side2 A6.out).mono ?_); (case side1 => repeat (first | exact (Kd.C_below HR208_1.out HB.out) | (with_reducible refine cA ?_ _) | (with_reducible refine cN ?_ _) | (with_reducible refine cD ?_))); (case side2 => exact HC208_1.out); rintro e w9 ⟨rfl, hb⟩; replace HB := zK (below_step (zo HB) hb); (try clear hb); (try clear hb2); (try clear hk); (try clear hi)))
       go_roundg k1
       case measure => have := HK1.out; omega
       case rel => exact ⟨(wrap64 (x8_1 + 1)), (by first | rfl | (simp; done) | (simp [*]; done)), H', ⟨by have := HK1.out; omega⟩, ⟨zo HB⟩⟩
     ·rw [if_neg c5] at H
      exact absurd H (by simp)
    ·rw [if_neg c4] at H
     exact absurd H (by simp)
   ·rw [if_neg c3] at H
    have c3b0 : decide (x8_1 < (l0.length : Int)) = false := decide_eq_false c3
    clear c3
    obtain rfl := Option.some.inj H
    go_wp2
    go_ret
    exact ⟨by first | rfl | (simp [errW_none, errW_some] <;> rfl) | (simp [*, errW_none, errW_some] <;> rfl), zo HB⟩

/-! ### api_Lin_105: function 105 -/
def api_Lin_105.f (k : Nat) (l0 : List (S62))  : Option (Bool) := (api_Lin_117.f k l0).bind fun t210 => (some (decide (t210 ≥ 0)))
theorem api_Lin_105.mono : ∀ a0 k, LeO (api_Lin_105.f k a0) (api_Lin_105.f (k + 1) a0) := by
 intro a0 k
 unfold api_Lin_105.f
 repeat' first
   | (with_reducible exact api_Lin_117.mono _ _)
   | (with_reducible exact LeO.refl _)
   | (with_reducible exact LeO.none _)
   | (with_reducible refine LeO.ite ?_ ?_)
   | (with_reducible refine LeO.bind ?_ (fun _ => ?_))
   | exact api_Lin_117.mono _ _
   | exact LeO.none _
   | refine LeO.ite ?_ ?_
   | refine LeO.bind ?_ (fun _ => ?_)
set_option maxHeartbeats 8000000 in
set_option maxRecDepth 100000 in
theorem api_Lin_105.calls (k : Nat) (A0 : Option Addr) (c0 : Nat) (l0 : List (S62))  (r : Bool) (w : World) (hr0 : Kd.C k62 w A0 l0.length l0) (hc0 : l0.length ≤ c0) (h : api_Lin_105.f k l0 = some r) :
  Calls Try.prog 105 #[.slice A0 l0.length c0, .func (.func 106) #[] #[]] w fun e w' => e = .returned (.bool r) ∧ Below w.heap.size w w' := by
 have HR0 := zK hr0
 have HC0 := zK hc0; clear hr0 hc0
 have HB := zK (Below.refl w.heap.size w)
 have H : ((api_Lin_117.f k l0).bind fun t210 => (some (decide (t210 ≥ 0)))) = some r := h
 clear h; replace H := Option.bind_eq_some_iff.mp H
 obtain ⟨t210, A30, H⟩ := H
 replace H : (some (decide (t210 ≥ 0))) = some r := H
 have A3 := zK A30; clear A30
 obtain rfl := Option.some.inj H
 go_enter Try.func105, Try.ntmps105
 go_wp2_with (first | (go_at_call 117; (with_reducible refine (api_Lin_117.calls k _ _ l0 t210 _ ?side1 ?side2 A3.out).mono ?_); (case side1 => repeat (first | exact HR0.out | (with_reducible refine cA ?_ _) | (with_reducible refine cN ?_ _) | (with_reducible refine cD ?_))); (case side2 => exact HC0.out); rintro e w4 ⟨rfl, hb⟩; replace HB := zK (below_step (zo HB) hb); (try clear hb); (try clear hb2); (try clear hk); (try clear hi)))
 go_ret
 exact ⟨by first | rfl | (simp [errW_none, errW_some] <;> rfl) | (simp [*, errW_none, errW_some] <;> rfl), zo HB⟩

/-! ### lin_right: function 87 -/
def lin_right.f (k : Nat) (l0 : List (S62)) : Option (Bool) := (api_Lin_105.f k l0).bind fun t211 => (some (!t211))
theorem lin_right.mono : ∀ a0 k, LeO (lin_right.f k a0) (lin_right.f (k + 1) a0) := by
 intro a0 k
 unfold lin_right.f
 repeat' first
   | (with_reducible exact api_Lin_105.mono _ _)
   | (with_reducible exact LeO.refl _)
   | (with_reducible exact LeO.none _)
   | (with_reducible refine LeO.ite ?_ ?_)
   | (with_reducible refine LeO.bind ?_ (fun _ => ?_))
   | exact api_Lin_105.mono _ _
   | exact LeO.none _
   | refine LeO.ite ?_ ?_
   | refine LeO.bind ?_ (fun _ => ?_)
set_option maxHeartbeats 8000000 in
set_option maxRecDepth 100000 in
theorem lin_right.calls (k : Nat) (A0 : Option Addr) (c0 : Nat) (l0 : List (S62)) (r : Bool) (w : World) (hr0 : Kd.C k62 w A0 l0.length l0) (hc0 : l0.length ≤ c0) (h : lin_right.f k l0 = some r) :
  Calls Try.prog 87 #[.slice A0 l0.length c0] w fun e w' => e = .returned (.bool r) ∧ Below w.heap.size w w' := by
 have HR0 := zK hr0
 have HC0 := zK hc0; clear hr0 hc0
 have HB := zK (Below.refl w.heap.size w)
 have H : ((api_Lin_105.f k l0).bind fun t211 => (some (!t211))) = some r := h
 clear h; replace H := Option.bind_eq_some_iff.mp H
 obtain ⟨t211, A20, H⟩ := H; replace H : (some (!t211)) = some r := H
 have A2 := zK A20; clear A20
 obtain rfl := Option.some.inj H
 go_enter Try.func87, Try.ntmps87
 go_wp2_with (first | (go_at_call 105; (with_reducible refine (api_Lin_105.calls k _ _ l0 t211 _ ?side1 ?side2 A2.out).mono ?_); (case side1 => repeat (first | exact HR0.out | (with_reducible refine cA ?_ _) | (with_reducible refine cN ?_ _) | (with_reducible refine cD ?_))); (case side2 => exact HC0.out); rintro e w3 ⟨rfl, hb⟩; replace HB := zK (below_step (zo HB) hb); (try clear hb); (try clear hb2); (try clear hk); (try clear hi)))
 go_ret
 exact ⟨by first | rfl | (simp [errW_none, errW_some] <;> rfl) | (simp [*, errW_none, errW_some] <;> rfl), zo HB⟩

end Go.Proofs.Ytkfbfgkdabljiaa.PShadowSplits
