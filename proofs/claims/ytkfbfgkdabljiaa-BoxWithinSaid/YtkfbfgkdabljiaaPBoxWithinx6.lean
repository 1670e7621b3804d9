/- What the call of each function that the law reaches comes to: it answers as the plain function of the same name does, wherever that one answers; and the law itself out of its plain form. Written by a program of this session (an extended copy of the printer); no condition but what stands in each theorem. -/
import Derived.Test.YtkfbfgkdabljiaaPBoxWithinx0
import Derived.Test.YtkfbfgkdabljiaaPBoxWithinx5
namespace Go.Proofs.Ytkfbfgkdabljiaa.PBoxWithin
open Go.RowKit Go.Proofs.YtkfbfgkdabljiaaW.PrintWords Go.Proofs.YtkfbfgkdabljiaaW.PrintLast Go.Proofs.YtkfbfgkdabljiaaW.PrintMore
open Go.Proofs.YtkfbfgkdabljiaaW.PrintWords renaming blk_drewN → zN, blk_drew → zD, blk_alloc → zA, below_alloc → yA, pw_below_drewN → yN, below_drew1 → yD, below_set → yS, gate_callee → zC
open Go.Proofs.YtkfbfgkdabljiaaW.PrintWords.Kd renaming C_alloc → cA, C_drewN → cN, C_drew → cD
open Go.Proofs.YtkfbfgkdabljiaaW.PrintWords.Aside0 renaming mk → zK
attribute [local go_sem] max2_int min2_int max_two min_two max_three min_three max_four min_four   -- for this text's walks alone
set_option linter.unusedVariables false
set_option linter.unusedSimpArgs false

/-! ### num_common: function 120 -/
mutual
def num_common.j0 : Nat → Int → Int → Bool → Option (Int)
 | 0, _, _, _ => none
 | k + 1, x0, x1, x11 => if x11 = true then (some (Go.bits .or .u64 x0 x1)) else ((num_twos.f k x0).bind fun t173 => ((num_twos.f k x1).bind fun t174 => ((num_twos.f k x0).bind fun t175 => (if 0 ≤ t175 then (num_common.l0 k (shr .u64 x0 t175) x1 (mn t173 t174)) else (none)))))
def num_common.l0 : Nat → Int → Int → Int → Option (Int)
 | 0, _, _, _ => none
 | k + 1, x0, x1, x5 => if x1 = 0 then (if 0 ≤ x5 then (some (shl .u64 x0 x5)) else (none)) else ((num_twos.f k x1).bind fun t176 => (if 0 ≤ t176 then (if x0 > (shr .u64 x1 t176) then (num_common.l0 k (shr .u64 x1 t176) (IntKind.u64.wrap (x0 - (shr .u64 x1 t176))) x5) else (num_common.l0 k x0 (IntKind.u64.wrap ((shr .u64 x1 t176) - x0)) x5)) else (none)))
end
def num_common.f (k : Nat) (a0 : Int) (a1 : Int) : Option (Int) := if a0 = 0 then (num_common.j0 k a0 a1 true) else (num_common.j0 k a0 a1 (a1 == 0))
theorem num_common.mono_l : ∀ k, (∀ y0 y1 y2, LeO (num_common.j0 k y0 y1 y2) (num_common.j0 (k + 1) y0 y1 y2)) ∧ (∀ y0 y1 y2, LeO (num_common.l0 k y0 y1 y2) (num_common.l0 (k + 1) y0 y1 y2))
 | 0 => ⟨fun _ _ _ r h => by simp [num_common.j0] at h, fun _ _ _ r h => by simp [num_common.l0] at h⟩
 | k + 1 => by
  obtain ⟨ih0, ih1⟩ := num_common.mono_l k
  refine ⟨?_, ?_⟩
  ·intro y0 y1 y2
   unfold num_common.j0
   repeat' first
   | (with_reducible exact ih0 _ _ _)
   | (with_reducible exact ih1 _ _ _)
   | (with_reducible exact num_twos.mono _ _)
   | (with_reducible exact LeO.refl _)
   | (with_reducible exact LeO.none _)
   | (with_reducible refine LeO.ite ?_ ?_)
   | (with_reducible refine LeO.bind ?_ (fun _ => ?_))
   | exact ih0 _ _ _
   | exact ih1 _ _ _
   | exact num_twos.mono _ _
   | exact LeO.none _
   | refine LeO.ite ?_ ?_
   | refine LeO.bind ?_ (fun _ => ?_)
  ·intro y0 y1 y2
   unfold num_common.l0
   repeat' first
   | (with_reducible exact ih0 _ _ _)
   | (with_reducible exact ih1 _ _ _)
   | (with_reducible exact num_twos.mono _ _)
   | (with_reducible exact LeO.refl _)
   | (with_reducible exact LeO.none _)
   | (with_reducible refine LeO.ite ?_ ?_)
   | (with_reducible refine LeO.bind ?_ (fun _ => ?_))
   | exact ih0 _ _ _
   | exact ih1 _ _ _
   | exact num_twos.mono _ _
   | exact LeO.none _
   | refine LeO.ite ?_ ?_
   | refine LeO.bind ?_ (fun _ => ?_)
theorem num_common.mono : ∀ a0 a1 k, LeO (num_common.f k a0 a1) (num_common.f (k + 1) a0 a1) := by
 intro a0 a1 k
 obtain ⟨ih0, ih1⟩ := num_common.mono_l k
 unfold num_common.f
 repeat' first
   | (with_reducible exact ih0 _ _ _)
   | (with_reducible exact ih1 _ _ _)
   | (with_reducible exact num_twos.mono _ _)
   | (with_reducible exact LeO.refl _)
   | (with_reducible exact LeO.none _)
   | (with_reducible refine LeO.ite ?_ ?_)
   | (with_reducible refine LeO.bind ?_ (fun _ => ?_))
   | exact ih0 _ _ _
   | exact ih1 _ _ _
   | exact num_twos.mono _ _
   | exact LeO.none _
   | refine LeO.ite ?_ ?_
   | refine LeO.bind ?_ (fun _ => ?_)
set_option maxHeartbeats 8000000 in
set_option maxRecDepth 100000 in
theorem num_common.calls (k : Nat) (a0 : Int) (a1 : Int) (r : Int) (w : World) (h : num_common.f k a0 a1 = some r) :
  Calls Try.prog 120 #[.int .u64 a0, .int .u64 a1] w fun e w' => e = .returned (.int .u64 r) ∧ Below w.heap.size w w' := by
 have HB := zK (Below.refl w.heap.size w)
 have H : (if a0 = 0 then (num_common.j0 k a0 a1 true) else (num_common.j0 k a0 a1 (a1 == 0))) = some r := h
 clear h
 have HC3 := zK H; clear H
 go_enter Try.func120, Try.ntmps120
 go_upto_region 1 with (fail)
 go_cut [11] (fun v11 wc => ∃ (kq : Nat) (x11_2 : Bool), v11 = .bool x11_2 ∧ Aside0 (num_common.j0 kq a0 a1 x11_2 = some r) ∧ Aside0 (kq ≤ k) ∧ Aside0 (Below w.heap.size w wc))
 case first =>
  have H := HC3.out; clear HC3
  by_cases c4 : a0 = 0
  ·rw [if_pos c4] at H
   have c4b0 : (a0 == 0) = true := beq_iff_eq.mpr c4
   have c4b1 : (a0 != 0) = false := bne_eq_false_iff_eq.mpr c4; clear c4
   (first | rw [c4b0] | (simp only [i64_w, i32_w]; rw [c4b0]) | skip)
   have H' := zK H; clear H
   go_wp2
   go_meet
   case rel => exact ⟨_, (true), (by first | rfl | (simp; done) | (simp [*]; done)), H', ⟨by first | omega | exact Nat.le_refl _⟩, ⟨zo HB⟩⟩
  ·rw [if_neg c4] at H
   have c4b0 : (a0 == 0) = false := beq_eq_false_iff_ne.mpr c4
   have c4b1 : (a0 != 0) = true := bne_iff_ne.mpr c4
   (first | rw [c4b0] | (simp only [i64_w, i32_w]; rw [c4b0]) | skip)
   have H' := zK H; clear H
   go_wp2
   go_meet
   case rel => exact ⟨_, ((a1 == 0)), (by first | rfl | (simp; done) | (simp [*]; done)), H', ⟨by first | omega | exact Nat.le_refl _⟩, ⟨zo HB⟩⟩
 case rest =>
  clear HC3; try clear c1; try clear p2; try clear c4; try clear c4b0; try clear c4b1
  obtain ⟨kq, x11_2, rfl, HA, HJ2, HB⟩ := hcut
  cases kq with
  | zero => exact absurd HA.out (by simp [num_common.j0])
  | succ kj2 =>
   have H := HA.out; clear HA
   simp only [num_common.j0] at H
   by_cases c5 : x11_2 = true
   ·subst c5
    have H1 : (some (Go.bits .or .u64 a0 a1)) = some r := by rw [if_pos rfl] at H; exact H
    clear H; have H := H1; clear H1
    obtain rfl := Option.some.inj H
    go_wp2
    go_ret
    exact ⟨by first | rfl | (simp [errW_none, errW_some] <;> rfl) | (simp [*, errW_none, errW_some] <;> rfl), zo HB⟩
   ·replace c5 := Bool.eq_false_iff.mpr c5
    subst c5
    have H1 : ((num_twos.f kj2 a0).bind fun t173 => ((num_twos.f kj2 a1).bind fun t174 => ((num_twos.f kj2 a0).bind fun t175 => (if 0 ≤ t175 then (num_common.l0 kj2 (shr .u64 a0 t175) a1 (mn t173 t174)) else (none))))) = some r := by rw [if_neg (show ¬ (false = true) by decide)] at H; exact H
    clear H; have H := H1
    clear H1; replace H := Option.bind_eq_some_iff.mp H
    obtain ⟨t173, A60, H⟩ := H
    replace H : ((num_twos.f kj2 a1).bind fun t174 => ((num_twos.f kj2 a0).bind fun t175 => (if 0 ≤ t175 then (num_common.l0 kj2 (shr .u64 a0 t175) a1 (mn t173 t174)) else (none)))) = some r := H
    have A6 := zK A60; clear A60; replace H := Option.bind_eq_some_iff.mp H
    obtain ⟨t174, A70, H⟩ := H
    replace H : ((num_twos.f kj2 a0).bind fun t175 => (if 0 ≤ t175 then (num_common.l0 kj2 (shr .u64 a0 t175) a1 (mn t173 t174)) else (none))) = some r := H
    have A7 := zK A70; clear A70
    obtain ⟨ji8, hji8⟩ : ∃ j_ : Int, (mn t173 t174) = j_ := ⟨_, rfl⟩
    replace H : ((num_twos.f kj2 a0).bind fun t175 => (if 0 ≤ t175 then (num_common.l0 kj2 (shr .u64 a0 t175) a1 ji8) else (none))) = some r := by first | (rw [hji8] at H; exact H) | (simp only [hji8] at H ⊢; exact H)
    (try rw [hji8] at A6)
    (try rw [hji8] at A7)
    have hji8_ : (if t174 < t173 then t174 else t173) = ji8 := hji8; replace H := Option.bind_eq_some_iff.mp H
    obtain ⟨t175, A90, H⟩ := H
    replace H : (if 0 ≤ t175 then (num_common.l0 kj2 (shr .u64 a0 t175) a1 ji8) else (none)) = some r := H
    have A9 := zK A90; clear A90
    by_cases c10 : 0 ≤ t175
    ·rw [if_pos c10] at H
     have c10b0 := eq_true c10
     have c10b1 : decide (0 ≤ t175) = true := decide_eq_true c10; clear c10
     obtain ⟨ji11, hji11⟩ : ∃ j_ : Int, (shr .u64 a0 t175) = j_ := ⟨_, rfl⟩
     replace H : (num_common.l0 kj2 ji11 a1 ji8) = some r := by first | (rw [hji11] at H; exact H) | (simp only [hji11] at H ⊢; exact H)
     (try rw [hji11] at A6)
     (try rw [hji11] at A7)
     (try rw [hji11] at A9)
     have hji11_ : (a0 / 2 ^ min t175.toNat 64) = ji11 := hji11
     have hji11z : t175 ≤ 64 → (a0 / 2 ^ t175.toNat) = ji11 := shr_small hji11
     have H' := zK H; clear H
     go_wp2_with (first | ((with_reducible refine zC (f := 123) rfl ?_); refine goesL_ (some 16) rfl rfl Try.func123 (by kernel_rfl) rfl #[.int .u64 a0] rfl (by (try simp only [List.map_toArray, List.map_cons, List.map_nil]); first | done | rfl | (simp only [List.length_drop, List.length_take]; rfl)) ?_; (with_reducible refine (num_twos.calls kj2 a0 t173 _ A6.out).mono ?_); rintro e w' ⟨rfl, ⟨nd, rfl⟩⟩; refine ⟨_, rfl, ?_⟩) | ((with_reducible refine zC (f := 123) rfl ?_); refine goesL_ (some 18) rfl rfl Try.func123 (by kernel_rfl) rfl #[.int .u64 a1] rfl (by (try simp only [List.map_toArray, List.map_cons, List.map_nil]); first | done | rfl | (simp only [List.length_drop, List.length_take]; rfl)) ?_; (with_reducible refine (num_twos.calls kj2 a1 t174 _ A7.out).mono ?_); rintro e w' ⟨rfl, ⟨nd, rfl⟩⟩; refine ⟨_, rfl, ?_⟩) | ((with_reducible refine zC (f := 123) rfl ?_); refine goesL_ (some 22) rfl rfl Try.func123 (by kernel_rfl) rfl #[.int .u64 a0] rfl (by (try simp only [List.map_toArray, List.map_cons, List.map_nil]); first | done | rfl | (simp only [List.length_drop, List.length_take]; rfl)) ?_; (with_reducible refine (num_twos.calls kj2 a0 t175 _ A9.out).mono ?_); rintro e w' ⟨rfl, ⟨nd, rfl⟩⟩; refine ⟨_, rfl, ?_⟩))
     go_loopg [0, 1] kj2 (fun kq v0 v1 w' => ∃ (x0_2 : Int) (x1_2 : Int), v0 = .int .u64 x0_2 ∧ v1 = .int .u64 x1_2 ∧ Aside0 (num_common.l0 kq x0_2 x1_2 ji8 = some r) ∧ Aside0 (kq ≤ kj2) ∧ Aside0 (Below w.heap.size w w'))
     case atStart => exact ⟨(ji11), (a1), (by first | rfl | (simp; done) | (simp only [← hji11] <;> (first | rfl | simp)) | (simp [*]; done)), (by first | rfl | (simp; done) | (simp [*]; done)), H', ⟨Nat.le_refl _⟩, ⟨zo HB⟩⟩
     case round =>
      clear H'; try clear c1; try clear p2; try clear c4
      try clear c4b0; try clear c4b1; try clear c5; try clear c10; try clear c10b0; try clear c10b1; try clear p2
      obtain ⟨x0_2, x1_2, rfl, rfl, HA, HK2, HB⟩ := hrel
      cases gk with
      | zero => exact absurd HA.out (by simp [num_common.l0])
      | succ k2 =>
       have H := HA.out; clear HA
       simp only [num_common.l0] at H
       by_cases c12 : x1_2 = 0
       ·rw [if_pos c12] at H
        have c12b0 : (x1_2 == 0) = true := beq_iff_eq.mpr c12
        have c12b1 : (x1_2 != 0) = false := bne_eq_false_iff_eq.mpr c12; clear c12
        by_cases c13 : 0 ≤ ji8
        ·rw [if_pos c13] at H
         have c13b0 := eq_true c13
         have c13b1 : decide (0 ≤ ji8) = true := decide_eq_true c13; clear c13
         obtain ⟨ji14, hji14⟩ : ∃ j_ : Int, (shl .u64 x0_2 ji8) = j_ := ⟨_, rfl⟩
         replace H : (some ji14) = some r := by first | (rw [hji14] at H; exact H) | (simp only [hji14] at H ⊢; exact H)
         have hji14_ : (IntKind.u64.wrap (x0_2 * 2 ^ min ji8.toNat 64)) = ji14 := hji14
         have hji14z : ji8 ≤ 64 → (IntKind.u64.wrap (x0_2 * 2 ^ ji8.toNat)) = ji14 := shl_small hji14
         obtain rfl := Option.some.inj H
         go_wp2
         go_ret
         exact ⟨by first | rfl | (simp [errW_none, errW_some] <;> rfl) | (simp only [← hji8, ← hji11, ← hji14]; first | rfl | (simp [errW_none, errW_some] <;> rfl)) | (simp [*, errW_none, errW_some] <;> rfl), zo HB⟩
        ·rw [if_neg c13] at H
         exact absurd H (by simp)
       ·rw [if_neg c12] at H
        have c12b0 : (x1_2 == 0) = false := beq_eq_false_iff_ne.mpr c12
        have c12b1 : (x1_2 != 0) = true := bne_iff_ne.mpr c12; replace H := Option.bind_eq_some_iff.mp H
        obtain ⟨t176, A150, H⟩ := H
        replace H : (if 0 ≤ t176 then (if x0_2 > (shr .u64 x1_2 t176) then (num_common.l0 k2 (shr .u64 x1_2 t176) (IntKind.u64.wrap (x0_2 - (shr .u64 x1_2 t176))) ji8) else (num_common.l0 k2 x0_2 (IntKind.u64.wrap ((shr .u64 x1_2 t176) - x0_2)) ji8)) else (none)) = some r := H
        have A15 := zK A150; clear A150
        by_cases c16 : 0 ≤ t176
        ·rw [if_pos c16] at H
         have c16b0 := eq_true c16
         have c16b1 : decide (0 ≤ t176) = true := decide_eq_true c16; clear c16
         obtain ⟨ji17, hji17⟩ : ∃ j_ : Int, (shr .u64 x1_2 t176) = j_ := ⟨_, rfl⟩
         replace H : (if x0_2 > (ji17) then (num_common.l0 k2 ji17 (IntKind.u64.wrap (x0_2 - (ji17))) ji8) else (num_common.l0 k2 x0_2 (IntKind.u64.wrap ((ji17) - x0_2)) ji8)) = some r := by first | (rw [hji17] at H; exact H) | (simp only [hji17] at H ⊢; exact H)
         (try rw [hji17] at A15)
         have hji17_ : (x1_2 / 2 ^ min t176.toNat 64) = ji17 := hji17
         have hji17z : t176 ≤ 64 → (x1_2 / 2 ^ t176.toNat) = ji17 := shr_small hji17
         by_cases c18 : x0_2 > (ji17)
         ·rw [if_pos c18] at H
          have c18b0 : decide ((ji17) < x0_2) = true := decide_eq_true c18; clear c18
          have H' := zK H; clear H
          go_wp2_with (first | ((with_reducible refine zC (f := 123) rfl ?_); refine goesL_ (some 28) rfl rfl Try.func123 (by kernel_rfl) rfl #[.int .u64 x1_2] rfl (by (try simp only [List.map_toArray, List.map_cons, List.map_nil]); first | done | rfl | (simp only [List.length_drop, List.length_take]; rfl)) ?_; (with_reducible refine (num_twos.calls k2 x1_2 t176 _ A15.out).mono ?_); rintro e w' ⟨rfl, ⟨nd, rfl⟩⟩; refine ⟨_, rfl, ?_⟩))
          go_roundg k2
          case measure => have := HJ2.out; have := HK2.out; omega
          case rel => exact ⟨(ji17), (IntKind.u64.wrap (x0_2 - (ji17))), (by first | rfl | (simp; done) | (simp only [← hji17] <;> (first | rfl | simp)) | (simp [*]; done)), (by first | rfl | (simp; done) | (simp only [← hji17] <;> (first | rfl | simp)) | (simp [*]; done)), H', ⟨by have := HJ2.out; have := HK2.out; omega⟩, ⟨zo HB⟩⟩
         ·rw [if_neg c18] at H
          have c18b0 : decide ((ji17) < x0_2) = false := decide_eq_false c18
          clear c18
          have H' := zK H; clear H
          go_wp2_with (first | ((with_reducible refine zC (f := 123) rfl ?_); refine goesL_ (some 28) rfl rfl Try.func123 (by kernel_rfl) rfl #[.int .u64 x1_2] rfl (by (try simp only [List.map_toArray, List.map_cons, List.map_nil]); first | done | rfl | (simp only [List.length_drop, List.length_take]; rfl)) ?_; (with_reducible refine (num_twos.calls k2 x1_2 t176 _ A15.out).mono ?_); rintro e w' ⟨rfl, ⟨nd, rfl⟩⟩; refine ⟨_, rfl, ?_⟩))
          go_roundg k2
          case measure => have := HJ2.out; have := HK2.out; omega
          case rel => exact ⟨(x0_2), (IntKind.u64.wrap ((ji17) - x0_2)), (by first | rfl | (simp; done) | (simp [*]; done)), (by first | rfl | (simp; done) | (simp only [← hji17] <;> (first | rfl | simp)) | (simp [*]; done)), H', ⟨by have := HJ2.out; have := HK2.out; omega⟩, ⟨zo HB⟩⟩
        ·rw [if_neg c16] at H
         exact absurd H (by simp)
    ·rw [if_neg c10] at H
     exact absurd H (by simp)

/-! ### num_size: function 121 -/
def num_size.f (a0 : Int) : Option (Int) := if a0 < 0 then (some (IntKind.u64.wrap (-(IntKind.u64.wrap (a0))))) else (some (IntKind.u64.wrap (a0)))
set_option maxHeartbeats 8000000 in
set_option maxRecDepth 100000 in
theorem num_size.calls (a0 : Int) (r : Int) (w : World) (h : num_size.f a0 = some r) :
  Calls Try.prog 121 #[.int .i64 a0] w fun e w' => e = .returned (.int .u64 r) ∧ Drawn0 w w' := by
 have H : (if a0 < 0 then (some (IntKind.u64.wrap (-(IntKind.u64.wrap (a0))))) else (some (IntKind.u64.wrap (a0)))) = some r := h
 clear h
 by_cases c2 : a0 < 0
 ·rw [if_pos c2] at H
  have c2b0 : decide (a0 < 0) = true := decide_eq_true c2; clear c2
  obtain rfl := Option.some.inj H
  go_enter Try.func121, Try.ntmps121
  go_wp2
  go_ret
  exact ⟨by first | rfl | (simp; done) | (simp [*]; done), by repeat (first | exact Drawn0.refl _ | apply Drawn0.step)⟩
 ·rw [if_neg c2] at H
  have c2b0 : decide (a0 < 0) = false := decide_eq_false c2; clear c2
  obtain rfl := Option.some.inj H
  go_enter Try.func121, Try.ntmps121
  go_wp2
  go_ret
  exact ⟨by first | rfl | (simp; done) | (simp [*]; done), by repeat (first | exact Drawn0.refl _ | apply Drawn0.step)⟩

/-! ### num_signed: function 122 -/
def num_signed.f (a0 : Int) (a1 : Bool) : Option (Int × Bool) := if a1 = true then ((num_told.f (wrap64 (-(wrap64 (a0)))) (decide (a0 ≤ 9223372036854775808))).bind fun bt177 => (some (bt177.1, bt177.2))) else ((num_told.f (wrap64 (a0)) (decide (a0 ≤ 9223372036854775807))).bind fun bt179 => (some (bt179.1, bt179.2)))
set_option maxHeartbeats 8000000 in
set_option maxRecDepth 100000 in
theorem num_signed.calls (a0 : Int) (a1 : Bool) (r1 : Int) (r2 : Bool) (w : World) (h : num_signed.f a0 a1 = some (r1, r2)) :
  Calls Try.prog 122 #[.int .u64 a0, .bool a1] w fun e w' => e = .returned (.tuple #[.int .i64 r1, .bool r2]) ∧ Drawn0 w w' := by
 have H : (if a1 = true then ((num_told.f (wrap64 (-(wrap64 (a0)))) (decide (a0 ≤ 9223372036854775808))).bind fun bt177 => (some (bt177.1, bt177.2))) else ((num_told.f (wrap64 (a0)) (decide (a0 ≤ 9223372036854775807))).bind fun bt179 => (some (bt179.1, bt179.2)))) = some (r1, r2) := h
 clear h
 by_cases c3 : a1 = true
 ·subst c3
  have H1 : ((num_told.f (wrap64 (-(wrap64 (a0)))) (decide (a0 ≤ 9223372036854775808))).bind fun bt177 => (some (bt177.1, bt177.2))) = some (r1, r2) := by rw [if_pos rfl] at H; exact H
  clear H; have H := H1
  clear H1; replace H := Option.bind_eq_some_iff.mp H
  obtain ⟨⟨t177, t178⟩, A40, H⟩ := H
  replace H : (some (t177, t178)) = some (r1, r2) := H
  have A4 := zK A40; clear A40
  simp only [Option.some.injEq, Prod.mk.injEq] at H
  obtain ⟨rfl, rfl⟩ := H
  go_enter Try.func122, Try.ntmps122
  go_wp2_with (first | ((with_reducible refine zC (f := 110) rfl ?_); refine goesL_ (some 12) rfl rfl Try.func110 (by kernel_rfl) rfl #[.int .i64 (wrap64 (-(wrap64 (a0)))), .bool (decide (a0 ≤ 9223372036854775808))] rfl (by (try simp only [List.map_toArray, List.map_cons, List.map_nil]); first | done | rfl | (simp only [List.length_drop, List.length_take]; rfl)) ?_; (with_reducible refine (num_told.calls (wrap64 (-(wrap64 (a0)))) (decide (a0 ≤ 9223372036854775808)) t177 t178 _ A4.out).mono ?_); rintro e w' ⟨rfl, ⟨nd, rfl⟩⟩; refine ⟨_, rfl, ?_⟩))
  go_ret2
  exact ⟨by first | rfl | (simp; done) | (simp [*]; done), by repeat (first | exact Drawn0.refl _ | apply Drawn0.step)⟩
 ·replace c3 := Bool.eq_false_iff.mpr c3
  subst c3
  have H1 : ((num_told.f (wrap64 (a0)) (decide (a0 ≤ 9223372036854775807))).bind fun bt179 => (some (bt179.1, bt179.2))) = some (r1, r2) := by rw [if_neg (show ¬ (false = true) by decide)] at H; exact H
  clear H; have H := H1
  clear H1; replace H := Option.bind_eq_some_iff.mp H
  obtain ⟨⟨t179, t180⟩, A50, H⟩ := H
  replace H : (some (t179, t180)) = some (r1, r2) := H
  have A5 := zK A50; clear A50
  simp only [Option.some.injEq, Prod.mk.injEq] at H
  obtain ⟨rfl, rfl⟩ := H
  go_enter Try.func122, Try.ntmps122
  go_wp2_with (first | ((with_reducible refine zC (f := 110) rfl ?_); refine goesL_ (some 19) rfl rfl Try.func110 (by kernel_rfl) rfl #[.int .i64 (wrap64 (a0)), .bool (decide (a0 ≤ 9223372036854775807))] rfl (by (try simp only [List.map_toArray, List.map_cons, List.map_nil]); first | done | rfl | (simp only [List.length_drop, List.length_take]; rfl)) ?_; (with_reducible refine (num_told.calls (wrap64 (a0)) (decide (a0 ≤ 9223372036854775807)) t179 t180 _ A5.out).mono ?_); rintro e w' ⟨rfl, ⟨nd, rfl⟩⟩; refine ⟨_, rfl, ?_⟩))
  go_ret2
  exact ⟨by first | rfl | (simp; done) | (simp [*]; done), by repeat (first | exact Drawn0.refl _ | apply Drawn0.step)⟩

/-! ### num_Gcd: function 113 -/
def num_Gcd.l0 : Nat → Int → List Int → Int → Int → Option (Int × Bool)
 | 0, _, _, _, _ => none
 | k + 1, x4, x7, x8, x9 => if x9 < x8 then (if 0 ≤ x9 then (if x9 < (x7.length : Int) then ((num_size.f (rd x7 x9)).bind fun t182 => ((num_common.f k x4 t182).bind fun t183 => (num_Gcd.l0 k t183 x7 x8 (wrap64 (x9 + 1))))) else (none)) else (none)) else ((num_signed.f x4 false).bind fun bt184 => (some (bt184.1, bt184.2)))
def num_Gcd.f (k : Nat) (l0 : List Int) : Option (Int × Bool) := num_Gcd.l0 k 0 l0 (l0.length : Int) 0
theorem num_Gcd.mono_l : ∀ k, (∀ y0 y1 y2 y3, LeO (num_Gcd.l0 k y0 y1 y2 y3) (num_Gcd.l0 (k + 1) y0 y1 y2 y3))
 | 0 => fun _ _ _ _ r h => by simp [num_Gcd.l0] at h
 | k + 1 => by
  have ih0 := num_Gcd.mono_l k
  ·intro y0 y1 y2 y3
   unfold num_Gcd.l0
   repeat' first
   | (with_reducible exact ih0 _ _ _ _)
   | (with_reducible exact num_common.mono _ _ _)
   | (with_reducible exact LeO.refl _)
   | (with_reducible exact LeO.none _)
   | (with_reducible refine LeO.ite ?_ ?_)
   | (with_reducible refine LeO.bind ?_ (fun _ => ?_))
   | exact ih0 _ _ _ _
   | exact num_common.mono _ _ _
   | exact LeO.none _
   | refine LeO.ite ?_ ?_
   | refine LeO.bind ?_ (fun _ => ?_)
theorem num_Gcd.mono : ∀ a0 k, LeO (num_Gcd.f k a0) (num_Gcd.f (k + 1) a0) := by
 intro a0 k
 have ih0 := num_Gcd.mono_l k
 unfold num_Gcd.f
 repeat' first
   | (with_reducible exact ih0 _ _ _ _)
   | (with_reducible exact num_common.mono _ _ _)
   | (with_reducible exact LeO.refl _)
   | (with_reducible exact LeO.none _)
   | (with_reducible refine LeO.ite ?_ ?_)
   | (with_reducible refine LeO.bind ?_ (fun _ => ?_))
   | exact ih0 _ _ _ _
   | exact num_common.mono _ _ _
   | exact LeO.none _
   | refine LeO.ite ?_ ?_
   | refine LeO.bind ?_ (fun _ => ?_)
set_option maxHeartbeats 8000000 in
set_option maxRecDepth 100000 in
theorem num_Gcd.calls (k : Nat) (A0 : Option Addr) (c0 : Nat) (l0 : List Int) (r1 : Int) (r2 : Bool) (w : World) (hr0 : Kd.C (Kd.int .i64) w A0 l0.length l0) (hc0 : l0.length ≤ c0) (h : num_Gcd.f k l0 = some (r1, r2)) :
  Calls Try.prog 113 #[.slice A0 l0.length c0] w fun e w' => e = .returned (.tuple #[.int .i64 r1, .bool r2]) ∧ Below w.heap.size w w' := by
 have HR0 := zK hr0
 have HC0 := zK hc0; clear hr0 hc0
 have HB := zK (Below.refl w.heap.size w)
 have H : (num_Gcd.l0 k 0 l0 (l0.length : Int) 0) = some (r1, r2) := h
 clear h
 have H' := zK H; clear H
 go_enter Try.func113, Try.ntmps113
 go_wp2
 go_loopg [4, 9] k (fun kq v4 v9 w' => ∃ (x4_1 : Int) (x9_1 : Int), v4 = .int .u64 x4_1 ∧ v9 = .int .i64 x9_1 ∧ Aside0 (num_Gcd.l0 kq x4_1 l0 (l0.length : Int) x9_1 = some (r1, r2)) ∧ Aside0 (kq ≤ k) ∧ Aside0 (Below w.heap.size w w'))
 case atStart => exact ⟨(0), (0), (by first | rfl | (simp; done) | (simp [*]; done)), (by first | rfl | (simp; done) | (simp [*]; done)), H', ⟨Nat.le_refl _⟩, ⟨zo HB⟩⟩
 case round =>
  clear H'; try clear c1
  obtain ⟨x4_1, x9_1, rfl, rfl, HA, HK1, HB⟩ := hrel
  cases gk with
  | zero => exact absurd HA.out (by simp [num_Gcd.l0])
  | succ k1 =>
   have H := HA.out; clear HA
   simp only [num_Gcd.l0] at H
   by_cases c2 : x9_1 < (l0.length : Int)
   ·rw [if_pos c2] at H
    have c2b0 : decide (x9_1 < (l0.length : Int)) = true := decide_eq_true c2
    clear c2
    by_cases c3 : 0 ≤ x9_1
    ·rw [if_pos c3] at H
     have c3b0 : decide (0 ≤ x9_1) = true := decide_eq_true c3; clear c3
     by_cases c4 : x9_1 < (l0.length : Int)
     ·rw [if_pos c4] at H
      have c4b0 : decide (x9_1 < (l0.length : Int)) = true := decide_eq_true c4
      clear c4; replace H := Option.bind_eq_some_iff.mp H
      obtain ⟨t182, A50, H⟩ := H
      replace H : ((num_common.f k1 x4_1 t182).bind fun t183 => (num_Gcd.l0 k1 t183 l0 (l0.length : Int) (wrap64 (x9_1 + 1)))) = some (r1, r2) := H
      have A5 := zK A50; clear A50; replace H := Option.bind_eq_some_iff.mp H
      obtain ⟨t183, A60, H⟩ := H
      replace H : (num_Gcd.l0 k1 t183 l0 (l0.length : Int) (wrap64 (x9_1 + 1))) = some (r1, r2) := H
      have A6 := zK A60; clear A60
      have H' := zK H; clear H
      have p181 : 0 ≤ (x9_1 : Int) := of_decide_eq_true (by first | (with_reducible assumption) | assumption)
      have q181 : x9_1 < (l0.length : Int) := of_decide_eq_true (by first | (with_reducible assumption) | assumption)
      obtain ⟨ad181, e181, hx181_0⟩ := Kd.at_int HR0.out x9_1 p181 q181
      cases e181
      replace hx181_0 := (HB.out.cell (World.block_lt_of_cell? w _ hx181_0)).trans hx181_0
      replace p181 := eq_true p181
      replace q181 := eq_true q181
      go_wp2_with (first | ((with_reducible refine zC (f := 121) rfl ?_); refine goesL_ (some 15) rfl rfl Try.func121 (by kernel_rfl) rfl #[.int .i64 (rd l0 x9_1)] rfl (by (try simp only [List.map_toArray, List.map_cons, List.map_nil]); first | done | rfl | (simp only [List.length_drop, List.length_take]; rfl)) ?_; (with_reducible refine (num_size.calls (rd l0 x9_1) t182 _ A5.out).mono ?_); rintro e w' ⟨rfl, ⟨nd, rfl⟩⟩; refine ⟨_, rfl, ?_⟩) | ((with_reducible refine zC (f := 120) rfl ?_); refine goesL_ (some 16) rfl rfl Try.func120 (by kernel_rfl) rfl #[.int .u64 x4_1, .int .u64 t182] rfl (by (try simp only [List.map_toArray, List.map_cons, List.map_nil]); first | done | rfl | (simp only [List.length_drop, List.length_take]; rfl)) ?_; (with_reducible refine (num_common.calls k1 x4_1 t182 t183 _ A6.out).mono ?_); rintro e w7 ⟨rfl, hb⟩; refine ⟨_, rfl, ?_⟩; replace HB := zK (below_step (zo HB) hb); (try clear hb); (try clear hb2); (try clear hk); (try clear hi)))
      go_roundg k1
      case measure => have := HK1.out; omega
      case rel => exact ⟨(t183), (wrap64 (x9_1 + 1)), (by first | rfl | (simp; done) | (simp [*]; done)), (by first | rfl | (simp; done) | (simp [*]; done)), H', ⟨by have := HK1.out; omega⟩, ⟨zo HB⟩⟩
     ·rw [if_neg c4] at H
      exact absurd H (by simp)
    ·rw [if_neg c3] at H
     exact absurd H (by simp)
   ·rw [if_neg c2] at H
    have c2b0 : decide (x9_1 < (l0.length : Int)) = false := decide_eq_false c2
    clear c2; replace H := Option.bind_eq_some_iff.mp H
    obtain ⟨⟨t184, t185⟩, A80, H⟩ := H
    replace H : (some (t184, t185)) = some (r1, r2) := H
    have A8 := zK A80; clear A80
    simp only [Option.some.injEq, Prod.mk.injEq] at H
    obtain ⟨rfl, rfl⟩ := H
    go_wp2_with (first | ((with_reducible refine zC (f := 122) rfl ?_); refine goesL_ (some 19) rfl rfl Try.func122 (by kernel_rfl) rfl #[.int .u64 x4_1, .bool false] rfl (by (try simp only [List.map_toArray, List.map_cons, List.map_nil]); first | done | rfl | (simp only [List.length_drop, List.length_take]; rfl)) ?_; (with_reducible refine (num_signed.calls x4_1 false t184 t185 _ A8.out).mono ?_); rintro e w' ⟨rfl, ⟨nd, rfl⟩⟩; refine ⟨_, rfl, ?_⟩))
    go_ret2
    exact ⟨by first | rfl | (simp [errW_none, errW_some] <;> rfl) | (simp [*, errW_none, errW_some] <;> rfl), zo HB⟩

/-! ### lin_Gcd: function 97 -/
def lin_Gcd.l0 : Nat → List Int → List (S68) → Int → Int → Option (Int)
 | 0, _, _, _, _ => none
 | k + 1, x3, x9, x10, x11 => if x11 < x10 then (if 0 ≤ x11 then (if x11 < (x9.length : Int) then (if x3.length < 17592186044416 then (lin_Gcd.l0 k (x3 ++ [(rd_T68 x9 x11).f1]) x9 x10 (wrap64 (x11 + 1))) else (none)) else (none)) else (none)) else ((num_Gcd.f k x3).bind fun bt192 => (some bt192.1))
def lin_Gcd.f (k : Nat) (a0_0 : Int) (l0_1 : List (S68)) : Option (Int) := lin_Gcd.l0 k ([] : List Int) l0_1 (l0_1.length : Int) 0
theorem lin_Gcd.mono_l : ∀ k, (∀ y0 y1 y2 y3, LeO (lin_Gcd.l0 k y0 y1 y2 y3) (lin_Gcd.l0 (k + 1) y0 y1 y2 y3))
 | 0 => fun _ _ _ _ r h => by simp [lin_Gcd.l0] at h
 | k + 1 => by
  have ih0 := lin_Gcd.mono_l k
  ·intro y0 y1 y2 y3
   unfold lin_Gcd.l0
   repeat' first
   | (with_reducible exact ih0 _ _ _ _)
   | (with_reducible exact num_Gcd.mono _ _)
   | (with_reducible exact LeO.refl _)
   | (with_reducible exact LeO.none _)
   | (with_reducible refine LeO.ite ?_ ?_)
   | (with_reducible refine LeO.bind ?_ (fun _ => ?_))
   | exact ih0 _ _ _ _
   | exact num_Gcd.mono _ _
   | exact LeO.none _
   | refine LeO.ite ?_ ?_
   | refine LeO.bind ?_ (fun _ => ?_)
theorem lin_Gcd.mono : ∀ a0 a1 k, LeO (lin_Gcd.f k a0 a1) (lin_Gcd.f (k + 1) a0 a1) := by
 intro a0 a1 k
 have ih0 := lin_Gcd.mono_l k
 unfold lin_Gcd.f
 repeat' first
   | (with_reducible exact ih0 _ _ _ _)
   | (with_reducible exact num_Gcd.mono _ _)
   | (with_reducible exact LeO.refl _)
   | (with_reducible exact LeO.none _)
   | (with_reducible refine LeO.ite ?_ ?_)
   | (with_reducible refine LeO.bind ?_ (fun _ => ?_))
   | exact ih0 _ _ _ _
   | exact num_Gcd.mono _ _
   | exact LeO.none _
   | refine LeO.ite ?_ ?_
   | refine LeO.bind ?_ (fun _ => ?_)
set_option maxHeartbeats 8000000 in
set_option maxRecDepth 100000 in
theorem lin_Gcd.calls (k : Nat) (a0_0 : Int) (A0_1 : Option Addr) (c0_1 : Nat) (l0_1 : List (S68)) (r : Int) (w : World) (hr0_1 : Kd.C k68 w A0_1 l0_1.length l0_1) (hc0_1 : l0_1.length ≤ c0_1) (h : lin_Gcd.f k a0_0 l0_1 = some r) :
  Calls Try.prog 97 #[.agg #[.int .i64 a0_0, .slice A0_1 l0_1.length c0_1]] w fun e w' => e = .returned (.int .i64 r) ∧ Below w.heap.size w w' := by
 have hu62 := Try.underlying62
 have hu68 := Try.underlying68
 have HR0_1 := zK hr0_1
 have HC0_1 := zK hc0_1; clear hr0_1 hc0_1
 have HB := zK (Below.refl w.heap.size w)
 have H : (lin_Gcd.l0 k ([] : List Int) l0_1 (l0_1.length : Int) 0) = some r := h
 clear h
 have H' := zK H; clear H
 go_enter Try.func97, Try.ntmps97
 go_wp2_with (first | ((with_reducible refine gate_dst (N := 1) rfl ?_); refine box_event ?hg (N := 1) ?hd (cs := #[.int .i64 a0_0, .slice A0_1 l0_1.length c0_1]) (t := 62) ?hr ?_; (case hd => rfl); (case hg => rfl); (case hr => first | (go_simp; done) | (go_simp; rfl)); intro gb186 hg w2 hbox hb; have BK186 := zK (hbox); have GW186 := zK ((by rw [hg]; exact (below_size (zo HB)) : w.heap.size ≤ gb186)); have GE186 := zK ((by rw [hg]; exact (below_size (zo HB)) : w.heap.size ≤ gb186)); replace HB := zK (below_step (zo HB) hb); clear hb hbox hg; have hcz3_0 : w2.cell? ⟨gb186, 0, none⟩ = some (.int .i64 a0_0) := (blk_cell BK186.out 0).trans rfl; have hcz3_1 : w2.cell? ⟨gb186, 1, none⟩ = some (.slice A0_1 l0_1.length c0_1) := (blk_cell BK186.out 1).trans rfl; have hfz3_0 := blk_frozen BK186.out 0; have hfz3_1 := blk_frozen BK186.out 1))
 go_loopg [3, 11] k (fun kq v3 v11 w' => ∃ (x3_1 : List Int) (x11_1 : Int), v11 = .int .i64 x11_1 ∧ Aside0 (lin_Gcd.l0 kq x3_1 l0_1 (l0_1.length : Int) x11_1 = some r) ∧ Aside0 (kq ≤ k) ∧ Aside0 (Kd.R (Kd.int .i64) 2 w' w.heap.size (fun _ => True) v3 x3_1) ∧ Aside0 (w'.heap[gb186]? = some (.cells #[.int .i64 a0_0, (.slice A0_1 l0_1.length c0_1)] 62 (0, 0))) ∧ Aside0 (Below w.heap.size w w'))
 case atStart => exact ⟨(([] : List Int)), (0), (by first | rfl | (simp; done) | (simp [*]; done)), H', ⟨Nat.le_refl _⟩, ⟨by first | exact Kd.R_nil _ _ _ _ _ | exact Kd.N_nil _ _ _ _ _ | exact Kd.V_nil _ _ _ _ _ | exact Kd.Q_nil _ _ _ _ _ | exact Kd.S_nil _ _ _ _ _⟩, ⟨zb BK186⟩, ⟨zo HB⟩⟩
 case round =>
  clear H'; try clear p2; try clear hcz3_0; try clear hcz3_1; try clear hfz3_0; try clear hfz3_1
  obtain ⟨x3_1, x11_1, rfl, HA, HK1, HO_3, BK186, HB⟩ := hrel
  cases gk with
  | zero => exact absurd HA.out (by simp [lin_Gcd.l0])
  | succ k1 =>
   have H := HA.out; clear HA
   simp only [lin_Gcd.l0] at H
   by_cases c4 : x11_1 < (l0_1.length : Int)
   ·rw [if_pos c4] at H
    have c4b0 : decide (x11_1 < (l0_1.length : Int)) = true := decide_eq_true c4
    clear c4
    by_cases c5 : 0 ≤ x11_1
    ·rw [if_pos c5] at H
     have c5b0 : decide (0 ≤ x11_1) = true := decide_eq_true c5; clear c5
     by_cases c6 : x11_1 < (l0_1.length : Int)
     ·rw [if_pos c6] at H
      have c6b0 : decide (x11_1 < (l0_1.length : Int)) = true := decide_eq_true c6
      clear c6
      by_cases c7 : x3_1.length < 17592186044416
      ·rw [if_pos c7] at H
       have LMc7 := zK c7; clear c7
       obtain ⟨y189, hy189⟩ : ∃ y_ : List Int, y_ = (x3_1 ++ [(rd_T68 l0_1 x11_1).f1]) := ⟨_, rfl⟩
       replace H : (lin_Gcd.l0 k1 y189 l0_1 (l0_1.length : Int) (wrap64 (x11_1 + 1))) = some r := by first | (rw [hy189]; with_reducible exact H) | (have H2_ := (Option.bind_some _ _).symm.trans H; rw [hy189]; with_reducible exact H2_) | (have H2_ := (Option.bind_some _ _).symm.trans H; with_reducible exact H2_) | with_reducible exact H | (rw [hy189]; exact H) | exact H
       have Ny189 := zK hy189; clear hy189
       have H' := zK H; clear H
       have p187 : 0 ≤ (x11_1 : Int) := of_decide_eq_true (by first | (with_reducible assumption) | assumption)
       have q187 : x11_1 < (l0_1.length : Int) := of_decide_eq_true (by first | (with_reducible assumption) | assumption)
       obtain ⟨ad187, e187, hx187_0, hx187_1⟩ := at_T68 HR0_1.out x11_1 p187 q187
       cases e187
       replace hx187_0 := (HB.out.cell (World.block_lt_of_cell? w _ hx187_0)).trans hx187_0
       replace hx187_1 := (HB.out.cell (World.block_lt_of_cell? w _ hx187_1)).trans hx187_1
       replace p187 := eq_true p187
       replace q187 := eq_true q187
       go_wp2_with (first | ((with_reducible refine gate_dst (N := 5) rfl ?_); refine box_event ?hg (N := 5) ?hd (cs := #[.int .i64 0, .int .i64 0]) (t := 68) ?hr ?_; (case hd => rfl); (case hg => rfl); (case hr => first | (go_simp; done) | (go_simp; rfl)); intro gb188 hg w8 hbox hb; replace HO_3 := zK (Kd.R_below (zr HO_3) hb); have BK188 := zK (hbox); have GW188 := zK ((by rw [hg]; exact (below_size (zo HB)) : w.heap.size ≤ gb188)); have GE188 := zK ((by rw [hg]; exact (below_size (zo HB)) : w.heap.size ≤ gb188)); replace HB := zK (below_step (zo HB) hb); have NB186_188 := zK ((by rw [hg]; exact Nat.ne_of_lt (blk_lt (g := gb186) (o := .cells #[.int .i64 a0_0, .slice (some ad187) l0_1.length c0_1] 62 (0, 0)) (zb BK186)) : gb186 ≠ gb188)); have NB188_186 := zK ((by rw [hg]; exact Nat.ne_of_gt (blk_lt (g := gb186) (o := .cells #[.int .i64 a0_0, .slice (some ad187) l0_1.length c0_1] 62 (0, 0)) (zb BK186)) : gb188 ≠ gb186)); replace BK186 := zK (blk_below (g := gb186) (o := .cells #[.int .i64 a0_0, .slice (some ad187) l0_1.length c0_1] 62 (0, 0)) (zb BK186) hb); clear hb hbox hg; have hnb9 := NB188_186.out; have hnc9 := NB186_188.out; have hcz10_0 : w8.cell? ⟨gb188, 0, none⟩ = some (.int .i64 0) := (blk_cell BK188.out 0).trans rfl; have hcz10_1 : w8.cell? ⟨gb188, 1, none⟩ = some (.int .i64 0) := (blk_cell BK188.out 1).trans rfl; have hfz10_0 := blk_frozen BK188.out 0; have hfz10_1 := blk_frozen BK188.out 1) | ((with_reducible refine gate_builtin (b := .append) (xs := #[.tmp 15, .tmp 18]) rfl ?_); at_builtin; refine Kd.R_append (Kd.int .i64) (w0 := w) w.heap.size rfl (.tmp 15) (.tmp 18) 33 2 (.int .i64 0) 8 rfl Try.underlying33 info2 rfl (by decide) (by omega) u3 x3_1 ((rd_T68 l0_1 x11_1).f1) [.int .i64 ((rd_T68 l0_1 x11_1).f1)] (fun _ => True) (fun _ => False) rfl (by first | (go_simp; done) | (go_simp; rfl)) ?aP (fun _ hk => hk.elim) ?aF ?aO ?aB ?aS ?aL ?_; (case aP => exact rfl); (case aB => exact (zo HB)); (case aF => exact (fun _ _ => trivial)); (case aO => exact (by (with_reducible repeat (first | apply Kd.R_alloc | apply Kd.R_drewN | apply Kd.R_drew)); exact Kd.R_mono (Kd.R_far (p := ⟨gb188, 1, none⟩) (Kd.R_far (p := ⟨gb188, 0, none⟩) (Kd.R_types HO_3.out BK188.out (by decide)) (fun _ hk => hk.2) (.int .i64 ((rd_T68 l0_1 x11_1).f0))) (fun _ hk => hk.2) (.int .i64 ((rd_T68 l0_1 x11_1).f1))) (fun _ hk => trivial))); (case aS => exact (below_size (zo HB))); (case aL => have := LMc7.out; omega); intro v190 w11 ho hb hg hat; rw [← Ny189.out] at ho; replace BK186 := zK (blk_grown (g := gb186) (o := .cells #[.int .i64 a0_0, .slice (some ad187) l0_1.length c0_1] 62 (0, 0)) (zb BK186) hg (Kd.R_ne HO_3.out BK186.out (by decide))); replace BK188 := zK (blk_grown (g := gb188) (o := .cells #[.int .i64 ((rd_T68 l0_1 x11_1).f0), .int .i64 ((rd_T68 l0_1 x11_1).f1)] 68 (0, 0)) (by refine zM ?_; refine blk_put (cs := #[.int .i64 ((rd_T68 l0_1 x11_1).f0), .int .i64 0]) ?_ 1 _ rfl; refine zM ?_; refine blk_put (cs := #[.int .i64 0, .int .i64 0]) ?_ 0 _ rfl; refine zM ?_; exact BK188.out) hg (Kd.R_ne HO_3.out BK188.out (by decide))); replace HB := zK (hb); have HO191 := zK (ho); clear HO_3 ho hb hg hat))
       go_roundg k1
       case measure => have := HK1.out; omega
       case rel => exact ⟨(y189), (wrap64 (x11_1 + 1)), (by first | rfl | (simp; done) | (simp [*]; done)), H', ⟨by have := HK1.out; omega⟩, ⟨zr HO191⟩, ⟨zb BK186⟩, ⟨zo HB⟩⟩
      ·rw [if_neg c7] at H
       exact absurd H (by simp)
     ·rw [if_neg c6] at H
      exact absurd H (by simp)
    ·rw [if_neg c5] at H
     exact absurd H (by simp)
   ·rw [if_neg c4] at H
    have c4b0 : decide (x11_1 < (l0_1.length : Int)) = false := decide_eq_false c4
    clear c4; replace H := Option.bind_eq_some_iff.mp H
    obtain ⟨⟨t192, t193⟩, A120, H⟩ := H; replace H : (some t192) = some r := H
    have A12 := zK A120; clear A120
    obtain rfl := Option.some.inj H
    obtain ⟨Ao13, co13, eo13⟩ := Kd.R_slice HO_3.out
    subst eo13
    go_wp2_with (first | ((with_reducible refine zC (f := 113) rfl ?_); refine goesL_ (some 23) rfl rfl Try.func113 (by kernel_rfl) rfl #[.slice Ao13 x3_1.length co13] rfl (by (try simp only [List.map_toArray, List.map_cons, List.map_nil]); first | done | rfl | (simp only [List.length_drop, List.length_take]; rfl)) ?_; (with_reducible refine (num_Gcd.calls k1 _ _ x3_1 t192 t193 _ ?side1 ?side2 A12.out).mono ?_); (case side1 => repeat (first | exact (Kd.R_reads' HO_3.out).2.2 | (with_reducible refine cA ?_ _) | (with_reducible refine cN ?_ _) | (with_reducible refine cD ?_))); (case side2 => exact (Kd.R_reads' HO_3.out).2.1); rintro e w14 ⟨rfl, hb⟩; refine ⟨_, rfl, ?_⟩; replace HO_3 := zK (Kd.R_below (zr HO_3) hb); replace BK186 := zK (blk_below (g := gb186) (o := .cells #[.int .i64 a0_0, .slice A0_1 l0_1.length c0_1] 62 (0, 0)) (zb BK186) hb); replace HB := zK (below_step (zo HB) hb); (try clear hb); (try clear hb2); (try clear hk); (try clear hi)))
    go_ret
    exact ⟨by first | rfl | (simp [errW_none, errW_some] <;> rfl) | (simp [*, errW_none, errW_some] <;> rfl), zo HB⟩

/-! ### api_Mono: function 98, by hand -/
def api_Mono.f (l0 : List S68) : Option (List S68) := if l0.length < 8796093022208 then some l0 else none
set_option maxHeartbeats 8000000 in
set_option maxRecDepth 100000 in
theorem api_Mono.calls (A0 : Option Addr) (c0 : Nat) (l0 : List (S68)) (r : List (S68)) (w : World) (hr0 : Kd.C k68 w A0 l0.length l0) (hc0 : l0.length ≤ c0) (h : api_Mono.f l0 = some r) :
  Calls Try.prog 98 #[.slice A0 l0.length c0] w fun e w' => ∃ v0_ : Value, e = .returned (v0_) ∧ Kd.R k68 68 w' w.heap.size (fun _ => True) v0_ r ∧ Below w.heap.size w w' := by
 unfold api_Mono.f at h
 split at h
 ·rename_i hl
  obtain rfl := Option.some.inj h
  have HR0 := zK hr0
  have HL := zK hl
  have hnil := fun w => Lib.run_eql_slice_nil (P := Try.prog) w 60 68 A0 l0.length c0 0 0 Try.underlying60
  clear hr0 hl h hc0
  cases A0 with
  | none =>
   have hz : l0 = [] := by
    cases l0 with
    | nil => rfl
    | cons x l => obtain ⟨ad, e, _⟩ := HR0.out.2.2 (by simp); cases e
   subst hz
   simp only [List.length_nil, Option.isNone_none] at hnil
   go_enter Try.func98, Try.ntmps98
   go_wp2
   go_ret
   exact ⟨_, rfl, Kd.R_nil _ _ _ _ _, Below.refl _ _⟩
  | some ad =>
   go_enter Try.func98, Try.ntmps98
   go_wp2_with (first
    | ((with_reducible refine gate_dst (N := 5) rfl ?_); refine Kd.R_lit (w0 := w) k68 w.heap.size 68 ?hg (N := 5) ?hd (xs := ([] : List S68)) (inner := []) (ok := fun _ => True) (okp := fun _ => True) ?hr ?hp (fun _ hk => hk) trivial (Below.refl _ _) (Nat.le_refl _) (by simp) ?_; (case hd => rfl); (case hg => rfl); (case hr => first | (go_simp; done) | (go_simp; rfl)); (case hp => exact Reps.none _ _); intro v1 w1 ho_ hb_ hg_ hnew_; have HO := zK ho_; have HB := zK hb_; clear ho_ hb_ hg_ hnew_; obtain ⟨Ao, co, eo⟩ := Kd.R_slice HO.out; subst eo)
    | ((with_reducible refine gate_builtin (b := .append) (xs := #[.tmp 5, .tmp 6]) rfl ?_); at_builtin; refine Kd.R_append_rows (w0 := w) (Rr := k68.K w) k68 w.heap.size rfl (.tmp 5) (.tmp 6) 60 68 (.agg #[(.int .i64 0), (.int .i64 0)]) 16 rfl Try.underlying60 info68 rfl (by decide) (by omega) (.slice Ao 0 co) ([] : List S68) l0 (some ad) l0.length c0 (fun _ => True) (fun _ => False) rfl rfl HO.out (ReadsRow.imp_ HR0.out HB.out (fun _ _ h_ => h_)) ?hk (fun _ hk => hk.elim) (fun _ _ => trivial) HB.out HB.out.size (by have := HL.out; simp; omega) ?_; (case hk => intro x cs hx; obtain ⟨c1, c2, h1, h2, h3⟩ := hx; exact ⟨c1, c2, h1, h2, h3⟩); intro v1 w2 ho_ hb_ hg_ hat_; have HO2 := zK ho_; have HB2 := zK hb_; clear ho_ hb_ hg_ hat_; obtain ⟨Ao2, co2, eo2⟩ := Kd.R_slice HO2.out; subst eo2))
   go_ret
   exact ⟨_, rfl, HO2.out, HB2.out⟩
 ·cases h

/-! ### num_over: function 90 -/
def num_over.f (a0 : Int) (a1 : Int) : Option (Bool) := if a1 = 0 then (some true) else (if a0 = (-9223372036854775808) then (some (a1 == (-1))) else (some false))
set_option maxHeartbeats 8000000 in
set_option maxRecDepth 100000 in
theorem num_over.calls (a0 : Int) (a1 : Int) (r : Bool) (w : World) (h : num_over.f a0 a1 = some r) :
  Calls Try.prog 90 #[.int .i64 a0, .int .i64 a1] w fun e w' => e = .returned (.bool r) ∧ Drawn0 w w' := by
 have H : (if a1 = 0 then (some true) else (if a0 = (-9223372036854775808) then (some (a1 == (-1))) else (some false))) = some r := h
 clear h
 by_cases c3 : a1 = 0
 ·rw [if_pos c3] at H
  have c3b0 : (a1 == 0) = true := beq_iff_eq.mpr c3
  have c3b1 : (a1 != 0) = false := bne_eq_false_iff_eq.mpr c3; clear c3
  obtain rfl := Option.some.inj H
  go_enter Try.func90, Try.ntmps90
  go_wp2
  go_ret
  exact ⟨by first | rfl | (simp; done) | (simp [*]; done), by repeat (first | exact Drawn0.refl _ | apply Drawn0.step)⟩
 ·rw [if_neg c3] at H
  have c3b0 : (a1 == 0) = false := beq_eq_false_iff_ne.mpr c3
  have c3b1 : (a1 != 0) = true := bne_iff_ne.mpr c3
  by_cases c4 : a0 = (-9223372036854775808)
  ·rw [if_pos c4] at H
   have c4b0 : (a0 == (-9223372036854775808)) = true := beq_iff_eq.mpr c4
   have c4b1 : (a0 != (-9223372036854775808)) = false := bne_eq_false_iff_eq.mpr c4
   clear c4
   obtain rfl := Option.some.inj H
   go_enter Try.func90, Try.ntmps90
   go_wp2
   go_ret
   exact ⟨by first | rfl | (simp; done) | (simp [*]; done), by repeat (first | exact Drawn0.refl _ | apply Drawn0.step)⟩
  ·rw [if_neg c4] at H
   have c4b0 : (a0 == (-9223372036854775808)) = false := beq_eq_false_iff_ne.mpr c4
   have c4b1 : (a0 != (-9223372036854775808)) = true := bne_iff_ne.mpr c4
   obtain rfl := Option.some.inj H
   go_enter Try.func90, Try.ntmps90
   go_wp2
   go_ret
   exact ⟨by first | rfl | (simp; done) | (simp [*]; done), by repeat (first | exact Drawn0.refl _ | apply Drawn0.step)⟩

/-! ### num_Ceil: function 60 -/
def num_Ceil.f (a0 : Int) (a1 : Int) : Option (Int × Bool) := (num_over.f a0 a1).bind fun t194 => (if t194 = true then (some (0, false)) else (if a1 = 0 then (none) else (if (Int.tmod a0 a1) = 0 then (some (wrap64 (Int.tdiv a0 a1), true)) else (if ((decide (a0 < 0)) == (decide (a1 < 0))) = true then (some (wrap64 ((wrap64 (Int.tdiv a0 a1)) + 1), true)) else (some (wrap64 (Int.tdiv a0 a1), true))))))
set_option maxHeartbeats 8000000 in
set_option maxRecDepth 100000 in
theorem num_Ceil.calls (a0 : Int) (a1 : Int) (r1 : Int) (r2 : Bool) (w : World) (h : num_Ceil.f a0 a1 = some (r1, r2)) :
  Calls Try.prog 60 #[.int .i64 a0, .int .i64 a1] w fun e w' => e = .returned (.tuple #[.int .i64 r1, .bool r2]) ∧ Drawn0 w w' := by
 have H : ((num_over.f a0 a1).bind fun t194 => (if t194 = true then (some (0, false)) else (if a1 = 0 then (none) else (if (Int.tmod a0 a1) = 0 then (some (wrap64 (Int.tdiv a0 a1), true)) else (if ((decide (a0 < 0)) == (decide (a1 < 0))) = true then (some (wrap64 ((wrap64 (Int.tdiv a0 a1)) + 1), true)) else (some (wrap64 (Int.tdiv a0 a1), true))))))) = some (r1, r2) := h
 clear h; replace H := Option.bind_eq_some_iff.mp H
 obtain ⟨t194, A30, H⟩ := H
 replace H : (if t194 = true then (some (0, false)) else (if a1 = 0 then (none) else (if (Int.tmod a0 a1) = 0 then (some (wrap64 (Int.tdiv a0 a1), true)) else (if ((decide (a0 < 0)) == (decide (a1 < 0))) = true then (some (wrap64 ((wrap64 (Int.tdiv a0 a1)) + 1), true)) else (some (wrap64 (Int.tdiv a0 a1), true)))))) = some (r1, r2) := H
 have A3 := zK A30; clear A30
 by_cases c4 : t194 = true
 ·subst c4
  have H1 : (some (0, false)) = some (r1, r2) := by rw [if_pos rfl] at H; exact H
  clear H; have H := H1; clear H1
  simp only [Option.some.injEq, Prod.mk.injEq] at H
  obtain ⟨rfl, rfl⟩ := H
  go_enter Try.func60, Try.ntmps60
  go_wp2_with (first | ((with_reducible refine zC (f := 90) rfl ?_); refine goesL_ (some 9) rfl rfl Try.func90 (by kernel_rfl) rfl #[.int .i64 a0, .int .i64 a1] rfl (by (try simp only [List.map_toArray, List.map_cons, List.map_nil]); first | done | rfl | (simp only [List.length_drop, List.length_take]; rfl)) ?_; (with_reducible refine (num_over.calls a0 a1 true _ A3.out).mono ?_); rintro e w' ⟨rfl, ⟨nd, rfl⟩⟩; refine ⟨_, rfl, ?_⟩))
  go_ret2
  exact ⟨by first | rfl | (simp; done) | (simp [*]; done), by repeat (first | exact Drawn0.refl _ | apply Drawn0.step)⟩
 ·replace c4 := Bool.eq_false_iff.mpr c4
  subst c4
  have H1 : (if a1 = 0 then (none) else (if (Int.tmod a0 a1) = 0 then (some (wrap64 (Int.tdiv a0 a1), true)) else (if ((decide (a0 < 0)) == (decide (a1 < 0))) = true then (some (wrap64 ((wrap64 (Int.tdiv a0 a1)) + 1), true)) else (some (wrap64 (Int.tdiv a0 a1), true))))) = some (r1, r2) := by rw [if_neg (show ¬ (false = true) by decide)] at H; exact H
  clear H; have H := H1; clear H1
  by_cases c5 : a1 = 0
  ·rw [if_pos c5] at H
   exact absurd H (by simp)
  ·rw [if_neg c5] at H
   have c5b0 : (a1 == 0) = false := beq_eq_false_iff_ne.mpr c5
   have c5b1 : (a1 != 0) = true := bne_iff_ne.mpr c5
   by_cases c6 : (Int.tmod a0 a1) = 0
   ·rw [if_pos c6] at H
    have c6b0 : ((Int.tmod a0 a1) == 0) = true := beq_iff_eq.mpr c6
    have c6b1 : ((Int.tmod a0 a1) != 0) = false := bne_eq_false_iff_eq.mpr c6
    clear c6
    simp only [Option.some.injEq, Prod.mk.injEq] at H
    obtain ⟨rfl, rfl⟩ := H
    go_enter Try.func60, Try.ntmps60
    go_wp2_with (first | ((with_reducible refine zC (f := 90) rfl ?_); refine goesL_ (some 9) rfl rfl Try.func90 (by kernel_rfl) rfl #[.int .i64 a0, .int .i64 a1] rfl (by (try simp only [List.map_toArray, List.map_cons, List.map_nil]); first | done | rfl | (simp only [List.length_drop, List.length_take]; rfl)) ?_; (with_reducible refine (num_over.calls a0 a1 false _ A3.out).mono ?_); rintro e w' ⟨rfl, ⟨nd, rfl⟩⟩; refine ⟨_, rfl, ?_⟩))
    go_ret2
    exact ⟨by first | rfl | (simp; done) | (simp [*]; done), by repeat (first | exact Drawn0.refl _ | apply Drawn0.step)⟩
   ·rw [if_neg c6] at H
    have c6b0 : ((Int.tmod a0 a1) == 0) = false := beq_eq_false_iff_ne.mpr c6
    have c6b1 : ((Int.tmod a0 a1) != 0) = true := bne_iff_ne.mpr c6
    by_cases c7 : ((decide (a0 < 0)) == (decide (a1 < 0))) = true
    ·rw [if_pos c7] at H
     have c7b0 : ((decide (a0 < 0)) == (decide (a1 < 0))) = true := c7
     (try (have c7b1 : decide ((decide (a0 < 0)) = (decide (a1 < 0))) = true := by simpa using c7))
     (try (have c7b2 : ((decide (a0 < 0)) == (decide (a1 < 0))) = true := by simpa using c7))
     clear c7
     simp only [Option.some.injEq, Prod.mk.injEq] at H
     obtain ⟨rfl, rfl⟩ := H
     go_enter Try.func60, Try.ntmps60
     go_wp2_with (first | ((with_reducible refine zC (f := 90) rfl ?_); refine goesL_ (some 9) rfl rfl Try.func90 (by kernel_rfl) rfl #[.int .i64 a0, .int .i64 a1] rfl (by (try simp only [List.map_toArray, List.map_cons, List.map_nil]); first | done | rfl | (simp only [List.length_drop, List.length_take]; rfl)) ?_; (with_reducible refine (num_over.calls a0 a1 false _ A3.out).mono ?_); rintro e w' ⟨rfl, ⟨nd, rfl⟩⟩; refine ⟨_, rfl, ?_⟩))
     go_ret2
     exact ⟨by first | rfl | (simp; done) | (simp [*]; done), by repeat (first | exact Drawn0.refl _ | apply Drawn0.step)⟩
    ·rw [if_neg c7] at H
     have c7b0 : ((decide (a0 < 0)) == (decide (a1 < 0))) = false := by simpa using c7
     (try (have c7b1 : decide ((decide (a0 < 0)) = (decide (a1 < 0))) = false := by simpa using c7))
     (try (have c7b2 : ((decide (a0 < 0)) == (decide (a1 < 0))) = false := by simpa using c7))
     (try (have c7b3 : ¬ ((decide (a0 < 0)) = (decide (a1 < 0))) := by simpa using c7))
     clear c7
     simp only [Option.some.injEq, Prod.mk.injEq] at H
     obtain ⟨rfl, rfl⟩ := H
     go_enter Try.func60, Try.ntmps60
     go_wp2_with (first | ((with_reducible refine zC (f := 90) rfl ?_); refine goesL_ (some 9) rfl rfl Try.func90 (by kernel_rfl) rfl #[.int .i64 a0, .int .i64 a1] rfl (by (try simp only [List.map_toArray, List.map_cons, List.map_nil]); first | done | rfl | (simp only [List.length_drop, List.length_take]; rfl)) ?_; (with_reducible refine (num_over.calls a0 a1 false _ A3.out).mono ?_); rintro e w' ⟨rfl, ⟨nd, rfl⟩⟩; refine ⟨_, rfl, ?_⟩))
     go_ret2
     exact ⟨by first | rfl | (simp; done) | (simp [*]; done), by repeat (first | exact Drawn0.refl _ | apply Drawn0.step)⟩

/-! ### ineq_divided: function 99 -/
def ineq_divided.l0 : Nat → Int → Int → Int → Int → List (S68) → Option (Int × (List (S68)))
 | 0, _, _, _, _, _ => none
 | k + 1, x1, x21, x22, x201000, x201001 => if x22 < x21 then (if 0 ≤ x22 then (if x22 < (x201001.length : Int) then (if x1 = 0 then (none) else (ineq_divided.l0 k x1 x21 (wrap64 (x22 + 1)) x201000 (x201001.set (x22 : Int).toNat (⟨(rd_T68 x201001 x22).f0, wrap64 (Int.tdiv ((rd_T68 x201001 x22).f1) x1)⟩ : S68)))) else (none)) else (none)) else (some (x201000, x201001))
def ineq_divided.f (k : Nat) (a0_0 : Int) (l0_1 : List (S68)) (a1 : Int) : Option (Int × (List (S68))) := (api_Mono.f l0_1).bind fun t197 => ((num_Ceil.f a0_0 a1).bind fun bt201 => (ineq_divided.l0 k a1 (t197.length : Int) 0 bt201.1 t197))
theorem ineq_divided.mono_l : ∀ k, (∀ y0 y1 y2 y3 y4, LeO (ineq_divided.l0 k y0 y1 y2 y3 y4) (ineq_divided.l0 (k + 1) y0 y1 y2 y3 y4))
 | 0 => fun _ _ _ _ _ r h => by simp [ineq_divided.l0] at h
 | k + 1 => by
  have ih0 := ineq_divided.mono_l k
  ·intro y0 y1 y2 y3 y4
   unfold ineq_divided.l0
   repeat' first
   | (with_reducible exact ih0 _ _ _ _ _)
   | (with_reducible exact LeO.refl _)
   | (with_reducible exact LeO.none _)
   | (with_reducible refine LeO.ite ?_ ?_)
   | (with_reducible refine LeO.bind ?_ (fun _ => ?_))
   | exact ih0 _ _ _ _ _
   | exact LeO.none _
   | refine LeO.ite ?_ ?_
   | refine LeO.bind ?_ (fun _ => ?_)
theorem ineq_divided.mono : ∀ a0 a1 a2 k, LeO (ineq_divided.f k a0 a1 a2) (ineq_divided.f (k + 1) a0 a1 a2) := by
 intro a0 a1 a2 k
 have ih0 := ineq_divided.mono_l k
 unfold ineq_divided.f
 repeat' first
   | (with_reducible exact ih0 _ _ _ _ _)
   | (with_reducible exact LeO.refl _)
   | (with_reducible exact LeO.none _)
   | (with_reducible refine LeO.ite ?_ ?_)
   | (with_reducible refine LeO.bind ?_ (fun _ => ?_))
   | exact ih0 _ _ _ _ _
   | exact LeO.none _
   | refine LeO.ite ?_ ?_
   | refine LeO.bind ?_ (fun _ => ?_)
set_option maxHeartbeats 8000000 in
set_option maxRecDepth 100000 in
theorem ineq_divided.calls (k : Nat) (a0_0 : Int) (A0_1 : Option Addr) (c0_1 : Nat) (l0_1 : List (S68)) (a1 : Int) (r1 : Int) (r2 : List (S68)) (w : World) (hr0_1 : Kd.C k68 w A0_1 l0_1.length l0_1) (hc0_1 : l0_1.length ≤ c0_1) (h : ineq_divided.f k a0_0 l0_1 a1 = some (r1, r2)) :
  Calls Try.prog 99 #[.agg #[.int .i64 a0_0, .slice A0_1 l0_1.length c0_1], .int .i64 a1] w fun e w' => ∃ v1_ : Value, e = .returned (.agg #[.int .i64 r1, v1_]) ∧ Kd.R k68 68 w' w.heap.size (fun _ => True) v1_ r2 ∧ Below w.heap.size w w' := by
 have hu62 := Try.underlying62
 have HR0_1 := zK hr0_1
 have HC0_1 := zK hc0_1; clear hr0_1 hc0_1
 have HB := zK (Below.refl w.heap.size w)
 have H : ((api_Mono.f l0_1).bind fun t197 => ((num_Ceil.f a0_0 a1).bind fun bt201 => (ineq_divided.l0 k a1 (t197.length : Int) 0 bt201.1 t197))) = some (r1, r2) := h
 clear h; replace H := Option.bind_eq_some_iff.mp H
 obtain ⟨t197, A30, H⟩ := H
 replace H : ((num_Ceil.f a0_0 a1).bind fun bt201 => (ineq_divided.l0 k a1 (t197.length : Int) 0 bt201.1 t197)) = some (r1, r2) := H
 have A3 := zK A30; clear A30; replace H := Option.bind_eq_some_iff.mp H
 obtain ⟨⟨t201, t202⟩, A40, H⟩ := H
 replace H : (ineq_divided.l0 k a1 (t197.length : Int) 0 t201 t197) = some (r1, r2) := H
 have A4 := zK A40; clear A40
 have H' := zK H; clear H
 go_enter Try.func99, Try.ntmps99
 go_wp2_with (first | ((with_reducible refine gate_dst (N := 2) rfl ?_); refine box_event ?hg (N := 2) ?hd (cs := #[.int .i64 a0_0, .slice A0_1 l0_1.length c0_1]) (t := 62) ?hr ?_; (case hd => rfl); (case hg => rfl); (case hr => first | (go_simp; done) | (go_simp; rfl)); intro gb195 hg w5 hbox hb; have BK195 := zK (hbox); have GW195 := zK ((by rw [hg]; exact (below_size (zo HB)) : w.heap.size ≤ gb195)); have GE195 := zK ((by rw [hg]; exact (below_size (zo HB)) : w.heap.size ≤ gb195)); replace HB := zK (below_step (zo HB) hb); clear hb hbox hg) | ((with_reducible refine gate_dst (N := 4) rfl ?_); refine box_event ?hg (N := 4) ?hd (cs := #[.int .i64 0, .slice none 0 0]) (t := 62) ?hr ?_; (case hd => rfl); (case hg => rfl); (case hr => first | (go_simp; done) | (go_simp; rfl)); intro gb196 hg w6 hbox hb; have BK196 := zK (hbox); have GW196 := zK ((by rw [hg]; exact (below_size (zo HB)) : w.heap.size ≤ gb196)); have GE196 := zK ((by rw [hg]; exact (below_size (zo HB)) : w.heap.size ≤ gb196)); replace HB := zK (below_step (zo HB) hb); have NB195_196 := zK ((by rw [hg]; exact Nat.ne_of_lt (blk_lt (g := gb195) (o := .cells #[.int .i64 a0_0, .slice A0_1 l0_1.length c0_1] 62 (0, 0)) (zb BK195)) : gb195 ≠ gb196)); have NB196_195 := zK ((by rw [hg]; exact Nat.ne_of_gt (blk_lt (g := gb195) (o := .cells #[.int .i64 a0_0, .slice A0_1 l0_1.length c0_1] 62 (0, 0)) (zb BK195)) : gb196 ≠ gb195)); replace BK195 := zK (blk_below (g := gb195) (o := .cells #[.int .i64 a0_0, .slice A0_1 l0_1.length c0_1] 62 (0, 0)) (zb BK195) hb); clear hb hbox hg; have hnb7 := NB195_196.out; have hnc7 := NB196_195.out; have hcz8_0 : w6.cell? ⟨gb195, 0, none⟩ = some (.int .i64 a0_0) := (blk_cell BK195.out 0).trans rfl; have hcz8_1 : w6.cell? ⟨gb195, 1, none⟩ = some (.slice A0_1 l0_1.length c0_1) := (blk_cell BK195.out 1).trans rfl; have hfz8_0 := blk_frozen BK195.out 0; have hfz8_1 := blk_frozen BK195.out 1) | ((with_reducible refine zC (f := 98) rfl ?_); refine goesL_ (some 9) rfl rfl Try.func98 (by kernel_rfl) rfl #[.slice A0_1 l0_1.length c0_1] rfl (by (try simp only [List.map_toArray, List.map_cons, List.map_nil]); first | done | rfl | (simp only [List.length_drop, List.length_take]; rfl)) ?_; (with_reducible refine (api_Mono.calls _ _ l0_1 t197 _ ?side1 ?side2 A3.out).mono ?_); (case side1 => repeat (first | exact (Kd.C_below HR0_1.out HB.out) | (with_reducible refine cA ?_ _) | (with_reducible refine cN ?_ _) | (with_reducible refine cD ?_))); (case side2 => exact HC0_1.out); rintro e w9 ⟨v198, rfl, ho0, hb⟩; refine ⟨_, rfl, ?_⟩; have HO199 := zK (Kd.R_lower ho0 (below_size (zo HB))); replace BK195 := zK (blk_below (g := gb195) (o := .cells #[.int .i64 a0_0, .slice A0_1 l0_1.length c0_1] 62 (0, 0)) (zb BK195) hb); replace BK196 := zK (blk_below (g := gb196) (o := .cells #[.int .i64 0, .slice none 0 0] 62 (0, 0)) (zb BK196) hb); replace HB := zK (below_step (zo HB) hb); (try clear hb); (try clear hb2); (try clear hk); (try clear hi); (try clear ho0); obtain ⟨Ao10, co10, eo10⟩ := Kd.R_slice HO199.out; subst eo10) | ((with_reducible refine gate_dst (N := 5) rfl ?_); refine box_event ?hg (N := 5) ?hd (cs := #[.int .i64 0, .slice none 0 0]) (t := 62) ?hr ?_; (case hd => rfl); (case hg => rfl); (case hr => first | (go_simp; done) | (go_simp; rfl)); intro gb200 hg w11 hbox hb; replace HO199 := zK (Kd.R_below (zr HO199) hb); have BK200 := zK (hbox); have GW200 := zK ((by rw [hg]; exact (below_size (zo HB)) : w.heap.size ≤ gb200)); have GE200 := zK ((by rw [hg]; exact (below_size (zo HB)) : w.heap.size ≤ gb200)); replace HB := zK (below_step (zo HB) hb); have NB195_200 := zK ((by rw [hg]; exact Nat.ne_of_lt (blk_lt (g := gb195) (o := .cells #[.int .i64 a0_0, .slice A0_1 l0_1.length c0_1] 62 (0, 0)) (zb BK195)) : gb195 ≠ gb200)); have NB200_195 := zK ((by rw [hg]; exact Nat.ne_of_gt (blk_lt (g := gb195) (o := .cells #[.int .i64 a0_0, .slice A0_1 l0_1.length c0_1] 62 (0, 0)) (zb BK195)) : gb200 ≠ gb195)); replace BK195 := zK (blk_below (g := gb195) (o := .cells #[.int .i64 a0_0, .slice A0_1 l0_1.length c0_1] 62 (0, 0)) (zb BK195) hb); have NB196_200 := zK ((by rw [hg]; exact Nat.ne_of_lt (blk_lt (g := gb196) (o := .cells #[.int .i64 0, .slice none 0 0] 62 (0, 0)) (zb BK196)) : gb196 ≠ gb200)); have NB200_196 := zK ((by rw [hg]; exact Nat.ne_of_gt (blk_lt (g := gb196) (o := .cells #[.int .i64 0, .slice none 0 0] 62 (0, 0)) (zb BK196)) : gb200 ≠ gb196)); replace BK196 := zK (blk_below (g := gb196) (o := .cells #[.int .i64 0, .slice none 0 0] 62 (0, 0)) (zb BK196) hb); clear hb hbox hg; have hnb12 := NB200_195.out; have hnc12 := NB195_200.out; have hnb13 := NB200_196.out; have hnc13 := NB196_200.out; have hcz14_0 : w11.cell? ⟨gb200, 0, none⟩ = some (.int .i64 0) := (blk_cell BK200.out 0).trans rfl; have hcz14_1 : w11.cell? ⟨gb200, 1, none⟩ = some (.slice none 0 0) := (blk_cell BK200.out 1).trans rfl; have hfz14_0 := blk_frozen BK200.out 0; have hfz14_1 := blk_frozen BK200.out 1; have hcz15_0 : w11.cell? ⟨gb195, 0, none⟩ = some (.int .i64 a0_0) := (blk_cell BK195.out 0).trans rfl; have hcz15_1 : w11.cell? ⟨gb195, 1, none⟩ = some (.slice A0_1 l0_1.length c0_1) := (blk_cell BK195.out 1).trans rfl; have hfz15_0 := blk_frozen BK195.out 0; have hfz15_1 := blk_frozen BK195.out 1) | ((with_reducible refine zC (f := 60) rfl ?_); refine goesL_ (some 15) rfl rfl Try.func60 (by kernel_rfl) rfl #[.int .i64 a0_0, .int .i64 a1] rfl (by (try simp only [List.map_toArray, List.map_cons, List.map_nil]); first | done | rfl | (simp only [List.length_drop, List.length_take]; rfl)) ?_; (with_reducible refine (num_Ceil.calls a0_0 a1 t201 t202 _ A4.out).mono ?_); rintro e w' ⟨rfl, ⟨nd, rfl⟩⟩; refine ⟨_, rfl, ?_⟩))
 go_loopg [22] k (fun kq v22 w' => ∃ (x22_1 : Int) (x201001_1 : List (S68)) (u201001 : Value), v22 = .int .i64 x22_1 ∧ Aside0 (ineq_divided.l0 kq a1 (t197.length : Int) x22_1 t201 x201001_1 = some (r1, r2)) ∧ Aside0 (kq ≤ k) ∧ Aside0 (Kd.R k68 68 w' w.heap.size (fun _ => True) u201001 x201001_1) ∧ Aside0 (w'.heap[gb195]? = some (.cells #[.int .i64 a0_0, (.slice A0_1 l0_1.length c0_1)] 62 (0, 0))) ∧ Aside0 (w'.heap[gb196]? = some (.cells #[.int .i64 0, (.slice none 0 0)] 62 (0, 0))) ∧ Aside0 (w'.heap[gb200]? = some (.cells #[.int .i64 t201, u201001] 62 (0, 0))) ∧ Aside0 (Below w.heap.size w w'))
 case atStart => exact ⟨(0), (t197), (.slice Ao10 t197.length co10), (by first | rfl | (simp; done) | (simp [*]; done)), H', ⟨Nat.le_refl _⟩, ⟨by (with_reducible repeat (first | apply Kd.R_alloc | apply Kd.R_drewN | apply Kd.R_drew)); exact Kd.R_mono (Kd.R_far (p := ⟨gb200, 0, none⟩) (Kd.R_far (p := ⟨gb200, 1, none⟩) (Kd.R_far (p := ⟨gb200, 0, none⟩) (Kd.R_types HO199.out BK200.out (by decide)) (fun _ hk => hk.2) (.int .i64 0)) (fun _ hk => hk.2) (.slice Ao10 t197.length co10)) (fun _ hk => hk.2) (.int .i64 t201)) (fun _ hk => trivial)⟩, ⟨zb BK195⟩, ⟨zb BK196⟩, ⟨by refine zM ?_; refine blk_put (cs := #[.int .i64 0, .slice Ao10 t197.length co10]) ?_ 0 _ rfl; refine zM ?_; refine blk_put (cs := #[.int .i64 0, .slice none 0 0]) ?_ 1 _ rfl; refine zM ?_; refine blk_put (cs := #[.int .i64 0, .slice none 0 0]) ?_ 0 _ rfl; refine zM ?_; exact BK200.out⟩, ⟨zo HB⟩⟩
 case round =>
  clear H'; try clear c1; try clear p2; try clear c6
  try clear c7; try clear c9; try clear c12; try clear c13
  try clear hcz14_0; try clear hcz14_1; try clear hcz15_0; try clear hcz15_1
  try clear hcz8_0; try clear hcz8_1; try clear hfz14_0; try clear hfz14_1
  try clear hfz15_0; try clear hfz15_1; try clear hfz8_0; try clear hfz8_1
  obtain ⟨x22_1, x201001_1, u201001, rfl, HA, HK1, HO_201001, BK195, BK196, BK200, HB⟩ := hrel
  cases gk with
  | zero => exact absurd HA.out (by simp [ineq_divided.l0])
  | succ k1 =>
   have H := HA.out; clear HA
   simp only [ineq_divided.l0] at H
   by_cases c16 : x22_1 < (t197.length : Int)
   ·rw [if_pos c16] at H
    have c16b0 : decide (x22_1 < (t197.length : Int)) = true := decide_eq_true c16
    clear c16
    by_cases c17 : 0 ≤ x22_1
    ·rw [if_pos c17] at H
     have c17b0 : decide (0 ≤ x22_1) = true := decide_eq_true c17; clear c17
     by_cases c18 : x22_1 < (x201001_1.length : Int)
     ·rw [if_pos c18] at H
      have c18b0 : decide (x22_1 < (x201001_1.length : Int)) = true := decide_eq_true c18
      clear c18
      by_cases c19 : a1 = 0
      ·rw [if_pos c19] at H
       exact absurd H (by simp)
      ·rw [if_neg c19] at H
       have c19b0 : (a1 == 0) = false := beq_eq_false_iff_ne.mpr c19
       have c19b1 : (a1 != 0) = true := bne_iff_ne.mpr c19
       obtain ⟨y204, hy204⟩ : ∃ y_ : List (S68), y_ = (x201001_1.set (x22_1 : Int).toNat (⟨(rd_T68 x201001_1 x22_1).f0, wrap64 (Int.tdiv ((rd_T68 x201001_1 x22_1).f1) a1)⟩ : S68)) := ⟨_, rfl⟩
       replace H : (ineq_divided.l0 k1 a1 (t197.length : Int) (wrap64 (x22_1 + 1)) t201 y204) = some (r1, r2) := by first | (rw [hy204]; with_reducible exact H) | (have H2_ := (Option.bind_some _ _).symm.trans H; rw [hy204]; with_reducible exact H2_) | (have H2_ := (Option.bind_some _ _).symm.trans H; with_reducible exact H2_) | with_reducible exact H | (rw [hy204]; exact H) | exact H
       have Ny204 := zK hy204; clear hy204
       have H' := zK H; clear H
       have hnb21 := NB200_195.out
       have hnc21 := NB195_200.out
       have hnb22 := NB200_196.out
       have hnc22 := NB196_200.out
       have hcz23_0 : wr.cell? ⟨gb200, 0, none⟩ = some (.int .i64 t201) := (blk_cell BK200.out 0).trans rfl
       have hcz23_1 : wr.cell? ⟨gb200, 1, none⟩ = some (u201001) := (blk_cell BK200.out 1).trans rfl
       have hfz23_0 := blk_frozen BK200.out 0
       have hfz23_1 := blk_frozen BK200.out 1
       obtain ⟨Ao24, co24, eo24⟩ := Kd.R_slice HO_201001.out
       subst eo24
       have p203 : 0 ≤ (x22_1 : Int) := of_decide_eq_true (by first | (with_reducible assumption) | assumption)
       have q203 : x22_1 < (x201001_1.length : Int) := of_decide_eq_true (by first | (with_reducible assumption) | assumption)
       obtain ⟨ad203, e203, hx203_0, hx203_1⟩ := at_T68 (Kd.R_reads' HO_201001.out).2.2 x22_1 p203 q203
       cases e203
       replace p203 := eq_true p203
       replace q203 := eq_true q203
       have p20 : 0 ≤ (x22_1 : Int) := of_decide_eq_true (by first | (with_reducible assumption) | assumption)
       have q20 : (x22_1 : Int) < ((x201001_1.length : Int) : Int) := of_decide_eq_true (by first | (with_reducible assumption) | assumption)
       obtain ⟨go20, co20, eo20, gb20, gl20, cl20, HG20⟩ := Kd.R_form HO_201001.out (by omega)
       (first | cases eo20 | (injection eo20 with ea_ en_ ec_; (first | subst ea_ | (injection ea_ with ea_; subst ea_)); subst ec_; clear en_))
       have GB20 := zK gb20
       have GG20 := zK HG20; clear gb20 gl20 HG20
       (first | simp only [add_plain] at hx203_0 | skip)
       (first | simp only [add_plain] at hx203_1 | skip)
       obtain ⟨ce20, hcl20, hM20, hcc20, hfr20⟩ := Kd.R_elem HO_201001.out z68 (x22_1 : Int) p20 q20
       obtain rfl := k68_openM hM20
       have hx20_0 : wr.cell? ⟨go20, (x22_1 : Int).toNat * 2, none⟩ = some (.int .i64 ((rd_T68 x201001_1 x22_1).f0)) := hcc20 0 _ rfl
       have hx20_1 : wr.cell? ⟨go20, (x22_1 : Int).toNat * 2 + 1, none⟩ = some (.int .i64 ((rd_T68 x201001_1 x22_1).f1)) := hcc20 1 _ rfl
       have hf20_0 : wr.frozen? ⟨go20, (x22_1 : Int).toNat * 2, none⟩ = false := hfr20 0
       have hf20_1 : wr.frozen? ⟨go20, (x22_1 : Int).toNat * 2 + 1, none⟩ = false := hfr20 1
       clear hcl20 hcc20 hfr20 hM20
       replace p20 := eq_true p20
       replace q20 := eq_true q20
       have HX25 := zK (show Kd.R k68 68 wr w.heap.size (fun _ => True) (.slice (some ⟨go20, 0, none⟩) x201001_1.length co24) x201001_1 from (zr HO_201001))
       obtain ⟨ce25, hcl25, hM25, hcc25, hfr25⟩ := Kd.R_elem HX25.out z68 (x22_1 : Int) (of_decide_eq_true (by first | (with_reducible assumption) | assumption)) (by have h_ : (x22_1 : Int) < ((x201001_1.length : Int) : Int) := of_decide_eq_true (by first | (with_reducible assumption) | assumption); first | exact h_ | (have e_ := (Kd.R_reads' HO_201001.out).1; omega) | simpa using h_)
       obtain rfl := k68_openM hM25
       have HP25 := Kd.R_seg HX25.out (x22_1 : Int) (of_decide_eq_true (by first | (with_reducible assumption) | assumption)) (by have h_ : (x22_1 : Int) < ((x201001_1.length : Int) : Int) := of_decide_eq_true (by first | (with_reducible assumption) | assumption); first | exact h_ | (have e_ := (Kd.R_reads' HO_201001.out).1; omega) | simpa using h_) (seg := [.int .i64 (wrap64 (Int.tdiv ((rd_T68 x201001_1 x22_1).f1) a1))]) (j := 1) hcl25 hcc25 (show 2 ≤ 2 from by decide) (x' := (⟨(rd_T68 x201001_1 x22_1).f0, wrap64 (Int.tdiv ((rd_T68 x201001_1 x22_1).f1) a1)⟩ : S68)) (k68_mkM _ _ _ (⟨(rd_T68 x201001_1 x22_1).f0, wrap64 (Int.tdiv ((rd_T68 x201001_1 x22_1).f1) a1)⟩ : S68) ) (fun _ hk => hk)
       have hx25_1 := hcc25 1 _ rfl
       (try simp only [show (k68).sz = 2 from rfl, Nat.mul_one, Nat.add_zero] at hx25_1)
       have hf25_1 := hfr25 1
       (try simp only [show (k68).sz = 2 from rfl, Nat.mul_one, Nat.add_zero] at hf25_1)
       clear hcl25 hcc25 hfr25 hM25
       go_wp2_with (first | ((with_reducible refine gate_store (t := 2) (p := 34) rfl ?_); refine store_event (t := 2) (p := 34) (v := ?vo_w26) (w1 := (wr.setCell ⟨go20, (x22_1 : Int).toNat * 2 + 1, none⟩ (.int .i64 (wrap64 (Int.tdiv ((rd_T68 x201001_1 x22_1).f1) a1))))) ?hg ?ho ?hn ?hr ?_; (case ho => rfl); (case hg => rfl); (case hn => rfl); (case hr => first | (go_simp; done) | (go_simp; rfl)); intro w26 hw; have hg : wr.grownBy w26 (some go20) := (by rw [hw]; exact HP25.2); have hp_ : Kd.R k68 68 w26 w.heap.size (fun _ => True) (.slice (some ⟨go20, 0, none⟩) x201001_1.length co24) y204 := (by rw [hw, Ny204.out]; exact HP25.1); clear HP25; replace BK195 := zK (blk_grown (g := gb195) (o := .cells #[.int .i64 a0_0, .slice A0_1 l0_1.length c0_1] 62 (0, 0)) (zb BK195) hg (Kd.R_ne HO_201001.out BK195.out (by decide))); replace BK196 := zK (blk_grown (g := gb196) (o := .cells #[.int .i64 0, .slice none 0 0] 62 (0, 0)) (zb BK196) hg (Kd.R_ne HO_201001.out BK196.out (by decide))); replace BK200 := zK (blk_grown (g := gb200) (o := .cells #[.int .i64 t201, .slice (some ⟨go20, 0, none⟩) x201001_1.length co24] 62 (0, 0)) (zb BK200) hg (Kd.R_ne HO_201001.out BK200.out (by decide))); replace HO_201001 := zK (hp_); replace HB := zK ((by rw [hw]; exact yS (HB.out) GB20.out : Below w.heap.size w w26)); clear hg hw hp_))
       go_roundg k1
       case measure => have := HK1.out; omega
       case rel => exact ⟨(wrap64 (x22_1 + 1)), (y204), (.slice (some ⟨go20, 0, none⟩) x201001_1.length co24), (by first | rfl | (simp; done) | (simp [*]; done)), H', ⟨by have := HK1.out; omega⟩, ⟨zr HO_201001⟩, ⟨zb BK195⟩, ⟨zb BK196⟩, ⟨zb BK200⟩, ⟨zo HB⟩⟩
     ·rw [if_neg c18] at H
      exact absurd H (by simp)
    ·rw [if_neg c17] at H
     exact absurd H (by simp)
   ·rw [if_neg c16] at H
    have c16b0 : decide (x22_1 < (t197.length : Int)) = false := decide_eq_false c16
    clear c16
    simp only [Option.some.injEq, Prod.mk.injEq] at H
    obtain ⟨rfl, rfl⟩ := H
    have hnb27 := NB200_195.out
    have hnc27 := NB195_200.out
    have hnb28 := NB200_196.out
    have hnc28 := NB196_200.out
    have hcz29_0 : wr.cell? ⟨gb200, 0, none⟩ = some (.int .i64 t201) := (blk_cell BK200.out 0).trans rfl
    have hcz29_1 : wr.cell? ⟨gb200, 1, none⟩ = some (u201001) := (blk_cell BK200.out 1).trans rfl
    have hfz29_0 := blk_frozen BK200.out 0
    have hfz29_1 := blk_frozen BK200.out 1
    have hnb30 := NB196_195.out
    have hnc30 := NB195_196.out
    have hcz31_0 : wr.cell? ⟨gb196, 0, none⟩ = some (.int .i64 0) := (blk_cell BK196.out 0).trans rfl
    have hcz31_1 : wr.cell? ⟨gb196, 1, none⟩ = some (.slice none 0 0) := (blk_cell BK196.out 1).trans rfl
    have hfz31_0 := blk_frozen BK196.out 0
    have hfz31_1 := blk_frozen BK196.out 1
    obtain ⟨Ao32, co32, eo32⟩ := Kd.R_slice HO_201001.out
    subst eo32
    go_wp2
    refine bodyPost_ret (results_cell_row rfl _ _ gb196 62 #[.int .i64 t201, .slice Ao32 x201001_1.length co32] (0, 0) _ rfl (by refine zM ?_; refine blk_put (cs := #[.int .i64 t201, .slice none 0 0]) ?_ 1 _ rfl; refine zM ?_; refine blk_put (cs := #[.int .i64 0, .slice none 0 0]) ?_ 0 _ rfl; refine zM ?_; exact BK196.out) Try.underlying62 rfl (by kernel_rfl)) rfl ?_
    exact ⟨_, by first | rfl | (simp [errW_none, errW_some] <;> rfl) | (simp [*, errW_none, errW_some] <;> rfl), by (with_reducible repeat (first | apply Kd.R_alloc | apply Kd.R_drewN | apply Kd.R_drew)); exact Kd.R_mono (Kd.R_far (p := ⟨gb196, 1, none⟩) (Kd.R_far (p := ⟨gb196, 0, none⟩) (Kd.R_types HO_201001.out BK196.out (by decide)) (fun _ hk => hk.2) (.int .i64 t201)) (fun _ hk => hk.2) (.slice Ao32 x201001_1.length co32)) (fun _ hk => trivial), zo HB⟩

end Go.Proofs.Ytkfbfgkdabljiaa.PBoxWithin
