/- What the call of each function that the law reaches comes to: it answers as the plain function of the same name does, wherever that one answers; and the law itself out of its plain form. Written by a program of this session (an extended copy of the printer); no condition but what stands in each theorem. -/
import Derived.Test.YtdglmjhhlnhelaaPNumBezoutsx0
import Derived.Test.YtdglmjhhlnhelaaPNumBezoutsx1
import Derived.Test.YtdglmjhhlnhelaaPNumBezoutsx2
namespace Go.Proofs.Ytdglmjhhlnhelaa.PNumBezouts
open Go.RowKit Go.Proofs.YtdglmjhhlnhelaaW.PrintWords Go.Proofs.YtdglmjhhlnhelaaW.PrintLast Go.Proofs.YtdglmjhhlnhelaaW.PrintMore
attribute [local go_sem] max2_int min2_int max_two min_two max_three min_three max_four min_four   -- for this text's walks alone
set_option linter.unusedVariables false
set_option linter.unusedSimpArgs false

/-! ### sequiturlaw01_NumBezouts: function 6 -/
def sequiturlaw01_NumBezouts.j0 : Nat → Int → Int → Int → Int → Int → Bool → Bool → Option (Bool)
  | 0, _, _, _, _, _, _, _ => none
  | k + 1, x0, x1, x5, x6, x7, x8, x35 => if x35 = true then (some false) else (if x8 = true then ((sequiturref01_Times.f k x0 x6).bind fun bt169 => ((sequiturref01_Times.f k x1 x7).bind fun bt171 => ((sequiturref01_Plus.f bt169.1 bt169.2 bt171.1 bt171.2).bind fun bt173 => ((sequiturref01_Fits.f bt173.1 bt173.2).bind fun bt175 => (if bt175.2 = true then (if bt175.1 = x5 then ((sequiturref01_Far.f x6).bind fun t177 => ((sequiturref01_Far.f x1).bind fun t178 => (if t177 ≤ (mx 1 t178) then ((sequiturref01_Far.f x7).bind fun t179 => ((sequiturref01_Far.f x0).bind fun t180 => (if t179 ≤ (mx 1 t180) then ((sequiturlaw01_goes.f k).bind fun t181 => (some t181)) else (some false)))) else (some false)))) else (some false)) else (some false)))))) else (if x6 = 0 then (if x7 = 0 then ((sequiturlaw01_goes.f k).bind fun t168 => (some t168)) else (some false)) else (some false)))
def sequiturlaw01_NumBezouts.f (k : Nat) (a0 : Int) (a1 : Int) : Option (Bool) := (num_Bezout.f k a0 a1).bind fun bt159 => ((sequiturref01_Gcd.f k (([a0, a1] : List Int))).bind fun bt166 => (if (bt159.2.2.2 != bt166.2) = true then (sequiturlaw01_NumBezouts.j0 k a0 a1 bt159.1 bt159.2.1 bt159.2.2.1 bt159.2.2.2 true) else (sequiturlaw01_NumBezouts.j0 k a0 a1 bt159.1 bt159.2.1 bt159.2.2.1 bt159.2.2.2 (bt159.1 != bt166.1))))
theorem sequiturlaw01_NumBezouts.mono_l : ∀ k, (∀ y0 y1 y2 y3 y4 y5 y6, LeO (sequiturlaw01_NumBezouts.j0 k y0 y1 y2 y3 y4 y5 y6) (sequiturlaw01_NumBezouts.j0 (k + 1) y0 y1 y2 y3 y4 y5 y6))
  | 0 => fun _ _ _ _ _ _ _ r h => by simp [sequiturlaw01_NumBezouts.j0] at h
  | k + 1 => by
    have ih0 := sequiturlaw01_NumBezouts.mono_l k
    · intro y0 y1 y2 y3 y4 y5 y6
      unfold sequiturlaw01_NumBezouts.j0
      repeat' first
      | (with_reducible exact ih0 _ _ _ _ _ _ _)
      | (with_reducible exact num_Bezout.mono _ _ _)
      | (with_reducible exact sequiturlaw01_goes.mono _)
      | (with_reducible exact sequiturref01_Gcd.mono _ _)
      | (with_reducible exact sequiturref01_Times.mono _ _ _)
      | (with_reducible exact LeO.refl _)
      | (with_reducible exact LeO.none _)
      | (with_reducible refine LeO.ite ?_ ?_)
      | (with_reducible refine LeO.bind ?_ (fun _ => ?_))
      | exact ih0 _ _ _ _ _ _ _
      | exact num_Bezout.mono _ _ _
      | exact sequiturlaw01_goes.mono _
      | exact sequiturref01_Gcd.mono _ _
      | exact sequiturref01_Times.mono _ _ _
      | exact LeO.none _
      | refine LeO.ite ?_ ?_
      | refine LeO.bind ?_ (fun _ => ?_)
theorem sequiturlaw01_NumBezouts.mono : ∀ a0 a1 k, LeO (sequiturlaw01_NumBezouts.f k a0 a1) (sequiturlaw01_NumBezouts.f (k + 1) a0 a1) := by
  intro a0 a1 k
  have ih0 := sequiturlaw01_NumBezouts.mono_l k
  unfold sequiturlaw01_NumBezouts.f
  repeat' first
      | (with_reducible exact ih0 _ _ _ _ _ _ _)
      | (with_reducible exact num_Bezout.mono _ _ _)
      | (with_reducible exact sequiturlaw01_goes.mono _)
      | (with_reducible exact sequiturref01_Gcd.mono _ _)
      | (with_reducible exact sequiturref01_Times.mono _ _ _)
      | (with_reducible exact LeO.refl _)
      | (with_reducible exact LeO.none _)
      | (with_reducible refine LeO.ite ?_ ?_)
      | (with_reducible refine LeO.bind ?_ (fun _ => ?_))
      | exact ih0 _ _ _ _ _ _ _
      | exact num_Bezout.mono _ _ _
      | exact sequiturlaw01_goes.mono _
      | exact sequiturref01_Gcd.mono _ _
      | exact sequiturref01_Times.mono _ _ _
      | exact LeO.none _
      | refine LeO.ite ?_ ?_
      | refine LeO.bind ?_ (fun _ => ?_)
set_option maxHeartbeats 8000000 in
set_option maxRecDepth 100000 in
theorem sequiturlaw01_NumBezouts.calls (k : Nat) (a0 : Int) (a1 : Int) (r : Bool) (w : World) (h : sequiturlaw01_NumBezouts.f k a0 a1 = some r) :
    Calls Try.prog 6 #[.int .i64 a0, .int .i64 a1] w fun e w' => e = .returned (.bool r) ∧ Below w.heap.size w w' := by
  have HB := Aside0.mk (Below.refl w.heap.size w)
  have H : ((num_Bezout.f k a0 a1).bind fun bt159 => ((sequiturref01_Gcd.f k (([a0, a1] : List Int))).bind fun bt166 => (if (bt159.2.2.2 != bt166.2) = true then (sequiturlaw01_NumBezouts.j0 k a0 a1 bt159.1 bt159.2.1 bt159.2.2.1 bt159.2.2.2 true) else (sequiturlaw01_NumBezouts.j0 k a0 a1 bt159.1 bt159.2.1 bt159.2.2.1 bt159.2.2.2 (bt159.1 != bt166.1))))) = some r := h
  clear h
  replace H := Option.bind_eq_some_iff.mp H
  obtain ⟨⟨t159, t160, t161, t162⟩, A30, H⟩ := H
  replace H : ((sequiturref01_Gcd.f k (([a0, a1] : List Int))).bind fun bt166 => (if (t162 != bt166.2) = true then (sequiturlaw01_NumBezouts.j0 k a0 a1 t159 t160 t161 t162 true) else (sequiturlaw01_NumBezouts.j0 k a0 a1 t159 t160 t161 t162 (t159 != bt166.1)))) = some r := H
  have A3 := Aside0.mk A30
  clear A30
  obtain ⟨y163, hy163⟩ : ∃ y_ : List Int, y_ = (([a0, a1] : List Int)) := ⟨_, rfl⟩
  replace H : ((sequiturref01_Gcd.f k y163).bind fun bt166 => (if (t162 != bt166.2) = true then (sequiturlaw01_NumBezouts.j0 k a0 a1 t159 t160 t161 t162 true) else (sequiturlaw01_NumBezouts.j0 k a0 a1 t159 t160 t161 t162 (t159 != bt166.1)))) = some r := by first | (rw [hy163]; with_reducible exact H) | (have H2_ := (Option.bind_some _ _).symm.trans H; rw [hy163]; with_reducible exact H2_) | (have H2_ := (Option.bind_some _ _).symm.trans H; with_reducible exact H2_) | with_reducible exact H | (rw [hy163]; exact H) | exact H
  have Ny163 := Aside0.mk hy163
  clear hy163
  replace H := Option.bind_eq_some_iff.mp H
  obtain ⟨⟨t166, t167⟩, A40, H⟩ := H
  replace H : (if (t162 != t167) = true then (sequiturlaw01_NumBezouts.j0 k a0 a1 t159 t160 t161 t162 true) else (sequiturlaw01_NumBezouts.j0 k a0 a1 t159 t160 t161 t162 (t159 != t166))) = some r := H
  have A4 := Aside0.mk A40
  clear A40
  have HC5 := Aside0.mk H
  clear H
  go_enter Try.func6, Try.ntmps6
  go_upto_region 3 with (first | ((with_reducible refine gate_callee (f := 23) rfl ?_); refine goesL_ (some 16) rfl rfl Try.func23 (by kernel_rfl) rfl #[.int .i64 a0, .int .i64 a1] rfl (by (try simp only [List.map_toArray, List.map_cons, List.map_nil]); first | done | rfl | (simp only [List.length_drop, List.length_take]; rfl)) ?_; (with_reducible refine (num_Bezout.calls k a0 a1 t159 t160 t161 t162 _ A3.out).mono ?_); rintro e w6 ⟨rfl, hb⟩; refine ⟨_, rfl, ?_⟩; have n0_ := Aside0.mk (below_step (by repeat (first | (with_reducible first | exact HB.out | apply below_alloc | apply pw_below_drewN | apply below_drew1) | exact HB.out)) hb); clear HB; have HB := n0_; clear n0_; (try clear hb); (try clear hb2); (try clear hk); (try clear hi)) | ((with_reducible refine gate_dst (N := 24) rfl ?_); (try (refine gate_guard (by rfl) ?_; dsimp only)); refine Kd.R_lit (Kd.int .i64) _ 2 ?hg (N := 24) ?hd (xs := ([a0, a1] : List Int)) (inner := [.int .i64 a0, .int .i64 a1]) (ok := fun _ => True) (okp := fun _ => True) ?hr ?hp (fun _ hk => hk) trivial (Below.refl _ _) (Nat.le_refl _) (by simp) ?_; (case hd => rfl); (case hg => rfl); (case hr => first | (go_simp; done) | (go_simp; rfl)); (case hp => exact (Reps.one (show Kd.M (Kd.int .i64) _ _ _ a0 [.int .i64 a0] from rfl) (Reps.one (show Kd.M (Kd.int .i64) _ _ _ a1 [.int .i64 a1] from rfl) (Reps.none _ _)))); intro v164 w7 ho8 hb hg_ hnew_; clear hg_ hnew_; (first | rw [← Ny163.out] at ho8 | (simp only [Int.reduceToNat] at ho8; rw [← Ny163.out] at ho8)); have n0_ := Aside0.mk (Kd.R_lower ho8 (below_size (by repeat (first | (with_reducible first | exact HB.out | apply below_alloc | apply pw_below_drewN | apply below_drew1) | exact HB.out)))); have n1_ := Aside0.mk (below_step (by repeat (first | (with_reducible first | exact HB.out | apply below_alloc | apply pw_below_drewN | apply below_drew1) | exact HB.out)) hb); clear HB; have HO165 := n0_; have HB := n1_; clear n0_ n1_; clear hb ho8; obtain ⟨Ao9, co9, eo9⟩ := Kd.R_slice HO165.out; subst eo9) | ((with_reducible refine gate_callee (f := 24) rfl ?_); refine goesL_ (some 25) rfl rfl Try.func24 (by kernel_rfl) rfl #[.slice Ao9 y163.length co9] rfl (by (try simp only [List.map_toArray, List.map_cons, List.map_nil]); first | done | rfl | (simp only [List.length_drop, List.length_take]; rfl)) ?_; (with_reducible refine (sequiturref01_Gcd.calls k _ _ y163 t166 t167 _ ?side1 ?side2 A4.out).mono ?_); (case side1 => repeat (first | exact (Kd.R_reads' HO165.out).2.2 | (with_reducible refine Kd.C_alloc ?_ _) | (with_reducible refine Kd.C_drewN ?_ _) | (with_reducible refine Kd.C_drew ?_))); (case side2 => exact (Kd.R_reads' HO165.out).2.1); rintro e w' ⟨rfl, ⟨nd, rfl⟩⟩; refine ⟨_, rfl, ?_⟩))
  (try simp only [Act.put, List.setIfInBounds_toArray, List.set_cons_zero, List.set_cons_succ])
  go_cut [35] (fun v35 wc => ∃ (kq : Nat) (x35_4 : Bool), v35 = .bool x35_4 ∧ Aside0 (sequiturlaw01_NumBezouts.j0 kq a0 a1 t159 t160 t161 t162 x35_4 = some r) ∧ Aside0 (kq ≤ k) ∧ Aside0 (Below w.heap.size w wc))
  case first =>
    have H := HC5.out
    clear HC5
    by_cases c10 : (t162 != t167) = true
    · rw [if_pos c10] at H
      have c10b0 : (t162 != t167) = true := c10
      (try (have c10b1 : decide (t162 = t167) = false := by simpa using c10))
      (try (have c10b2 : (t162 == t167) = false := by simpa using c10))
      (try (have c10b3 : ¬ (t162 = t167) := by simpa using c10))
      clear c10
      (first | rw [c10b0] | (simp only [i64_w, i32_w]; rw [c10b0]) | skip)
      have H' := Aside0.mk H
      clear H
      go_wp2
      go_meet
      case rel => exact ⟨_, (true), (by first | rfl | (simp; done) | (simp [*]; done)), H', ⟨by first | omega | exact Nat.le_refl _⟩, ⟨by repeat (first | (with_reducible first | exact HB.out | apply below_alloc | apply pw_below_drewN | apply below_drew1) | exact HB.out)⟩⟩
    · rw [if_neg c10] at H
      have c10b0 : (t162 != t167) = false := by simpa using c10
      (try (have c10b1 : decide (t162 = t167) = true := by simpa using c10))
      (try (have c10b2 : (t162 == t167) = true := by simpa using c10))
      clear c10
      (first | rw [c10b0] | (simp only [i64_w, i32_w]; rw [c10b0]) | skip)
      have H' := Aside0.mk H
      clear H
      go_wp2
      go_meet
      case rel => exact ⟨_, ((t159 != t166)), (by first | rfl | (simp; done) | (simp [*]; done)), H', ⟨by first | omega | exact Nat.le_refl _⟩, ⟨by repeat (first | (with_reducible first | exact HB.out | apply below_alloc | apply pw_below_drewN | apply below_drew1) | exact HB.out)⟩⟩
  case rest =>
    clear HC5
    try clear c1
    try clear c2
    try clear p2
    try clear c6
    try clear c10
    try clear c10b0
    try clear c10b1
    try clear c10b2
    obtain ⟨kq, x35_4, rfl, HA, HJ4, HB⟩ := hcut
    cases kq with
    | zero => exact absurd HA.out (by simp [sequiturlaw01_NumBezouts.j0])
    | succ kj4 =>
      have H := HA.out
      clear HA
      simp only [sequiturlaw01_NumBezouts.j0] at H
      by_cases c11 : x35_4 = true
      · subst c11
        have H1 : (some false) = some r := by rw [if_pos rfl] at H; exact H
        clear H
        have H := H1
        clear H1
        obtain rfl := Option.some.inj H
        go_wp2
        go_ret
        exact ⟨by first | rfl | (simp [errW_none, errW_some] <;> rfl) | (simp [*, errW_none, errW_some] <;> rfl), by repeat (first | (with_reducible first | exact HB.out | apply below_alloc | apply pw_below_drewN | apply below_drew1) | exact HB.out)⟩
      · replace c11 := Bool.eq_false_iff.mpr c11
        subst c11
        have H1 : (if t162 = true then ((sequiturref01_Times.f kj4 a0 t160).bind fun bt169 => ((sequiturref01_Times.f kj4 a1 t161).bind fun bt171 => ((sequiturref01_Plus.f bt169.1 bt169.2 bt171.1 bt171.2).bind fun bt173 => ((sequiturref01_Fits.f bt173.1 bt173.2).bind fun bt175 => (if bt175.2 = true then (if bt175.1 = t159 then ((sequiturref01_Far.f t160).bind fun t177 => ((sequiturref01_Far.f a1).bind fun t178 => (if t177 ≤ (mx 1 t178) then ((sequiturref01_Far.f t161).bind fun t179 => ((sequiturref01_Far.f a0).bind fun t180 => (if t179 ≤ (mx 1 t180) then ((sequiturlaw01_goes.f kj4).bind fun t181 => (some t181)) else (some false)))) else (some false)))) else (some false)) else (some false)))))) else (if t160 = 0 then (if t161 = 0 then ((sequiturlaw01_goes.f kj4).bind fun t168 => (some t168)) else (some false)) else (some false))) = some r := by rw [if_neg (show ¬ (false = true) by decide)] at H; exact H
        clear H
        have H := H1
        clear H1
        by_cases c12 : t162 = true
        · subst c12
          have H1 : ((sequiturref01_Times.f kj4 a0 t160).bind fun bt169 => ((sequiturref01_Times.f kj4 a1 t161).bind fun bt171 => ((sequiturref01_Plus.f bt169.1 bt169.2 bt171.1 bt171.2).bind fun bt173 => ((sequiturref01_Fits.f bt173.1 bt173.2).bind fun bt175 => (if bt175.2 = true then (if bt175.1 = t159 then ((sequiturref01_Far.f t160).bind fun t177 => ((sequiturref01_Far.f a1).bind fun t178 => (if t177 ≤ (mx 1 t178) then ((sequiturref01_Far.f t161).bind fun t179 => ((sequiturref01_Far.f a0).bind fun t180 => (if t179 ≤ (mx 1 t180) then ((sequiturlaw01_goes.f kj4).bind fun t181 => (some t181)) else (some false)))) else (some false)))) else (some false)) else (some false)))))) = some r := by rw [if_pos rfl] at H; exact H
          clear H
          have H := H1
          clear H1
          replace H := Option.bind_eq_some_iff.mp H
          obtain ⟨⟨t169, t170⟩, A130, H⟩ := H
          replace H : ((sequiturref01_Times.f kj4 a1 t161).bind fun bt171 => ((sequiturref01_Plus.f t169 t170 bt171.1 bt171.2).bind fun bt173 => ((sequiturref01_Fits.f bt173.1 bt173.2).bind fun bt175 => (if bt175.2 = true then (if bt175.1 = t159 then ((sequiturref01_Far.f t160).bind fun t177 => ((sequiturref01_Far.f a1).bind fun t178 => (if t177 ≤ (mx 1 t178) then ((sequiturref01_Far.f t161).bind fun t179 => ((sequiturref01_Far.f a0).bind fun t180 => (if t179 ≤ (mx 1 t180) then ((sequiturlaw01_goes.f kj4).bind fun t181 => (some t181)) else (some false)))) else (some false)))) else (some false)) else (some false))))) = some r := H
          have A13 := Aside0.mk A130
          clear A130
          replace H := Option.bind_eq_some_iff.mp H
          obtain ⟨⟨t171, t172⟩, A140, H⟩ := H
          replace H : ((sequiturref01_Plus.f t169 t170 t171 t172).bind fun bt173 => ((sequiturref01_Fits.f bt173.1 bt173.2).bind fun bt175 => (if bt175.2 = true then (if bt175.1 = t159 then ((sequiturref01_Far.f t160).bind fun t177 => ((sequiturref01_Far.f a1).bind fun t178 => (if t177 ≤ (mx 1 t178) then ((sequiturref01_Far.f t161).bind fun t179 => ((sequiturref01_Far.f a0).bind fun t180 => (if t179 ≤ (mx 1 t180) then ((sequiturlaw01_goes.f kj4).bind fun t181 => (some t181)) else (some false)))) else (some false)))) else (some false)) else (some false)))) = some r := H
          have A14 := Aside0.mk A140
          clear A140
          replace H := Option.bind_eq_some_iff.mp H
          obtain ⟨⟨t173, t174⟩, A150, H⟩ := H
          replace H : ((sequiturref01_Fits.f t173 t174).bind fun bt175 => (if bt175.2 = true then (if bt175.1 = t159 then ((sequiturref01_Far.f t160).bind fun t177 => ((sequiturref01_Far.f a1).bind fun t178 => (if t177 ≤ (mx 1 t178) then ((sequiturref01_Far.f t161).bind fun t179 => ((sequiturref01_Far.f a0).bind fun t180 => (if t179 ≤ (mx 1 t180) then ((sequiturlaw01_goes.f kj4).bind fun t181 => (some t181)) else (some false)))) else (some false)))) else (some false)) else (some false))) = some r := H
          have A15 := Aside0.mk A150
          clear A150
          replace H := Option.bind_eq_some_iff.mp H
          obtain ⟨⟨t175, t176⟩, A160, H⟩ := H
          replace H : (if t176 = true then (if t175 = t159 then ((sequiturref01_Far.f t160).bind fun t177 => ((sequiturref01_Far.f a1).bind fun t178 => (if t177 ≤ (mx 1 t178) then ((sequiturref01_Far.f t161).bind fun t179 => ((sequiturref01_Far.f a0).bind fun t180 => (if t179 ≤ (mx 1 t180) then ((sequiturlaw01_goes.f kj4).bind fun t181 => (some t181)) else (some false)))) else (some false)))) else (some false)) else (some false)) = some r := H
          have A16 := Aside0.mk A160
          clear A160
          by_cases c17 : t176 = true
          · subst c17
            have H1 : (if t175 = t159 then ((sequiturref01_Far.f t160).bind fun t177 => ((sequiturref01_Far.f a1).bind fun t178 => (if t177 ≤ (mx 1 t178) then ((sequiturref01_Far.f t161).bind fun t179 => ((sequiturref01_Far.f a0).bind fun t180 => (if t179 ≤ (mx 1 t180) then ((sequiturlaw01_goes.f kj4).bind fun t181 => (some t181)) else (some false)))) else (some false)))) else (some false)) = some r := by rw [if_pos rfl] at H; exact H
            clear H
            have H := H1
            clear H1
            by_cases c18 : t175 = t159
            · rw [if_pos c18] at H
              have c18b0 : (t175 == t159) = true := beq_iff_eq.mpr c18
              have c18b1 : (t175 != t159) = false := bne_eq_false_iff_eq.mpr c18
              clear c18
              replace H := Option.bind_eq_some_iff.mp H
              obtain ⟨t177, A190, H⟩ := H
              replace H : ((sequiturref01_Far.f a1).bind fun t178 => (if t177 ≤ (mx 1 t178) then ((sequiturref01_Far.f t161).bind fun t179 => ((sequiturref01_Far.f a0).bind fun t180 => (if t179 ≤ (mx 1 t180) then ((sequiturlaw01_goes.f kj4).bind fun t181 => (some t181)) else (some false)))) else (some false))) = some r := H
              have A19 := Aside0.mk A190
              clear A190
              replace H := Option.bind_eq_some_iff.mp H
              obtain ⟨t178, A200, H⟩ := H
              replace H : (if t177 ≤ (mx 1 t178) then ((sequiturref01_Far.f t161).bind fun t179 => ((sequiturref01_Far.f a0).bind fun t180 => (if t179 ≤ (mx 1 t180) then ((sequiturlaw01_goes.f kj4).bind fun t181 => (some t181)) else (some false)))) else (some false)) = some r := H
              have A20 := Aside0.mk A200
              clear A200
              obtain ⟨ji21, hji21⟩ : ∃ j_ : Int, (mx 1 t178) = j_ := ⟨_, rfl⟩
              replace H : (if t177 ≤ (ji21) then ((sequiturref01_Far.f t161).bind fun t179 => ((sequiturref01_Far.f a0).bind fun t180 => (if t179 ≤ (mx 1 t180) then ((sequiturlaw01_goes.f kj4).bind fun t181 => (some t181)) else (some false)))) else (some false)) = some r := by first | (rw [hji21] at H; exact H) | (simp only [hji21] at H ⊢; exact H)
              (try rw [hji21] at A13)
              (try rw [hji21] at A14)
              (try rw [hji21] at A15)
              (try rw [hji21] at A16)
              (try rw [hji21] at A19)
              (try rw [hji21] at A20)
              (try (have hji21l : 1 ≤ ji21 := by (rw [← hji21]; unfold mx; (repeat' split) <;> omega)))
              (try (have hji21m : 0 ≤ ji21 := by omega))
              have hji21_ : (if 1 < t178 then t178 else 1) = ji21 := hji21
              by_cases c22 : t177 ≤ (ji21)
              · rw [if_pos c22] at H
                have c22b0 : decide (t177 ≤ (ji21)) = true := decide_eq_true c22
                clear c22
                replace H := Option.bind_eq_some_iff.mp H
                obtain ⟨t179, A230, H⟩ := H
                replace H : ((sequiturref01_Far.f a0).bind fun t180 => (if t179 ≤ (mx 1 t180) then ((sequiturlaw01_goes.f kj4).bind fun t181 => (some t181)) else (some false))) = some r := H
                have A23 := Aside0.mk A230
                clear A230
                replace H := Option.bind_eq_some_iff.mp H
                obtain ⟨t180, A240, H⟩ := H
                replace H : (if t179 ≤ (mx 1 t180) then ((sequiturlaw01_goes.f kj4).bind fun t181 => (some t181)) else (some false)) = some r := H
                have A24 := Aside0.mk A240
                clear A240
                obtain ⟨ji25, hji25⟩ : ∃ j_ : Int, (mx 1 t180) = j_ := ⟨_, rfl⟩
                replace H : (if t179 ≤ (ji25) then ((sequiturlaw01_goes.f kj4).bind fun t181 => (some t181)) else (some false)) = some r := by first | (rw [hji25] at H; exact H) | (simp only [hji25] at H ⊢; exact H)
                (try rw [hji25] at A13)
                (try rw [hji25] at A14)
                (try rw [hji25] at A15)
                (try rw [hji25] at A16)
                (try rw [hji25] at A19)
                (try rw [hji25] at A20)
                (try rw [hji25] at A23)
                (try rw [hji25] at A24)
                (try (have hji25l : 1 ≤ ji25 := by (rw [← hji25]; unfold mx; (repeat' split) <;> omega)))
                (try (have hji25m : 0 ≤ ji25 := by omega))
                have hji25_ : (if 1 < t180 then t180 else 1) = ji25 := hji25
                by_cases c26 : t179 ≤ (ji25)
                · rw [if_pos c26] at H
                  have c26b0 : decide (t179 ≤ (ji25)) = true := decide_eq_true c26
                  clear c26
                  replace H := Option.bind_eq_some_iff.mp H
                  obtain ⟨t181, A270, H⟩ := H
                  replace H : (some t181) = some r := H
                  have A27 := Aside0.mk A270
                  clear A270
                  obtain rfl := Option.some.inj H
                  go_wp2_with (first | ((with_reducible refine gate_callee (f := 15) rfl ?_); refine goesL_ (some 50) rfl rfl Try.func15 (by kernel_rfl) rfl #[.int .i64 a0, .int .i64 t160] rfl (by (try simp only [List.map_toArray, List.map_cons, List.map_nil]); first | done | rfl | (simp only [List.length_drop, List.length_take]; rfl)) ?_; (with_reducible refine (sequiturref01_Times.calls kj4 a0 t160 t169 t170 _ A13.out).mono ?_); rintro e w28 ⟨rfl, hb⟩; refine ⟨_, rfl, ?_⟩; have n0_ := Aside0.mk (below_step (by repeat (first | (with_reducible first | exact HB.out | apply below_alloc | apply pw_below_drewN | apply below_drew1) | exact HB.out)) hb); clear HB; have HB := n0_; clear n0_; (try clear hb); (try clear hb2); (try clear hk); (try clear hi)) | ((with_reducible refine gate_callee (f := 15) rfl ?_); refine goesL_ (some 53) rfl rfl Try.func15 (by kernel_rfl) rfl #[.int .i64 a1, .int .i64 t161] rfl (by (try simp only [List.map_toArray, List.map_cons, List.map_nil]); first | done | rfl | (simp only [List.length_drop, List.length_take]; rfl)) ?_; (with_reducible refine (sequiturref01_Times.calls kj4 a1 t161 t171 t172 _ A14.out).mono ?_); rintro e w29 ⟨rfl, hb⟩; refine ⟨_, rfl, ?_⟩; have n0_ := Aside0.mk (below_step (by repeat (first | (with_reducible first | exact HB.out | apply below_alloc | apply pw_below_drewN | apply below_drew1) | exact HB.out)) hb); clear HB; have HB := n0_; clear n0_; (try clear hb); (try clear hb2); (try clear hk); (try clear hi)) | ((with_reducible refine gate_callee (f := 14) rfl ?_); refine goesL_ (some 54) rfl rfl Try.func14 (by kernel_rfl) rfl #[.agg #[.int .i64 t169, .int .u64 t170], .agg #[.int .i64 t171, .int .u64 t172]] rfl (by (try simp only [List.map_toArray, List.map_cons, List.map_nil]); first | done | rfl | (simp only [List.length_drop, List.length_take]; rfl)) ?_; (with_reducible refine (sequiturref01_Plus.calls t169 t170 t171 t172 t173 t174 _ A15.out).mono ?_); rintro e w30 ⟨rfl, hb⟩; refine ⟨_, rfl, ?_⟩; have n0_ := Aside0.mk (below_step (by repeat (first | (with_reducible first | exact HB.out | apply below_alloc | apply pw_below_drewN | apply below_drew1) | exact HB.out)) hb); clear HB; have HB := n0_; clear n0_; (try clear hb); (try clear hb2); (try clear hk); (try clear hi)) | ((with_reducible refine gate_callee (f := 13) rfl ?_); refine goesL_ (some 55) rfl rfl Try.func13 (by kernel_rfl) rfl #[.agg #[.int .i64 t173, .int .u64 t174]] rfl (by (try simp only [List.map_toArray, List.map_cons, List.map_nil]); first | done | rfl | (simp only [List.length_drop, List.length_take]; rfl)) ?_; (with_reducible refine (sequiturref01_Fits.calls t173 t174 t175 true _ A16.out).mono ?_); rintro e w31 ⟨rfl, hb⟩; refine ⟨_, rfl, ?_⟩; have n0_ := Aside0.mk (below_step (by repeat (first | (with_reducible first | exact HB.out | apply below_alloc | apply pw_below_drewN | apply below_drew1) | exact HB.out)) hb); clear HB; have HB := n0_; clear n0_; (try clear hb); (try clear hb2); (try clear hk); (try clear hi)) | (go_at_call 17; (with_reducible refine (sequiturref01_Far.calls t160 t177 _ A19.out).mono ?_); rintro e w' ⟨rfl, ⟨nd, rfl⟩⟩) | (go_at_call 17; (with_reducible refine (sequiturref01_Far.calls a1 t178 _ A20.out).mono ?_); rintro e w' ⟨rfl, ⟨nd, rfl⟩⟩) | (go_at_call 17; (with_reducible refine (sequiturref01_Far.calls t161 t179 _ A23.out).mono ?_); rintro e w' ⟨rfl, ⟨nd, rfl⟩⟩) | (go_at_call 17; (with_reducible refine (sequiturref01_Far.calls a0 t180 _ A24.out).mono ?_); rintro e w' ⟨rfl, ⟨nd, rfl⟩⟩) | (go_at_call 12; (with_reducible refine (sequiturlaw01_goes.calls kj4  t181 _ A27.out).mono ?_); rintro e w32 ⟨rfl, hb⟩; have n0_ := Aside0.mk (below_step (by repeat (first | (with_reducible first | exact HB.out | apply below_alloc | apply pw_below_drewN | apply below_drew1) | exact HB.out)) hb); clear HB; have HB := n0_; clear n0_; (try clear hb); (try clear hb2); (try clear hk); (try clear hi)))
                  go_ret
                  exact ⟨by first | rfl | (simp [errW_none, errW_some] <;> rfl) | (simp only [← hji21, ← hji25]; first | rfl | (simp [errW_none, errW_some] <;> rfl)) | (simp [*, errW_none, errW_some] <;> rfl), by repeat (first | (with_reducible first | exact HB.out | apply below_alloc | apply pw_below_drewN | apply below_drew1) | exact HB.out)⟩
                · rw [if_neg c26] at H
                  have c26b0 : decide (t179 ≤ (ji25)) = false := decide_eq_false c26
                  clear c26
                  obtain rfl := Option.some.inj H
                  go_wp2_with (first | ((with_reducible refine gate_callee (f := 15) rfl ?_); refine goesL_ (some 50) rfl rfl Try.func15 (by kernel_rfl) rfl #[.int .i64 a0, .int .i64 t160] rfl (by (try simp only [List.map_toArray, List.map_cons, List.map_nil]); first | done | rfl | (simp only [List.length_drop, List.length_take]; rfl)) ?_; (with_reducible refine (sequiturref01_Times.calls kj4 a0 t160 t169 t170 _ A13.out).mono ?_); rintro e w33 ⟨rfl, hb⟩; refine ⟨_, rfl, ?_⟩; have n0_ := Aside0.mk (below_step (by repeat (first | (with_reducible first | exact HB.out | apply below_alloc | apply pw_below_drewN | apply below_drew1) | exact HB.out)) hb); clear HB; have HB := n0_; clear n0_; (try clear hb); (try clear hb2); (try clear hk); (try clear hi)) | ((with_reducible refine gate_callee (f := 15) rfl ?_); refine goesL_ (some 53) rfl rfl Try.func15 (by kernel_rfl) rfl #[.int .i64 a1, .int .i64 t161] rfl (by (try simp only [List.map_toArray, List.map_cons, List.map_nil]); first | done | rfl | (simp only [List.length_drop, List.length_take]; rfl)) ?_; (with_reducible refine (sequiturref01_Times.calls kj4 a1 t161 t171 t172 _ A14.out).mono ?_); rintro e w34 ⟨rfl, hb⟩; refine ⟨_, rfl, ?_⟩; have n0_ := Aside0.mk (below_step (by repeat (first | (with_reducible first | exact HB.out | apply below_alloc | apply pw_below_drewN | apply below_drew1) | exact HB.out)) hb); clear HB; have HB := n0_; clear n0_; (try clear hb); (try clear hb2); (try clear hk); (try clear hi)) | ((with_reducible refine gate_callee (f := 14) rfl ?_); refine goesL_ (some 54) rfl rfl Try.func14 (by kernel_rfl) rfl #[.agg #[.int .i64 t169, .int .u64 t170], .agg #[.int .i64 t171, .int .u64 t172]] rfl (by (try simp only [List.map_toArray, List.map_cons, List.map_nil]); first | done | rfl | (simp only [List.length_drop, List.length_take]; rfl)) ?_; (with_reducible refine (sequiturref01_Plus.calls t169 t170 t171 t172 t173 t174 _ A15.out).mono ?_); rintro e w35 ⟨rfl, hb⟩; refine ⟨_, rfl, ?_⟩; have n0_ := Aside0.mk (below_step (by repeat (first | (with_reducible first | exact HB.out | apply below_alloc | apply pw_below_drewN | apply below_drew1) | exact HB.out)) hb); clear HB; have HB := n0_; clear n0_; (try clear hb); (try clear hb2); (try clear hk); (try clear hi)) | ((with_reducible refine gate_callee (f := 13) rfl ?_); refine goesL_ (some 55) rfl rfl Try.func13 (by kernel_rfl) rfl #[.agg #[.int .i64 t173, .int .u64 t174]] rfl (by (try simp only [List.map_toArray, List.map_cons, List.map_nil]); first | done | rfl | (simp only [List.length_drop, List.length_take]; rfl)) ?_; (with_reducible refine (sequiturref01_Fits.calls t173 t174 t175 true _ A16.out).mono ?_); rintro e w36 ⟨rfl, hb⟩; refine ⟨_, rfl, ?_⟩; have n0_ := Aside0.mk (below_step (by repeat (first | (with_reducible first | exact HB.out | apply below_alloc | apply pw_below_drewN | apply below_drew1) | exact HB.out)) hb); clear HB; have HB := n0_; clear n0_; (try clear hb); (try clear hb2); (try clear hk); (try clear hi)) | (go_at_call 17; (with_reducible refine (sequiturref01_Far.calls t160 t177 _ A19.out).mono ?_); rintro e w' ⟨rfl, ⟨nd, rfl⟩⟩) | (go_at_call 17; (with_reducible refine (sequiturref01_Far.calls a1 t178 _ A20.out).mono ?_); rintro e w' ⟨rfl, ⟨nd, rfl⟩⟩) | (go_at_call 17; (with_reducible refine (sequiturref01_Far.calls t161 t179 _ A23.out).mono ?_); rintro e w' ⟨rfl, ⟨nd, rfl⟩⟩) | (go_at_call 17; (with_reducible refine (sequiturref01_Far.calls a0 t180 _ A24.out).mono ?_); rintro e w' ⟨rfl, ⟨nd, rfl⟩⟩))
                  go_ret
                  exact ⟨by first | rfl | (simp [errW_none, errW_some] <;> rfl) | (simp only [← hji21, ← hji25]; first | rfl | (simp [errW_none, errW_some] <;> rfl)) | (simp [*, errW_none, errW_some] <;> rfl), by repeat (first | (with_reducible first | exact HB.out | apply below_alloc | apply pw_below_drewN | apply below_drew1) | exact HB.out)⟩
              · rw [if_neg c22] at H
                have c22b0 : decide (t177 ≤ (ji21)) = false := decide_eq_false c22
                clear c22
                obtain rfl := Option.some.inj H
                go_wp2_with (first | ((with_reducible refine gate_callee (f := 15) rfl ?_); refine goesL_ (some 50) rfl rfl Try.func15 (by kernel_rfl) rfl #[.int .i64 a0, .int .i64 t160] rfl (by (try simp only [List.map_toArray, List.map_cons, List.map_nil]); first | done | rfl | (simp only [List.length_drop, List.length_take]; rfl)) ?_; (with_reducible refine (sequiturref01_Times.calls kj4 a0 t160 t169 t170 _ A13.out).mono ?_); rintro e w37 ⟨rfl, hb⟩; refine ⟨_, rfl, ?_⟩; have n0_ := Aside0.mk (below_step (by repeat (first | (with_reducible first | exact HB.out | apply below_alloc | apply pw_below_drewN | apply below_drew1) | exact HB.out)) hb); clear HB; have HB := n0_; clear n0_; (try clear hb); (try clear hb2); (try clear hk); (try clear hi)) | ((with_reducible refine gate_callee (f := 15) rfl ?_); refine goesL_ (some 53) rfl rfl Try.func15 (by kernel_rfl) rfl #[.int .i64 a1, .int .i64 t161] rfl (by (try simp only [List.map_toArray, List.map_cons, List.map_nil]); first | done | rfl | (simp only [List.length_drop, List.length_take]; rfl)) ?_; (with_reducible refine (sequiturref01_Times.calls kj4 a1 t161 t171 t172 _ A14.out).mono ?_); rintro e w38 ⟨rfl, hb⟩; refine ⟨_, rfl, ?_⟩; have n0_ := Aside0.mk (below_step (by repeat (first | (with_reducible first | exact HB.out | apply below_alloc | apply pw_below_drewN | apply below_drew1) | exact HB.out)) hb); clear HB; have HB := n0_; clear n0_; (try clear hb); (try clear hb2); (try clear hk); (try clear hi)) | ((with_reducible refine gate_callee (f := 14) rfl ?_); refine goesL_ (some 54) rfl rfl Try.func14 (by kernel_rfl) rfl #[.agg #[.int .i64 t169, .int .u64 t170], .agg #[.int .i64 t171, .int .u64 t172]] rfl (by (try simp only [List.map_toArray, List.map_cons, List.map_nil]); first | done | rfl | (simp only [List.length_drop, List.length_take]; rfl)) ?_; (with_reducible refine (sequiturref01_Plus.calls t169 t170 t171 t172 t173 t174 _ A15.out).mono ?_); rintro e w39 ⟨rfl, hb⟩; refine ⟨_, rfl, ?_⟩; have n0_ := Aside0.mk (below_step (by repeat (first | (with_reducible first | exact HB.out | apply below_alloc | apply pw_below_drewN | apply below_drew1) | exact HB.out)) hb); clear HB; have HB := n0_; clear n0_; (try clear hb); (try clear hb2); (try clear hk); (try clear hi)) | ((with_reducible refine gate_callee (f := 13) rfl ?_); refine goesL_ (some 55) rfl rfl Try.func13 (by kernel_rfl) rfl #[.agg #[.int .i64 t173, .int .u64 t174]] rfl (by (try simp only [List.map_toArray, List.map_cons, List.map_nil]); first | done | rfl | (simp only [List.length_drop, List.length_take]; rfl)) ?_; (with_reducible refine (sequiturref01_Fits.calls t173 t174 t175 true _ A16.out).mono ?_); rintro e w40 ⟨rfl, hb⟩; refine ⟨_, rfl, ?_⟩; have n0_ := Aside0.mk (below_step (by repeat (first | (with_reducible first | exact HB.out | apply below_alloc | apply pw_below_drewN | apply below_drew1) | exact HB.out)) hb); clear HB; have HB := n0_; clear n0_; (try clear hb); (try clear hb2); (try clear hk); (try clear hi)) | (go_at_call 17; (with_reducible refine (sequiturref01_Far.calls t160 t177 _ A19.out).mono ?_); rintro e w' ⟨rfl, ⟨nd, rfl⟩⟩) | (go_at_call 17; (with_reducible refine (sequiturref01_Far.calls a1 t178 _ A20.out).mono ?_); rintro e w' ⟨rfl, ⟨nd, rfl⟩⟩))
                go_ret
                exact ⟨by first | rfl | (simp [errW_none, errW_some] <;> rfl) | (simp only [← hji21]; first | rfl | (simp [errW_none, errW_some] <;> rfl)) | (simp [*, errW_none, errW_some] <;> rfl), by repeat (first | (with_reducible first | exact HB.out | apply below_alloc | apply pw_below_drewN | apply below_drew1) | exact HB.out)⟩
            · rw [if_neg c18] at H
              have c18b0 : (t175 == t159) = false := beq_eq_false_iff_ne.mpr c18
              have c18b1 : (t175 != t159) = true := bne_iff_ne.mpr c18
              obtain rfl := Option.some.inj H
              go_wp2_with (first | ((with_reducible refine gate_callee (f := 15) rfl ?_); refine goesL_ (some 50) rfl rfl Try.func15 (by kernel_rfl) rfl #[.int .i64 a0, .int .i64 t160] rfl (by (try simp only [List.map_toArray, List.map_cons, List.map_nil]); first | done | rfl | (simp only [List.length_drop, List.length_take]; rfl)) ?_; (with_reducible refine (sequiturref01_Times.calls kj4 a0 t160 t169 t170 _ A13.out).mono ?_); rintro e w41 ⟨rfl, hb⟩; refine ⟨_, rfl, ?_⟩; have n0_ := Aside0.mk (below_step (by repeat (first | (with_reducible first | exact HB.out | apply below_alloc | apply pw_below_drewN | apply below_drew1) | exact HB.out)) hb); clear HB; have HB := n0_; clear n0_; (try clear hb); (try clear hb2); (try clear hk); (try clear hi)) | ((with_reducible refine gate_callee (f := 15) rfl ?_); refine goesL_ (some 53) rfl rfl Try.func15 (by kernel_rfl) rfl #[.int .i64 a1, .int .i64 t161] rfl (by (try simp only [List.map_toArray, List.map_cons, List.map_nil]); first | done | rfl | (simp only [List.length_drop, List.length_take]; rfl)) ?_; (with_reducible refine (sequiturref01_Times.calls kj4 a1 t161 t171 t172 _ A14.out).mono ?_); rintro e w42 ⟨rfl, hb⟩; refine ⟨_, rfl, ?_⟩; have n0_ := Aside0.mk (below_step (by repeat (first | (with_reducible first | exact HB.out | apply below_alloc | apply pw_below_drewN | apply below_drew1) | exact HB.out)) hb); clear HB; have HB := n0_; clear n0_; (try clear hb); (try clear hb2); (try clear hk); (try clear hi)) | ((with_reducible refine gate_callee (f := 14) rfl ?_); refine goesL_ (some 54) rfl rfl Try.func14 (by kernel_rfl) rfl #[.agg #[.int .i64 t169, .int .u64 t170], .agg #[.int .i64 t171, .int .u64 t172]] rfl (by (try simp only [List.map_toArray, List.map_cons, List.map_nil]); first | done | rfl | (simp only [List.length_drop, List.length_take]; rfl)) ?_; (with_reducible refine (sequiturref01_Plus.calls t169 t170 t171 t172 t173 t174 _ A15.out).mono ?_); rintro e w43 ⟨rfl, hb⟩; refine ⟨_, rfl, ?_⟩; have n0_ := Aside0.mk (below_step (by repeat (first | (with_reducible first | exact HB.out | apply below_alloc | apply pw_below_drewN | apply below_drew1) | exact HB.out)) hb); clear HB; have HB := n0_; clear n0_; (try clear hb); (try clear hb2); (try clear hk); (try clear hi)) | ((with_reducible refine gate_callee (f := 13) rfl ?_); refine goesL_ (some 55) rfl rfl Try.func13 (by kernel_rfl) rfl #[.agg #[.int .i64 t173, .int .u64 t174]] rfl (by (try simp only [List.map_toArray, List.map_cons, List.map_nil]); first | done | rfl | (simp only [List.length_drop, List.length_take]; rfl)) ?_; (with_reducible refine (sequiturref01_Fits.calls t173 t174 t175 true _ A16.out).mono ?_); rintro e w44 ⟨rfl, hb⟩; refine ⟨_, rfl, ?_⟩; have n0_ := Aside0.mk (below_step (by repeat (first | (with_reducible first | exact HB.out | apply below_alloc | apply pw_below_drewN | apply below_drew1) | exact HB.out)) hb); clear HB; have HB := n0_; clear n0_; (try clear hb); (try clear hb2); (try clear hk); (try clear hi)))
              go_ret
              exact ⟨by first | rfl | (simp [errW_none, errW_some] <;> rfl) | (simp [*, errW_none, errW_some] <;> rfl), by repeat (first | (with_reducible first | exact HB.out | apply below_alloc | apply pw_below_drewN | apply below_drew1) | exact HB.out)⟩
          · replace c17 := Bool.eq_false_iff.mpr c17
            subst c17
            have H1 : (some false) = some r := by rw [if_neg (show ¬ (false = true) by decide)] at H; exact H
            clear H
            have H := H1
            clear H1
            obtain rfl := Option.some.inj H
            go_wp2_with (first | ((with_reducible refine gate_callee (f := 15) rfl ?_); refine goesL_ (some 50) rfl rfl Try.func15 (by kernel_rfl) rfl #[.int .i64 a0, .int .i64 t160] rfl (by (try simp only [List.map_toArray, List.map_cons, List.map_nil]); first | done | rfl | (simp only [List.length_drop, List.length_take]; rfl)) ?_; (with_reducible refine (sequiturref01_Times.calls kj4 a0 t160 t169 t170 _ A13.out).mono ?_); rintro e w45 ⟨rfl, hb⟩; refine ⟨_, rfl, ?_⟩; have n0_ := Aside0.mk (below_step (by repeat (first | (with_reducible first | exact HB.out | apply below_alloc | apply pw_below_drewN | apply below_drew1) | exact HB.out)) hb); clear HB; have HB := n0_; clear n0_; (try clear hb); (try clear hb2); (try clear hk); (try clear hi)) | ((with_reducible refine gate_callee (f := 15) rfl ?_); refine goesL_ (some 53) rfl rfl Try.func15 (by kernel_rfl) rfl #[.int .i64 a1, .int .i64 t161] rfl (by (try simp only [List.map_toArray, List.map_cons, List.map_nil]); first | done | rfl | (simp only [List.length_drop, List.length_take]; rfl)) ?_; (with_reducible refine (sequiturref01_Times.calls kj4 a1 t161 t171 t172 _ A14.out).mono ?_); rintro e w46 ⟨rfl, hb⟩; refine ⟨_, rfl, ?_⟩; have n0_ := Aside0.mk (below_step (by repeat (first | (with_reducible first | exact HB.out | apply below_alloc | apply pw_below_drewN | apply below_drew1) | exact HB.out)) hb); clear HB; have HB := n0_; clear n0_; (try clear hb); (try clear hb2); (try clear hk); (try clear hi)) | ((with_reducible refine gate_callee (f := 14) rfl ?_); refine goesL_ (some 54) rfl rfl Try.func14 (by kernel_rfl) rfl #[.agg #[.int .i64 t169, .int .u64 t170], .agg #[.int .i64 t171, .int .u64 t172]] rfl (by (try simp only [List.map_toArray, List.map_cons, List.map_nil]); first | done | rfl | (simp only [List.length_drop, List.length_take]; rfl)) ?_; (with_reducible refine (sequiturref01_Plus.calls t169 t170 t171 t172 t173 t174 _ A15.out).mono ?_); rintro e w47 ⟨rfl, hb⟩; refine ⟨_, rfl, ?_⟩; have n0_ := Aside0.mk (below_step (by repeat (first | (with_reducible first | exact HB.out | apply below_alloc | apply pw_below_drewN | apply below_drew1) | exact HB.out)) hb); clear HB; have HB := n0_; clear n0_; (try clear hb); (try clear hb2); (try clear hk); (try clear hi)) | ((with_reducible refine gate_callee (f := 13) rfl ?_); refine goesL_ (some 55) rfl rfl Try.func13 (by kernel_rfl) rfl #[.agg #[.int .i64 t173, .int .u64 t174]] rfl (by (try simp only [List.map_toArray, List.map_cons, List.map_nil]); first | done | rfl | (simp only [List.length_drop, List.length_take]; rfl)) ?_; (with_reducible refine (sequiturref01_Fits.calls t173 t174 t175 false _ A16.out).mono ?_); rintro e w48 ⟨rfl, hb⟩; refine ⟨_, rfl, ?_⟩; have n0_ := Aside0.mk (below_step (by repeat (first | (with_reducible first | exact HB.out | apply below_alloc | apply pw_below_drewN | apply below_drew1) | exact HB.out)) hb); clear HB; have HB := n0_; clear n0_; (try clear hb); (try clear hb2); (try clear hk); (try clear hi)))
            go_ret
            exact ⟨by first | rfl | (simp [errW_none, errW_some] <;> rfl) | (simp [*, errW_none, errW_some] <;> rfl), by repeat (first | (with_reducible first | exact HB.out | apply below_alloc | apply pw_below_drewN | apply below_drew1) | exact HB.out)⟩
        · replace c12 := Bool.eq_false_iff.mpr c12
          subst c12
          have H1 : (if t160 = 0 then (if t161 = 0 then ((sequiturlaw01_goes.f kj4).bind fun t168 => (some t168)) else (some false)) else (some false)) = some r := by rw [if_neg (show ¬ (false = true) by decide)] at H; exact H
          clear H
          have H := H1
          clear H1
          by_cases c49 : t160 = 0
          · rw [if_pos c49] at H
            have c49b0 : (t160 == 0) = true := beq_iff_eq.mpr c49
            have c49b1 : (t160 != 0) = false := bne_eq_false_iff_eq.mpr c49
            clear c49
            by_cases c50 : t161 = 0
            · rw [if_pos c50] at H
              have c50b0 : (t161 == 0) = true := beq_iff_eq.mpr c50
              have c50b1 : (t161 != 0) = false := bne_eq_false_iff_eq.mpr c50
              clear c50
              replace H := Option.bind_eq_some_iff.mp H
              obtain ⟨t168, A510, H⟩ := H
              replace H : (some t168) = some r := H
              have A51 := Aside0.mk A510
              clear A510
              obtain rfl := Option.some.inj H
              go_wp2_with (first | (go_at_call 12; (with_reducible refine (sequiturlaw01_goes.calls kj4  t168 _ A51.out).mono ?_); rintro e w52 ⟨rfl, hb⟩; have n0_ := Aside0.mk (below_step (by repeat (first | (with_reducible first | exact HB.out | apply below_alloc | apply pw_below_drewN | apply below_drew1) | exact HB.out)) hb); clear HB; have HB := n0_; clear n0_; (try clear hb); (try clear hb2); (try clear hk); (try clear hi)))
              go_ret
              exact ⟨by first | rfl | (simp [errW_none, errW_some] <;> rfl) | (simp [*, errW_none, errW_some] <;> rfl), by repeat (first | (with_reducible first | exact HB.out | apply below_alloc | apply pw_below_drewN | apply below_drew1) | exact HB.out)⟩
            · rw [if_neg c50] at H
              have c50b0 : (t161 == 0) = false := beq_eq_false_iff_ne.mpr c50
              have c50b1 : (t161 != 0) = true := bne_iff_ne.mpr c50
              obtain rfl := Option.some.inj H
              go_wp2
              go_ret
              exact ⟨by first | rfl | (simp [errW_none, errW_some] <;> rfl) | (simp [*, errW_none, errW_some] <;> rfl), by repeat (first | (with_reducible first | exact HB.out | apply below_alloc | apply pw_below_drewN | apply below_drew1) | exact HB.out)⟩
          · rw [if_neg c49] at H
            have c49b0 : (t160 == 0) = false := beq_eq_false_iff_ne.mpr c49
            have c49b1 : (t160 != 0) = true := bne_iff_ne.mpr c49
            obtain rfl := Option.some.inj H
            go_wp2
            go_ret
            exact ⟨by first | rfl | (simp [errW_none, errW_some] <;> rfl) | (simp [*, errW_none, errW_some] <;> rfl), by repeat (first | (with_reducible first | exact HB.out | apply below_alloc | apply pw_below_drewN | apply below_drew1) | exact HB.out)⟩

/-- THE ONE PURE STATEMENT of sequiturlaw01_NumBezouts: yours. -/
def sequiturlaw01_NumBezouts.Pure : Prop := ∀ (a0 : Int) (a1 : Int), (Lit.int .i64 a0).wf = true → (Lit.int .i64 a1).wf = true → ∃ k, sequiturlaw01_NumBezouts.f k a0 a1 = some true
theorem sequiturlaw01_NumBezouts.walk (P : sequiturlaw01_NumBezouts.Pure) (a0 : Int) (a1 : Int) (w : World) (w0 : (Lit.int .i64 a0).wf = true) (w1 : (Lit.int .i64 a1).wf = true) :
    Calls Try.prog 6 #[.int .i64 a0, .int .i64 a1] w fun e w' => e = .returned (.bool true) ∧ Below w.heap.size w w' := by
  obtain ⟨k, h⟩ := P a0 a1 w0 w1
  refine (sequiturlaw01_NumBezouts.calls k a0 a1 true w h).mono ?_
  rintro e w' ⟨rfl, hd⟩
  exact ⟨rfl, hd⟩

end Go.Proofs.Ytdglmjhhlnhelaa.PNumBezouts
