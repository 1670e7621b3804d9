/- What the call of each function that the law reaches comes to, and the law out of its plain form; no condition but what stands in each theorem. -/
import Derived.Test.YtjinmlpekecmbaaPEuclidNonex0
import Derived.Test.YtjinmlpekecmbaaPEuclidNonex1
import Derived.Test.YtjinmlpekecmbaaPEuclidNonex4
import Derived.Test.YtjinmlpekecmbaaPEuclidNonex6
namespace Go.Proofs.Ytjinmlpekecmbaa.PEuclidNone
open Go.RowKit Go.Proofs.YtjinmlpekecmbaaW.PrintWords Go.Proofs.YtjinmlpekecmbaaW.PrintLast Go.Proofs.YtjinmlpekecmbaaW.PrintMore
open Go.Proofs.YtjinmlpekecmbaaW.PrintWords renaming below_alloc → yA, pw_below_drewN → yN, below_drew1 → yD, gate_callee → zC
open Go.Proofs.YtjinmlpekecmbaaW.PrintWords.Aside0 renaming mk → zK
open Bool renaming true → T_, false → F_
open List renaming setIfInBounds_toArray → zt, set_cons_zero → zz, set_cons_succ → zs
attribute [local go_sem] max2_int min2_int max_two min_two max_three min_three max_four min_four
set_option linter.unusedVariables false
set_option maxHeartbeats 8000000
set_option maxRecDepth 100000
set_option linter.unusedSimpArgs false

/-! ### num_Lcm: function 72 -/
def num_Lcm.j0 : Nat → Int → Int → Bool → Option (Int × Bool)
 | 0, _, _, _ => none
 | k + 1, x0, x1, x13 => if x13 = true then (some (0, true)) else ((num_size.f x0).bind fun t199 => ((num_size.f x0).bind fun t200 => ((num_size.f x1).bind fun t201 => ((num_common.f k t200 t201).bind fun t202 => (if t202 = 0 then (none) else ((num_size.f x1).bind fun t203 => ((bits_Mul64.f (IntKind.u64.wrap (Int.tdiv t199 t202)) t203).bind fun bt204 => (if bt204.1 > 0 then (some (0, false)) else ((num_signed.f bt204.2 false).bind fun bt206 => (some (bt206.1, bt206.2)))))))))))
def num_Lcm.f (k : Nat) (a0 : Int) (a1 : Int) : Option (Int × Bool) := if a0 = 0 then (num_Lcm.j0 k a0 a1 true) else (num_Lcm.j0 k a0 a1 (a1 == 0))
theorem num_Lcm.mono_l : ∀ k, (∀ y0 y1 y2, LeO (num_Lcm.j0 k y0 y1 y2) (num_Lcm.j0 (k + 1) y0 y1 y2))
 | 0 => fun _ _ _ r h => by simp [num_Lcm.j0] at h
 | k + 1 => by
  have ih0 := num_Lcm.mono_l k
  ·intro y0 y1 y2
   unfold num_Lcm.j0
   repeat' first | (with_reducible first | exact ih0 .. | exact num_common.mono .. | exact LeO.refl _ | exact LeO.none _ | refine LeO.ite ?_ ?_ | refine LeO.bind ?_ (fun _ => ?_)) | exact ih0 .. | exact num_common.mono .. | exact LeO.none _ | refine LeO.ite ?_ ?_ | refine LeO.bind ?_ (fun _ => ?_)
theorem num_Lcm.mono : ∀ a0 a1 k, LeO (num_Lcm.f k a0 a1) (num_Lcm.f (k + 1) a0 a1) := by
 intro a0 a1 k
 have ih0 := num_Lcm.mono_l k
 unfold num_Lcm.f
 repeat' first | (with_reducible first | exact ih0 .. | exact num_common.mono .. | exact LeO.refl _ | exact LeO.none _ | refine LeO.ite ?_ ?_ | refine LeO.bind ?_ (fun _ => ?_)) | exact ih0 .. | exact num_common.mono .. | exact LeO.none _ | refine LeO.ite ?_ ?_ | refine LeO.bind ?_ (fun _ => ?_)
def num_Lcm.T3 : Bool × List (List Nat × List Nat) := (true, [([], []), ([0], [0]), ([], []), ([2, 1], [2]), ([], []), ([4, 3], [4]), ([3, 5, 5], [3, 5]), ([1, 6], [1, 6]), ([], []), ([8, 6], [8]), ([7, 9, 9], [7, 9]), ([10], [10]), ([11], [11]), ([11], [11]), ([12, 10, 0, 1, 2, 3, 4, 5, 6, 7, 8, 9, 10, 11, 12], [12]), ([13, 14, 0, 1, 2, 3, 4, 5, 6, 7, 8, 9, 10, 11, 12, 13, 14], [13])])
def num_Lcm.B3 : List Nat := [0, 1, 0, 7, 0, 31, 63, 127, 0, 383, 1023, 2047, 4095, 4095, 8191, 32767]
theorem num_Lcm.tab3 : rtab .any (opsOf Try.f72 3) = num_Lcm.T3 := by kernel_rfl
theorem num_Lcm.bits3 : waitsOk num_Lcm.T3.2 num_Lcm.B3 = true := by kernel_rfl
theorem num_Lcm.calls (k : Nat) (a0 : Int) (a1 : Int) (r1 : Int) (r2 : Bool) (w : World) (h : num_Lcm.f k a0 a1 = some (r1, r2)) :
  Calls Try.prog 72 #[.int .i64 a0, .int .i64 a1] w fun e w' => e = .returned (.tuple #[.int .i64 r1, .bool r2]) ∧ Below w.heap.size w w' := by
 have HB := zK (Below.refl w.heap.size w)
 have H : (if a0 = 0 then (num_Lcm.j0 k a0 a1 true) else (num_Lcm.j0 k a0 a1 (a1 == 0))) = some (r1, r2) := h
 clear h
 have HC3 := zK H; clear H
 go_enter Try.func72, Try.ntmps72
 go_upto_region 1 with (fail)
 go_cut [13] (fun v13 wc => ∃ (kq : Nat) (x13_2 : Bool), v13 = .bool x13_2 ∧ Aside0 (num_Lcm.j0 kq a0 a1 x13_2 = some (r1, r2)) ∧ Aside0 (kq ≤ k) ∧ Aside0 (Below w.heap.size w wc))
 case first =>
  have H := HC3.out; clear HC3
  by_cases c4 : a0 = 0
  ·rw [if_pos c4] at H
   have c4b0 : (a0 == 0) = true := beq_iff_eq.mpr c4
   have c4b1 : (a0 != 0) = false := bne_eq_false_iff_eq.mpr c4; clear c4
   (first | rw [c4b0] | (simp only [i64_w, i32_w]; rw [c4b0]) | skip)
   have H' := zK H; clear H
   go_wp2
   go_meet
   case rel => exact ⟨_, (true), (by first | rfl | (simp; done) | (simp [*]; done)), H', ⟨by first | omega | exact Nat.le_refl _⟩, ⟨zo HB⟩⟩
  ·rw [if_neg c4] at H
   have c4b0 : (a0 == 0) = false := beq_eq_false_iff_ne.mpr c4
   have c4b1 : (a0 != 0) = true := bne_iff_ne.mpr c4
   (first | rw [c4b0] | (simp only [i64_w, i32_w]; rw [c4b0]) | skip)
   have H' := zK H; clear H
   go_wp2
   go_meet
   case rel => exact ⟨_, ((a1 == 0)), (by first | rfl | (simp; done) | (simp [*]; done)), H', ⟨by first | omega | exact Nat.le_refl _⟩, ⟨zo HB⟩⟩
 case rest =>
  clear HC3; try clear p2; try clear c4; try clear c4b0; try clear c4b1
  obtain ⟨kq, x13_2, rfl, HA, HJ2, HB⟩ := hcut
  cases kq with
  | zero => exact absurd HA.out (by simp [num_Lcm.j0])
  | succ kj2 =>
   have H := HA.out; clear HA
   simp only [num_Lcm.j0] at H
   by_cases c5 : x13_2 = true
   ·subst c5
    have H1 : (some (0, true)) = some (r1, r2) := by rw [if_pos rfl] at H; exact H
    clear H; have H := H1; clear H1
    simp only [Option.some.injEq, Prod.mk.injEq] at H
    obtain ⟨rfl, rfl⟩ := H
    go_wp2
    go_ret2
    exact zR (h := zo HB)
   ·replace c5 := Bool.eq_false_iff.mpr c5
    subst c5
    have H1 : ((num_size.f a0).bind fun t199 => ((num_size.f a0).bind fun t200 => ((num_size.f a1).bind fun t201 => ((num_common.f kj2 t200 t201).bind fun t202 => (if t202 = 0 then (none) else ((num_size.f a1).bind fun t203 => ((bits_Mul64.f (IntKind.u64.wrap (Int.tdiv t199 t202)) t203).bind fun bt204 => (if bt204.1 > 0 then (some (0, false)) else ((num_signed.f bt204.2 false).bind fun bt206 => (some (bt206.1, bt206.2))))))))))) = some (r1, r2) := by rw [if_neg (show ¬ (false = true) by decide)] at H; exact H
    clear H; have H := H1
    clear H1; replace H := zob H
    obtain ⟨t199, A60, H⟩ := H
    replace H : ((num_size.f a0).bind fun t200 => ((num_size.f a1).bind fun t201 => ((num_common.f kj2 t200 t201).bind fun t202 => (if t202 = 0 then (none) else ((num_size.f a1).bind fun t203 => ((bits_Mul64.f (IntKind.u64.wrap (Int.tdiv t199 t202)) t203).bind fun bt204 => (if bt204.1 > 0 then (some (0, false)) else ((num_signed.f bt204.2 false).bind fun bt206 => (some (bt206.1, bt206.2)))))))))) = some (r1, r2) := H
    have A6 := zK A60; clear A60; replace H := zob H
    obtain ⟨t200, A70, H⟩ := H
    replace H : ((num_size.f a1).bind fun t201 => ((num_common.f kj2 t200 t201).bind fun t202 => (if t202 = 0 then (none) else ((num_size.f a1).bind fun t203 => ((bits_Mul64.f (IntKind.u64.wrap (Int.tdiv t199 t202)) t203).bind fun bt204 => (if bt204.1 > 0 then (some (0, false)) else ((num_signed.f bt204.2 false).bind fun bt206 => (some (bt206.1, bt206.2))))))))) = some (r1, r2) := H
    have A7 := zK A70; clear A70; replace H := zob H
    obtain ⟨t201, A80, H⟩ := H
    replace H : ((num_common.f kj2 t200 t201).bind fun t202 => (if t202 = 0 then (none) else ((num_size.f a1).bind fun t203 => ((bits_Mul64.f (IntKind.u64.wrap (Int.tdiv t199 t202)) t203).bind fun bt204 => (if bt204.1 > 0 then (some (0, false)) else ((num_signed.f bt204.2 false).bind fun bt206 => (some (bt206.1, bt206.2)))))))) = some (r1, r2) := H
    have A8 := zK A80; clear A80; replace H := zob H
    obtain ⟨t202, A90, H⟩ := H
    replace H : (if t202 = 0 then (none) else ((num_size.f a1).bind fun t203 => ((bits_Mul64.f (IntKind.u64.wrap (Int.tdiv t199 t202)) t203).bind fun bt204 => (if bt204.1 > 0 then (some (0, false)) else ((num_signed.f bt204.2 false).bind fun bt206 => (some (bt206.1, bt206.2))))))) = some (r1, r2) := H
    have A9 := zK A90; clear A90
    by_cases c10 : t202 = 0
    ·rw [if_pos c10] at H
     exact absurd H (by simp)
    ·rw [if_neg c10] at H
     have c10b0 : (t202 == 0) = false := beq_eq_false_iff_ne.mpr c10
     have c10b1 : (t202 != 0) = true := bne_iff_ne.mpr c10; replace H := zob H
     obtain ⟨t203, A110, H⟩ := H
     replace H : ((bits_Mul64.f (IntKind.u64.wrap (Int.tdiv t199 t202)) t203).bind fun bt204 => (if bt204.1 > 0 then (some (0, false)) else ((num_signed.f bt204.2 false).bind fun bt206 => (some (bt206.1, bt206.2))))) = some (r1, r2) := H
     have A11 := zK A110; clear A110; replace H := zob H
     obtain ⟨⟨t204, t205⟩, A120, H⟩ := H
     replace H : (if t204 > 0 then (some (0, false)) else ((num_signed.f t205 false).bind fun bt206 => (some (bt206.1, bt206.2)))) = some (r1, r2) := H
     have A12 := zK A120; clear A120
     by_cases c13 : t204 > 0
     ·rw [if_pos c13] at H
      have c13b0 : decide (0 < t204) = true := decide_eq_true c13; clear c13
      simp only [Option.some.injEq, Prod.mk.injEq] at H
      obtain ⟨rfl, rfl⟩ := H
      try go_wp2
      replace HB := zK (yD HB.out)
      refine start_ (n := 16) (S := fun w' => True) (ds := []) #[F_,F_,F_,F_,F_,F_,F_,F_,F_,F_,F_,F_,F_,F_,F_,F_] (by kernel_rfl) rfl rfl trivial (fun hHeld => ?_); refine with_tabW num_Lcm.tab3 num_Lcm.bits3 (fun HT_ HW_ => ?_)
      generalize wc.drew = w14 at HB hHeld ⊢
      refine zPu 0 15 #[T_,F_,F_,F_,F_,F_,F_,F_,F_,F_,F_,F_,F_,F_,F_,F_] ?_
      refine zPu 2 17 #[T_,F_,T_,F_,F_,F_,F_,F_,F_,F_,F_,F_,F_,F_,F_,F_] ?_
      refine zPu 4 19 #[T_,F_,T_,F_,T_,F_,F_,F_,F_,F_,F_,F_,F_,F_,F_,F_] ?_
      refine zPu 8 23 #[T_,F_,T_,F_,T_,F_,F_,F_,T_,F_,F_,F_,F_,F_,F_,F_] ?_
      refine one_ (i := 1) (N := some 16) #[T_,T_,T_,F_,T_,F_,F_,F_,T_,F_,F_,F_,F_,F_,F_,F_] rfl rfl (one_of HT_.out (by kernel_rfl)) (by decide) (fun K hK => ?_)
      refine goes_ Try.func75 (by kernel_rfl) rfl #[.int .i64 a0] (by rfl) rfl rfl (by (try simp only [List.map_toArray, List.map_cons, List.map_nil]); first | done | rfl | (simp only [List.length_drop, List.length_take]; rfl)) ?_
      with_reducible refine (num_size.calls a0 t199 _ A6.out).mono ?_
      rintro e w' ⟨rfl, ⟨nd, rfl⟩⟩
      refine ⟨_, rfl, ?_⟩
      refine hK.out _ _ trivial (fun hHeld => ?_)
      clear hK K
      refine zNm 16 ?_
      refine one_ (i := 3) (N := some 18) #[T_,T_,T_,T_,T_,F_,F_,F_,T_,F_,F_,F_,F_,F_,F_,F_] rfl rfl (one_of HT_.out (by kernel_rfl)) (by decide) (fun K hK => ?_)
      refine goes_ Try.func75 (by kernel_rfl) rfl #[.int .i64 a0] (by rfl) rfl rfl (by (try simp only [List.map_toArray, List.map_cons, List.map_nil]); first | done | rfl | (simp only [List.length_drop, List.length_take]; rfl)) ?_
      with_reducible refine (num_size.calls a0 t200 _ A7.out).mono ?_
      rintro e w' ⟨rfl, ⟨nd, rfl⟩⟩
      refine ⟨_, rfl, ?_⟩
      refine hK.out _ _ trivial (fun hHeld => ?_)
      clear hK K
      refine zNm 18 ?_
      refine one_ (i := 5) (N := some 20) #[T_,T_,T_,T_,T_,T_,F_,F_,T_,F_,F_,F_,F_,F_,F_,F_] rfl rfl (one_of HT_.out (by kernel_rfl)) (by decide) (fun K hK => ?_)
      refine goes_ Try.func75 (by kernel_rfl) rfl #[.int .i64 a1] (by rfl) rfl rfl (by (try simp only [List.map_toArray, List.map_cons, List.map_nil]); first | done | rfl | (simp only [List.length_drop, List.length_take]; rfl)) ?_
      with_reducible refine (num_size.calls a1 t201 _ A8.out).mono ?_
      rintro e w' ⟨rfl, ⟨nd, rfl⟩⟩
      refine ⟨_, rfl, ?_⟩
      refine hK.out _ _ trivial (fun hHeld => ?_)
      clear hK K
      refine zNm 20 ?_
      refine one_ (i := 6) (N := some 21) #[T_,T_,T_,T_,T_,T_,T_,F_,T_,F_,F_,F_,F_,F_,F_,F_] rfl rfl (one_of HT_.out (by kernel_rfl)) (by decide) (fun K hK => ?_)
      refine goes_ Try.func78 (by kernel_rfl) rfl #[.int .u64 t200, .int .u64 t201] (by rfl) rfl rfl (by (try simp only [List.map_toArray, List.map_cons, List.map_nil]); first | done | rfl | (simp only [List.length_drop, List.length_take]; rfl)) ?_
      with_reducible refine (num_common.calls kj2 t200 t201 t202 _ A9.out).mono ?_
      rintro e w15 ⟨rfl, hb⟩
      refine ⟨_, rfl, ?_⟩
      replace HB := zst HB hb
      (try clear hb); (try clear hb2); (try clear hk); (try clear hi)
      refine hK.out _ _ trivial (fun hHeld => ?_)
      clear hK K
      refine zNm 21 ?_
      refine zPu 7 22 #[T_,T_,T_,T_,T_,T_,T_,T_,T_,F_,F_,F_,F_,F_,F_,F_] ?_
      refine one_ (i := 9) (N := some 24) #[T_,T_,T_,T_,T_,T_,T_,T_,T_,T_,F_,F_,F_,F_,F_,F_] rfl rfl (one_of HT_.out (by kernel_rfl)) (by decide) (fun K hK => ?_)
      refine goes_ Try.func75 (by kernel_rfl) rfl #[.int .i64 a1] (by rfl) rfl rfl (by (try simp only [List.map_toArray, List.map_cons, List.map_nil]); first | done | rfl | (simp only [List.length_drop, List.length_take]; rfl)) ?_
      with_reducible refine (num_size.calls a1 t203 _ A11.out).mono ?_
      rintro e w' ⟨rfl, ⟨nd, rfl⟩⟩
      refine ⟨_, rfl, ?_⟩
      refine hK.out _ _ trivial (fun hHeld => ?_)
      clear hK K
      refine zNm 24 ?_
      refine one_ (i := 10) (N := some 25) #[T_,T_,T_,T_,T_,T_,T_,T_,T_,T_,T_,F_,F_,F_,F_,F_] rfl rfl (one_of HT_.out (by kernel_rfl)) (by decide) (fun K hK => ?_)
      refine goes_ Try.func67 (by kernel_rfl) rfl #[.int .u64 (IntKind.u64.wrap (Int.tdiv t199 t202)), .int .u64 t203] (by rfl) rfl rfl (by (try simp only [List.map_toArray, List.map_cons, List.map_nil]); first | done | rfl | (simp only [List.length_drop, List.length_take]; rfl)) ?_
      with_reducible refine (bits_Mul64.calls (IntKind.u64.wrap (Int.tdiv t199 t202)) t203 t204 t205 _ A12.out).mono ?_
      rintro e w' ⟨rfl, ⟨nd, rfl⟩⟩
      refine ⟨_, rfl, ?_⟩
      refine hK.out _ _ trivial (fun hHeld => ?_)
      clear hK K
      refine zNm 25 ?_
      refine zPu 11 14 #[T_,T_,T_,T_,T_,T_,T_,T_,T_,T_,T_,T_,F_,F_,F_,F_] ?_
      refine zPu 12 26 #[T_,T_,T_,T_,T_,T_,T_,T_,T_,T_,T_,T_,T_,F_,F_,F_] ?_
      refine zPu 13 27 #[T_,T_,T_,T_,T_,T_,T_,T_,T_,T_,T_,T_,T_,T_,F_,F_] ?_
      refine zPu 14 6 #[T_,T_,T_,T_,T_,T_,T_,T_,T_,T_,T_,T_,T_,T_,T_,F_] ?_
      refine zPu 15 7 #[T_,T_,T_,T_,T_,T_,T_,T_,T_,T_,T_,T_,T_,T_,T_,T_] ?_
      refine done_ (done_of HT_.out (by kernel_rfl)) ?_
      try go_wp2
      go_ret2
      exact zR (h := zo HB)
     ·rw [if_neg c13] at H
      have c13b0 : decide (0 < t204) = false := decide_eq_false c13; clear c13
      replace H := zob H
      obtain ⟨⟨t206, t207⟩, A160, H⟩ := H
      replace H : (some (t206, t207)) = some (r1, r2) := H
      have A16 := zK A160; clear A160
      simp only [Option.some.injEq, Prod.mk.injEq] at H
      obtain ⟨rfl, rfl⟩ := H
      try go_wp2
      replace HB := zK (yD HB.out)
      refine start_ (n := 16) (S := fun w' => True) (ds := []) #[F_,F_,F_,F_,F_,F_,F_,F_,F_,F_,F_,F_,F_,F_,F_,F_] (by kernel_rfl) rfl rfl trivial (fun hHeld => ?_); refine with_tabW num_Lcm.tab3 num_Lcm.bits3 (fun HT_ HW_ => ?_)
      generalize wc.drew = w17 at HB hHeld ⊢
      refine zPu 0 15 #[T_,F_,F_,F_,F_,F_,F_,F_,F_,F_,F_,F_,F_,F_,F_,F_] ?_
      refine zPu 2 17 #[T_,F_,T_,F_,F_,F_,F_,F_,F_,F_,F_,F_,F_,F_,F_,F_] ?_
      refine zPu 4 19 #[T_,F_,T_,F_,T_,F_,F_,F_,F_,F_,F_,F_,F_,F_,F_,F_] ?_
      refine zPu 8 23 #[T_,F_,T_,F_,T_,F_,F_,F_,T_,F_,F_,F_,F_,F_,F_,F_] ?_
      refine one_ (i := 1) (N := some 16) #[T_,T_,T_,F_,T_,F_,F_,F_,T_,F_,F_,F_,F_,F_,F_,F_] rfl rfl (one_of HT_.out (by kernel_rfl)) (by decide) (fun K hK => ?_)
      refine goes_ Try.func75 (by kernel_rfl) rfl #[.int .i64 a0] (by rfl) rfl rfl (by (try simp only [List.map_toArray, List.map_cons, List.map_nil]); first | done | rfl | (simp only [List.length_drop, List.length_take]; rfl)) ?_
      with_reducible refine (num_size.calls a0 t199 _ A6.out).mono ?_
      rintro e w' ⟨rfl, ⟨nd, rfl⟩⟩
      refine ⟨_, rfl, ?_⟩
      refine hK.out _ _ trivial (fun hHeld => ?_)
      clear hK K
      refine zNm 16 ?_
      refine one_ (i := 3) (N := some 18) #[T_,T_,T_,T_,T_,F_,F_,F_,T_,F_,F_,F_,F_,F_,F_,F_] rfl rfl (one_of HT_.out (by kernel_rfl)) (by decide) (fun K hK => ?_)
      refine goes_ Try.func75 (by kernel_rfl) rfl #[.int .i64 a0] (by rfl) rfl rfl (by (try simp only [List.map_toArray, List.map_cons, List.map_nil]); first | done | rfl | (simp only [List.length_drop, List.length_take]; rfl)) ?_
      with_reducible refine (num_size.calls a0 t200 _ A7.out).mono ?_
      rintro e w' ⟨rfl, ⟨nd, rfl⟩⟩
      refine ⟨_, rfl, ?_⟩
      refine hK.out _ _ trivial (fun hHeld => ?_)
      clear hK K
      refine zNm 18 ?_
      refine one_ (i := 5) (N := some 20) #[T_,T_,T_,T_,T_,T_,F_,F_,T_,F_,F_,F_,F_,F_,F_,F_] rfl rfl (one_of HT_.out (by kernel_rfl)) (by decide) (fun K hK => ?_)
      refine goes_ Try.func75 (by kernel_rfl) rfl #[.int .i64 a1] (by rfl) rfl rfl (by (try simp only [List.map_toArray, List.map_cons, List.map_nil]); first | done | rfl | (simp only [List.length_drop, List.length_take]; rfl)) ?_
      with_reducible refine (num_size.calls a1 t201 _ A8.out).mono ?_
      rintro e w' ⟨rfl, ⟨nd, rfl⟩⟩
      refine ⟨_, rfl, ?_⟩
      refine hK.out _ _ trivial (fun hHeld => ?_)
      clear hK K
      refine zNm 20 ?_
      refine one_ (i := 6) (N := some 21) #[T_,T_,T_,T_,T_,T_,T_,F_,T_,F_,F_,F_,F_,F_,F_,F_] rfl rfl (one_of HT_.out (by kernel_rfl)) (by decide) (fun K hK => ?_)
      refine goes_ Try.func78 (by kernel_rfl) rfl #[.int .u64 t200, .int .u64 t201] (by rfl) rfl rfl (by (try simp only [List.map_toArray, List.map_cons, List.map_nil]); first | done | rfl | (simp only [List.length_drop, List.length_take]; rfl)) ?_
      with_reducible refine (num_common.calls kj2 t200 t201 t202 _ A9.out).mono ?_
      rintro e w18 ⟨rfl, hb⟩
      refine ⟨_, rfl, ?_⟩
      replace HB := zst HB hb
      (try clear hb); (try clear hb2); (try clear hk); (try clear hi)
      refine hK.out _ _ trivial (fun hHeld => ?_)
      clear hK K
      refine zNm 21 ?_
      refine zPu 7 22 #[T_,T_,T_,T_,T_,T_,T_,T_,T_,F_,F_,F_,F_,F_,F_,F_] ?_
      refine one_ (i := 9) (N := some 24) #[T_,T_,T_,T_,T_,T_,T_,T_,T_,T_,F_,F_,F_,F_,F_,F_] rfl rfl (one_of HT_.out (by kernel_rfl)) (by decide) (fun K hK => ?_)
      refine goes_ Try.func75 (by kernel_rfl) rfl #[.int .i64 a1] (by rfl) rfl rfl (by (try simp only [List.map_toArray, List.map_cons, List.map_nil]); first | done | rfl | (simp only [List.length_drop, List.length_take]; rfl)) ?_
      with_reducible refine (num_size.calls a1 t203 _ A11.out).mono ?_
      rintro e w' ⟨rfl, ⟨nd, rfl⟩⟩
      refine ⟨_, rfl, ?_⟩
      refine hK.out _ _ trivial (fun hHeld => ?_)
      clear hK K
      refine zNm 24 ?_
      refine one_ (i := 10) (N := some 25) #[T_,T_,T_,T_,T_,T_,T_,T_,T_,T_,T_,F_,F_,F_,F_,F_] rfl rfl (one_of HT_.out (by kernel_rfl)) (by decide) (fun K hK => ?_)
      refine goes_ Try.func67 (by kernel_rfl) rfl #[.int .u64 (IntKind.u64.wrap (Int.tdiv t199 t202)), .int .u64 t203] (by rfl) rfl rfl (by (try simp only [List.map_toArray, List.map_cons, List.map_nil]); first | done | rfl | (simp only [List.length_drop, List.length_take]; rfl)) ?_
      with_reducible refine (bits_Mul64.calls (IntKind.u64.wrap (Int.tdiv t199 t202)) t203 t204 t205 _ A12.out).mono ?_
      rintro e w' ⟨rfl, ⟨nd, rfl⟩⟩
      refine ⟨_, rfl, ?_⟩
      refine hK.out _ _ trivial (fun hHeld => ?_)
      clear hK K
      refine zNm 25 ?_
      refine zPu 11 14 #[T_,T_,T_,T_,T_,T_,T_,T_,T_,T_,T_,T_,F_,F_,F_,F_] ?_
      refine zPu 12 26 #[T_,T_,T_,T_,T_,T_,T_,T_,T_,T_,T_,T_,T_,F_,F_,F_] ?_
      refine zPu 13 27 #[T_,T_,T_,T_,T_,T_,T_,T_,T_,T_,T_,T_,T_,T_,F_,F_] ?_
      refine zPu 14 6 #[T_,T_,T_,T_,T_,T_,T_,T_,T_,T_,T_,T_,T_,T_,T_,F_] ?_
      refine zPu 15 7 #[T_,T_,T_,T_,T_,T_,T_,T_,T_,T_,T_,T_,T_,T_,T_,T_] ?_
      refine done_ (done_of HT_.out (by kernel_rfl)) ?_
      try go_wp2_with (first | ((with_reducible refine zC (f := 76) rfl ?_); refine zGo (some 31) Try.func76 #[.int .u64 t205, .bool false] ?_; (with_reducible refine (num_signed.calls t205 false t206 t207 _ A16.out).mono ?_); rintro e w' ⟨rfl, ⟨nd, rfl⟩⟩; refine ⟨_, rfl, ?_⟩))
      go_ret2
      exact zR (h := zo HB)

/-! ### num_Gcd: function 73 -/
def num_Gcd.l0 : Nat → Int → List Int → Int → Int → Option (Int × Bool)
 | 0, _, _, _, _ => none
 | k + 1, x4, x7, x8, x9 => if x9 < x8 then (if 0 ≤ x9 then (if x9 < (x7.length : Int) then ((num_size.f (rd x7 x9)).bind fun t209 => ((num_common.f k x4 t209).bind fun t210 => (num_Gcd.l0 k t210 x7 x8 (wrap64 (x9 + 1))))) else (none)) else (none)) else ((num_signed.f x4 false).bind fun bt211 => (some (bt211.1, bt211.2)))
def num_Gcd.f (k : Nat) (l0 : List Int) : Option (Int × Bool) := num_Gcd.l0 k 0 l0 (l0.length : Int) 0
theorem num_Gcd.mono_l : ∀ k, (∀ y0 y1 y2 y3, LeO (num_Gcd.l0 k y0 y1 y2 y3) (num_Gcd.l0 (k + 1) y0 y1 y2 y3))
 | 0 => fun _ _ _ _ r h => by simp [num_Gcd.l0] at h
 | k + 1 => by
  have ih0 := num_Gcd.mono_l k
  ·intro y0 y1 y2 y3
   unfold num_Gcd.l0
   repeat' first | (with_reducible first | exact ih0 .. | exact num_common.mono .. | exact LeO.refl _ | exact LeO.none _ | refine LeO.ite ?_ ?_ | refine LeO.bind ?_ (fun _ => ?_)) | exact ih0 .. | exact num_common.mono .. | exact LeO.none _ | refine LeO.ite ?_ ?_ | refine LeO.bind ?_ (fun _ => ?_)
theorem num_Gcd.mono : ∀ a0 k, LeO (num_Gcd.f k a0) (num_Gcd.f (k + 1) a0) := by
 intro a0 k
 have ih0 := num_Gcd.mono_l k
 unfold num_Gcd.f
 repeat' first | (with_reducible first | exact ih0 .. | exact num_common.mono .. | exact LeO.refl _ | exact LeO.none _ | refine LeO.ite ?_ ?_ | refine LeO.bind ?_ (fun _ => ?_)) | exact ih0 .. | exact num_common.mono .. | exact LeO.none _ | refine LeO.ite ?_ ?_ | refine LeO.bind ?_ (fun _ => ?_)
theorem num_Gcd.calls (k : Nat) (A0 : Option Addr) (c0 : Nat) (l0 : List Int) (r1 : Int) (r2 : Bool) (w : World) (hr0 : Kd.C (Kd.int .i64) w A0 l0.length l0) (hc0 : l0.length ≤ c0) (h : num_Gcd.f k l0 = some (r1, r2)) :
  Calls Try.prog 73 #[.slice A0 l0.length c0] w fun e w' => e = .returned (.tuple #[.int .i64 r1, .bool r2]) ∧ Below w.heap.size w w' := by
 have HR0 := zK hr0
 have HC0 := zK hc0; clear hr0 hc0
 have HB := zK (Below.refl w.heap.size w)
 have H : (num_Gcd.l0 k 0 l0 (l0.length : Int) 0) = some (r1, r2) := h
 clear h
 have H' := zK H; clear H
 go_enter Try.func73, Try.ntmps73
 go_wp2
 go_loopg [4, 9] k (fun kq v4 v9 w' => ∃ (x4_1 : Int) (x9_1 : Int), v4 = .int .u64 x4_1 ∧ v9 = .int .i64 x9_1 ∧ Aside0 (num_Gcd.l0 kq x4_1 l0 (l0.length : Int) x9_1 = some (r1, r2)) ∧ Aside0 (kq ≤ k) ∧ Aside0 (Below w.heap.size w w'))
 case atStart => exact ⟨(0), (0), (by first | rfl | (simp; done) | (simp [*]; done)), (by first | rfl | (simp; done) | (simp [*]; done)), H', ⟨Nat.le_refl _⟩, ⟨zo HB⟩⟩
 case round =>
  clear H'
  obtain ⟨x4_1, x9_1, rfl, rfl, HA, HK1, HB⟩ := hrel
  cases gk with
  | zero => exact absurd HA.out (by simp [num_Gcd.l0])
  | succ k1 =>
   have H := HA.out; clear HA
   simp only [num_Gcd.l0] at H
   by_cases c2 : x9_1 < (l0.length : Int)
   ·rw [if_pos c2] at H
    have c2b0 : decide (x9_1 < (l0.length : Int)) = true := decide_eq_true c2
    clear c2
    by_cases c3 : 0 ≤ x9_1
    ·rw [if_pos c3] at H
     have c3b0 : decide (0 ≤ x9_1) = true := decide_eq_true c3; clear c3
     by_cases c4 : x9_1 < (l0.length : Int)
     ·rw [if_pos c4] at H
      have c4b0 : decide (x9_1 < (l0.length : Int)) = true := decide_eq_true c4
      clear c4; replace H := zob H
      obtain ⟨t209, A50, H⟩ := H
      replace H : ((num_common.f k1 x4_1 t209).bind fun t210 => (num_Gcd.l0 k1 t210 l0 (l0.length : Int) (wrap64 (x9_1 + 1)))) = some (r1, r2) := H
      have A5 := zK A50; clear A50; replace H := zob H
      obtain ⟨t210, A60, H⟩ := H
      replace H : (num_Gcd.l0 k1 t210 l0 (l0.length : Int) (wrap64 (x9_1 + 1))) = some (r1, r2) := H
      have A6 := zK A60; clear A60
      have H' := zK H; clear H
      have p208 : 0 ≤ (x9_1 : Int) := zdt
      have q208 : x9_1 < (l0.length : Int) := zdt
      obtain ⟨ad208, e208, hx208_0⟩ := Kd.at_int HR0.out x9_1 p208 q208
      cases e208
      replace hx208_0 := zcl HB hx208_0
      replace p208 := eq_true p208
      replace q208 := eq_true q208
      go_wp2_with (first | ((with_reducible refine zC (f := 75) rfl ?_); refine zGo (some 15) Try.func75 #[.int .i64 (rd l0 x9_1)] ?_; (with_reducible refine (num_size.calls (rd l0 x9_1) t209 _ A5.out).mono ?_); rintro e w' ⟨rfl, ⟨nd, rfl⟩⟩; refine ⟨_, rfl, ?_⟩) | ((with_reducible refine zC (f := 78) rfl ?_); refine zGo (some 16) Try.func78 #[.int .u64 x4_1, .int .u64 t209] ?_; (with_reducible refine (num_common.calls k1 x4_1 t209 t210 _ A6.out).mono ?_); rintro e w7 ⟨rfl, hb⟩; refine ⟨_, rfl, ?_⟩; replace HB := zst HB hb; clear hb))
      go_roundg k1
      case measure => have := HK1.out; omega
      case rel => exact ⟨(t210), (wrap64 (x9_1 + 1)), (by first | rfl | (simp; done) | (simp [*]; done)), (by first | rfl | (simp; done) | (simp [*]; done)), H', ⟨by have := HK1.out; omega⟩, ⟨zo HB⟩⟩
     ·rw [if_neg c4] at H
      exact absurd H (by simp)
    ·rw [if_neg c3] at H
     exact absurd H (by simp)
   ·rw [if_neg c2] at H
    have c2b0 : decide (x9_1 < (l0.length : Int)) = false := decide_eq_false c2
    clear c2; replace H := zob H
    obtain ⟨⟨t211, t212⟩, A80, H⟩ := H
    replace H : (some (t211, t212)) = some (r1, r2) := H
    have A8 := zK A80; clear A80
    simp only [Option.some.injEq, Prod.mk.injEq] at H
    obtain ⟨rfl, rfl⟩ := H
    go_wp2_with (first | ((with_reducible refine zC (f := 76) rfl ?_); refine zGo (some 19) Try.func76 #[.int .u64 x4_1, .bool false] ?_; (with_reducible refine (num_signed.calls x4_1 false t211 t212 _ A8.out).mono ?_); rintro e w' ⟨rfl, ⟨nd, rfl⟩⟩; refine ⟨_, rfl, ?_⟩))
    go_ret2
    exact zR (h := zo HB)

end Go.Proofs.Ytjinmlpekecmbaa.PEuclidNone
