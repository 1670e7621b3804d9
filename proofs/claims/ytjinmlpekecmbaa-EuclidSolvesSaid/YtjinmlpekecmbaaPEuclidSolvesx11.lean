/- What the call of each function that the law reaches comes to, and the law out of its plain form; no condition but what stands in each theorem. -/
import Derived.Test.YtjinmlpekecmbaaPEuclidSolvesx0
import Derived.Test.YtjinmlpekecmbaaPEuclidSolvesx1
import Derived.Test.YtjinmlpekecmbaaPEuclidSolvesx9
import Derived.Test.YtjinmlpekecmbaaPEuclidSolvesx10
namespace Go.Proofs.Ytjinmlpekecmbaa.PEuclidSolves
open Go.RowKit Go.Proofs.YtjinmlpekecmbaaW.PrintWords Go.Proofs.YtjinmlpekecmbaaW.PrintLast Go.Proofs.YtjinmlpekecmbaaW.PrintMore
open Go.Proofs.YtjinmlpekecmbaaW.PrintWords renaming blk_drewN → zN, blk_drew → zD, blk_alloc → zA, below_alloc → yA, pw_below_drewN → yN, below_drew1 → yD, below_set → yS, gate_callee → zC, gate_guard → zG
open Go.Proofs.YtjinmlpekecmbaaW.PrintWords.Kd renaming C_alloc → cA, C_drewN → cN, C_drew → cD
open Go.Proofs.YtjinmlpekecmbaaW.PrintWords.Aside0 renaming mk → zK
open Bool renaming true → T_, false → F_
open List renaming setIfInBounds_toArray → zt, set_cons_zero → zz, set_cons_succ → zs
attribute [local go_sem] max2_int min2_int max_two min_two max_three min_three max_four min_four
set_option linter.unusedVariables false
set_option linter.unusedSimpArgs false

/-! ### sequiturlaw29_EuclidSolves: function 8 -/
mutual
def sequiturlaw29_EuclidSolves.j0 : Nat → List (S41) → Int → List Int → Bool → Option (Bool)
 | 0, _, _, _, _ => none
 | k + 1, x0, x1, x2, x23 => if x23 = true then ((sequiturlaw29_alive.f k).bind fun t326 => (some t326)) else ((euclid_Solve.f k x0 x1).bind fun bt327 => (if bt327.2.2.2 = 0 then (if bt327.2.2.1 = true then (sequiturlaw29_EuclidSolves.j1 k x0 x1 x2 (decide (bt327.2.1 > (x2.length : Int))) bt327.1 bt327.2.1) else (sequiturlaw29_EuclidSolves.j1 k x0 x1 x2 true bt327.1 bt327.2.1)) else (sequiturlaw29_EuclidSolves.j1 k x0 x1 x2 true bt327.1 bt327.2.1)))
def sequiturlaw29_EuclidSolves.j1 : Nat → List (S41) → Int → List Int → Bool → List (S41) → Int → Option (Bool)
 | 0, _, _, _, _, _, _ => none
 | k + 1, x0, x1, x2, x44, x334000, x334001 => if x44 = true then ((sequiturlaw29_alive.f k).bind fun t334 => (some t334)) else (if x334001 < 0 then (sequiturlaw29_EuclidSolves.j2 k x0 x2 true x334000 x334001) else (sequiturlaw29_EuclidSolves.j2 k x0 x2 ((x334000.length : Int) != x1) x334000 x334001))
def sequiturlaw29_EuclidSolves.j2 : Nat → List (S41) → List Int → Bool → List (S41) → Int → Option (Bool)
 | 0, _, _, _, _, _ => none
 | k + 1, x0, x2, x55, x334000, x334001 => if x55 = true then (none) else (if 0 ≤ x334001 then (if x334001 ≤ (x2.length : Int) then ((euclid_Point.f k x334000 x334001 (x2.take (x334001 : Int).toNat)).bind fun bt336 => (if bt336.2 = 0 then (sequiturlaw29_EuclidSolves.l0 k bt336.1 x0 (x0.length : Int) 0) else (if bt336.2 = 5 then ((sequiturlaw29_alive.f k).bind fun t340 => (some t340)) else (none)))) else (none)) else (none))
def sequiturlaw29_EuclidSolves.l0 : Nat → List Int → List (S41) → Int → Int → Option (Bool)
 | 0, _, _, _, _ => none
 | k + 1, x10, x72, x73, x74 => if x74 < x73 then (if 0 ≤ x74 then (if x74 < (x72.length : Int) then ((lin_Eval.f k ((rd_T41 x72 x74).f0) ((rd_T41 x72 x74).f1) x10).bind fun bt343 => (if bt343.2 = 0 then (if bt343.1 = 0 then (sequiturlaw29_EuclidSolves.l0 k x10 x72 x73 (wrap64 (x74 + 1))) else (none)) else (if bt343.2 = 5 then (sequiturlaw29_EuclidSolves.l0 k x10 x72 x73 (wrap64 (x74 + 1))) else (none)))) else (none)) else (none)) else ((sequiturlaw29_alive.f k).bind fun t345 => (some t345))
end
def sequiturlaw29_EuclidSolves.f (k : Nat) (l0 : List (S41)) (a1 : Int) (l2 : List Int) : Option (Bool) := (sequiturlaw29_few.f k l0).bind fun t325 => (if t325 = true then (sequiturlaw29_EuclidSolves.j0 k l0 a1 l2 (decide ((l2.length : Int) > 100))) else (sequiturlaw29_EuclidSolves.j0 k l0 a1 l2 true))
theorem sequiturlaw29_EuclidSolves.mono_l : ∀ k, (∀ y0 y1 y2 y3, LeO (sequiturlaw29_EuclidSolves.j0 k y0 y1 y2 y3) (sequiturlaw29_EuclidSolves.j0 (k + 1) y0 y1 y2 y3)) ∧ (∀ y0 y1 y2 y3 y4 y5, LeO (sequiturlaw29_EuclidSolves.j1 k y0 y1 y2 y3 y4 y5) (sequiturlaw29_EuclidSolves.j1 (k + 1) y0 y1 y2 y3 y4 y5)) ∧ (∀ y0 y1 y2 y3 y4, LeO (sequiturlaw29_EuclidSolves.j2 k y0 y1 y2 y3 y4) (sequiturlaw29_EuclidSolves.j2 (k + 1) y0 y1 y2 y3 y4)) ∧ (∀ y0 y1 y2 y3, LeO (sequiturlaw29_EuclidSolves.l0 k y0 y1 y2 y3) (sequiturlaw29_EuclidSolves.l0 (k + 1) y0 y1 y2 y3))
 | 0 => ⟨fun _ _ _ _ r h => by simp [sequiturlaw29_EuclidSolves.j0] at h, fun _ _ _ _ _ _ r h => by simp [sequiturlaw29_EuclidSolves.j1] at h, fun _ _ _ _ _ r h => by simp [sequiturlaw29_EuclidSolves.j2] at h, fun _ _ _ _ r h => by simp [sequiturlaw29_EuclidSolves.l0] at h⟩
 | k + 1 => by
  obtain ⟨ih0, ih1, ih2, ih3⟩ := sequiturlaw29_EuclidSolves.mono_l k
  refine ⟨?_, ?_, ?_, ?_⟩ <;> intros <;> first | unfold sequiturlaw29_EuclidSolves.j0 | unfold sequiturlaw29_EuclidSolves.j1 | unfold sequiturlaw29_EuclidSolves.j2 | unfold sequiturlaw29_EuclidSolves.l0
  all_goals repeat' first | (with_reducible first | exact ih0 .. | exact ih1 .. | exact ih2 .. | exact ih3 .. | exact euclid_Point.mono .. | exact euclid_Solve.mono .. | exact lin_Eval.mono .. | exact sequiturlaw29_alive.mono .. | exact sequiturlaw29_few.mono .. | exact LeO.refl _ | exact LeO.none _ | refine LeO.ite ?_ ?_ | refine LeO.bind ?_ (fun _ => ?_)) | exact ih0 .. | exact ih1 .. | exact ih2 .. | exact ih3 .. | exact euclid_Point.mono .. | exact euclid_Solve.mono .. | exact lin_Eval.mono .. | exact sequiturlaw29_alive.mono .. | exact sequiturlaw29_few.mono .. | exact LeO.none _ | refine LeO.ite ?_ ?_ | refine LeO.bind ?_ (fun _ => ?_)
theorem sequiturlaw29_EuclidSolves.mono : ∀ a0 a1 a2 k, LeO (sequiturlaw29_EuclidSolves.f k a0 a1 a2) (sequiturlaw29_EuclidSolves.f (k + 1) a0 a1 a2) := by
 intro a0 a1 a2 k
 obtain ⟨ih0, ih1, ih2, ih3⟩ := sequiturlaw29_EuclidSolves.mono_l k
 unfold sequiturlaw29_EuclidSolves.f
 repeat' first | (with_reducible first | exact ih0 .. | exact ih1 .. | exact ih2 .. | exact ih3 .. | exact euclid_Point.mono .. | exact euclid_Solve.mono .. | exact lin_Eval.mono .. | exact sequiturlaw29_alive.mono .. | exact sequiturlaw29_few.mono .. | exact LeO.refl _ | exact LeO.none _ | refine LeO.ite ?_ ?_ | refine LeO.bind ?_ (fun _ => ?_)) | exact ih0 .. | exact ih1 .. | exact ih2 .. | exact ih3 .. | exact euclid_Point.mono .. | exact euclid_Solve.mono .. | exact lin_Eval.mono .. | exact sequiturlaw29_alive.mono .. | exact sequiturlaw29_few.mono .. | exact LeO.none _ | refine LeO.ite ?_ ?_ | refine LeO.bind ?_ (fun _ => ?_)
def sequiturlaw29_EuclidSolves.T8 : Bool × List (List Nat × List Nat) := (true, [([], []), ([], []), ([], []), ([2], [2]), ([1, 3], [1, 3]), ([0, 4], [0, 4]), ([5], [5]), ([6], [6]), ([6], [6]), ([7, 5, 0, 1, 2, 3, 4, 5, 6, 7], [7]), ([8, 9, 0, 1, 2, 3, 4, 5, 6, 7, 8, 9], [8])])
def sequiturlaw29_EuclidSolves.B8 : List Nat := [0, 0, 0, 4, 14, 31, 63, 127, 127, 255, 1023]
theorem sequiturlaw29_EuclidSolves.tab8 : rtab .any (opsOf Try.f8 8) = sequiturlaw29_EuclidSolves.T8 := by kernel_rfl
theorem sequiturlaw29_EuclidSolves.bits8 : waitsOk sequiturlaw29_EuclidSolves.T8.2 sequiturlaw29_EuclidSolves.B8 = true := by kernel_rfl
set_option maxHeartbeats 8000000 in
set_option maxRecDepth 100000 in
theorem sequiturlaw29_EuclidSolves.calls (k : Nat) (A0 : Option Addr) (c0 : Nat) (l0 : List (S41)) (a1 : Int) (A2 : Option Addr) (c2 : Nat) (l2 : List Int) (r : Bool) (w : World) (hr0 : Kd.C k41 w A0 l0.length l0) (hc0 : l0.length ≤ c0) (hr2 : Kd.C (Kd.int .i64) w A2 l2.length l2) (hc2 : l2.length ≤ c2) (h : sequiturlaw29_EuclidSolves.f k l0 a1 l2 = some r) :
  Calls Try.prog 8 #[.slice A0 l0.length c0, .int .i64 a1, .slice A2 l2.length c2] w fun e w' => e = .returned (.bool r) ∧ Below w.heap.size w w' := by
 have hu32 := Try.underlying32
 have hu41 := Try.underlying41
 have HR0 := zK hr0
 have HC0 := zK hc0; clear hr0 hc0
 have HR2 := zK hr2
 have HC2 := zK hc2; clear hr2 hc2
 have HB := zK (Below.refl w.heap.size w)
 have H : ((sequiturlaw29_few.f k l0).bind fun t325 => (if t325 = true then (sequiturlaw29_EuclidSolves.j0 k l0 a1 l2 (decide ((l2.length : Int) > 100))) else (sequiturlaw29_EuclidSolves.j0 k l0 a1 l2 true))) = some r := h
 clear h
 have HC4 := zK H; clear H
 go_enter Try.func8, Try.ntmps8
 go_upto_region 1 with (fail)
 go_cut [23] (fun v23 wc => ∃ (kq : Nat) (x23_3 : Bool), v23 = .bool x23_3 ∧ Aside0 (sequiturlaw29_EuclidSolves.j0 kq l0 a1 l2 x23_3 = some r) ∧ Aside0 (kq ≤ k) ∧ Aside0 (Below w.heap.size w wc))
 case first =>
  have H := HC4.out; clear HC4; replace H := zob H
  obtain ⟨t325, A50, H⟩ := H
  replace H : (if t325 = true then (sequiturlaw29_EuclidSolves.j0 k l0 a1 l2 (decide ((l2.length : Int) > 100))) else (sequiturlaw29_EuclidSolves.j0 k l0 a1 l2 true)) = some r := H
  have A5 := zK A50; clear A50
  by_cases c6 : t325 = true
  ·subst c6
   have H1 : (sequiturlaw29_EuclidSolves.j0 k l0 a1 l2 (decide ((l2.length : Int) > 100))) = some r := by rw [if_pos rfl] at H; exact H
   clear H; have H := H1; clear H1
   have H' := zK H; clear H
   go_wp2_with (first | ((with_reducible refine zC (f := 9) rfl ?_); refine zGo (some 17) Try.func9 #[.slice A0 l0.length c0] ?_; (with_reducible refine (sequiturlaw29_few.calls k _ _ l0 true _ ?side1 ?side2 A5.out).mono ?_); (case side1 => repeat (first | exact (Kd.C_below HR0.out HB.out) | (with_reducible refine cA ?_ _) | (with_reducible refine cN ?_ _) | (with_reducible refine cD ?_))); (case side2 => exact HC0.out); rintro e w7 ⟨rfl, hb⟩; refine ⟨_, rfl, ?_⟩; replace HB := zst HB hb; clear hb))
   go_meet
   case rel => exact ⟨_, (decide ((l2.length : Int) > 100)), (by first | rfl | (simp; done) | (simp [*]; done)), H', ⟨by first | omega | exact Nat.le_refl _⟩, ⟨zo HB⟩⟩
  ·replace c6 := Bool.eq_false_iff.mpr c6
   subst c6
   have H1 : (sequiturlaw29_EuclidSolves.j0 k l0 a1 l2 true) = some r := by rw [if_neg (show ¬ (false = true) by decide)] at H; exact H
   clear H; have H := H1; clear H1
   have H' := zK H; clear H
   go_wp2_with (first | ((with_reducible refine zC (f := 9) rfl ?_); refine zGo (some 17) Try.func9 #[.slice A0 l0.length c0] ?_; (with_reducible refine (sequiturlaw29_few.calls k _ _ l0 false _ ?side1 ?side2 A5.out).mono ?_); (case side1 => repeat (first | exact (Kd.C_below HR0.out HB.out) | (with_reducible refine cA ?_ _) | (with_reducible refine cN ?_ _) | (with_reducible refine cD ?_))); (case side2 => exact HC0.out); rintro e w8 ⟨rfl, hb⟩; refine ⟨_, rfl, ?_⟩; replace HB := zst HB hb; clear hb))
   go_meet
   case rel => exact ⟨_, (true), (by first | rfl | (simp; done) | (simp [*]; done)), H', ⟨by first | omega | exact Nat.le_refl _⟩, ⟨zo HB⟩⟩
 case rest =>
  clear HC4; try clear c2; try clear p2; try clear c6; try clear c8
  obtain ⟨kq, x23_3, rfl, HA, HJ3, HB⟩ := hcut
  cases kq with
  | zero => exact absurd HA.out (by simp [sequiturlaw29_EuclidSolves.j0])
  | succ kj3 =>
   have H := HA.out; clear HA
   simp only [sequiturlaw29_EuclidSolves.j0] at H
   by_cases c9 : x23_3 = true
   ·subst c9
    have H1 : ((sequiturlaw29_alive.f kj3).bind fun t326 => (some t326)) = some r := by rw [if_pos rfl] at H; exact H
    clear H; have H := H1
    clear H1; replace H := zob H
    obtain ⟨t326, A100, H⟩ := H; replace H : (some t326) = some r := H
    have A10 := zK A100; clear A100
    obtain rfl := Option.some.inj H
    go_wp2_with (first | ((with_reducible refine zC (f := 10) rfl ?_); refine zGo (some 24) Try.func10 #[] ?_; (with_reducible refine (sequiturlaw29_alive.calls kj3  t326 _ A10.out).mono ?_); rintro e w11 ⟨rfl, hb⟩; refine ⟨_, rfl, ?_⟩; replace HB := zst HB hb; clear hb))
    go_ret
    exact zR (h := zo HB)
   ·replace c9 := Bool.eq_false_iff.mpr c9
    subst c9
    have H1 : ((euclid_Solve.f kj3 l0 a1).bind fun bt327 => (if bt327.2.2.2 = 0 then (if bt327.2.2.1 = true then (sequiturlaw29_EuclidSolves.j1 kj3 l0 a1 l2 (decide (bt327.2.1 > (l2.length : Int))) bt327.1 bt327.2.1) else (sequiturlaw29_EuclidSolves.j1 kj3 l0 a1 l2 true bt327.1 bt327.2.1)) else (sequiturlaw29_EuclidSolves.j1 kj3 l0 a1 l2 true bt327.1 bt327.2.1))) = some r := by rw [if_neg (show ¬ (false = true) by decide)] at H; exact H
    clear H; have H := H1
    clear H1; replace H := zob H
    obtain ⟨⟨t327, t330, t331, t332⟩, A120, H⟩ := H
    replace H : (if t332 = 0 then (if t331 = true then (sequiturlaw29_EuclidSolves.j1 kj3 l0 a1 l2 (decide (t330 > (l2.length : Int))) t327 t330) else (sequiturlaw29_EuclidSolves.j1 kj3 l0 a1 l2 true t327 t330)) else (sequiturlaw29_EuclidSolves.j1 kj3 l0 a1 l2 true t327 t330)) = some r := H
    have A12 := zK A120; clear A120
    have HC13 := zK H; clear H
    go_upto_region 4 with (first | ((with_reducible refine zC (f := 15) rfl ?_); refine zGo (some 28) Try.func15 #[.slice A0 l0.length c0, .int .i64 a1] ?_; (with_reducible refine (euclid_Solve.calls kj3 _ _ l0 a1 t327 t330 t331 t332 _ ?side1 ?side2 A12.out).mono ?_); (case side1 => repeat (first | exact (Kd.C_below HR0.out HB.out) | (with_reducible refine cA ?_ _) | (with_reducible refine cN ?_ _) | (with_reducible refine cD ?_))); (case side2 => exact HC0.out); rintro e w14 ⟨v328, rfl, ho0, hb⟩; refine ⟨_, rfl, ?_⟩; have HO329 := zK (Kd.S_lower ho0 (below_size (zo HB))); replace HB := zst HB hb; clear hb; (try clear ho0)) | ((with_reducible refine gate_dst (N := 7) rfl ?_); (try (refine zG (by rfl) ?_; dsimp only)); refine zBox (cs := #[.slice none 0 0, .int .i64 0]) (t := 32) ?_; intro gb333 hg w15 hbox hb; replace HO329 := zK (Kd.S_below (by (with_reducible repeat (first | apply Kd.S_alloc | apply Kd.S_drewN | apply Kd.S_drew)); exact HO329.out) hb); have BK333 := zK (hbox); have GW333 := zK ((by rw [hg]; exact (below_size (zo HB)) : w.heap.size ≤ gb333)); replace HB := zst HB hb; clear hb hbox hg; obtain ⟨Ao16, co16, eo16⟩ := Kd.S_slice HO329.out; subst eo16; have hcz17_0 := zc0 BK333; have hcz17_1 := zc1 BK333; have hfz17_0 := zfz BK333 0; have hfz17_1 := zfz BK333 1))
    (try simp only [Act.put, zt, zz, zs])
    go_cut [44] (fun v44 wc => ∃ (kq : Nat) (x44_12 : Bool), v44 = .bool x44_12 ∧ Aside0 (sequiturlaw29_EuclidSolves.j1 kq l0 a1 l2 x44_12 t327 t330 = some r) ∧ Aside0 (kq ≤ kj3) ∧ Aside0 (Kd.S k41 41 wc w.heap.size (fun _ => True) (.slice Ao16 t327.length co16) t327) ∧ Aside0 (wc.heap[gb333]? = some (.cells #[(.slice Ao16 t327.length co16), .int .i64 t330] 32 (0, 0))) ∧ Aside0 (Below w.heap.size w wc))
    case first =>
     have H := HC13.out; clear HC13
     by_cases c18 : t332 = 0
     ·rw [if_pos c18] at H
      have c18b0 : (t332 == 0) = true := beq_iff_eq.mpr c18
      have c18b1 : (t332 != 0) = false := bne_eq_false_iff_eq.mpr c18; clear c18
      (first | rw [c18b0] | (simp only [i64_w, i32_w]; rw [c18b0]) | skip)
      by_cases c19 : t331 = true
      ·subst c19
       have H1 : (sequiturlaw29_EuclidSolves.j1 kj3 l0 a1 l2 (decide (t330 > (l2.length : Int))) t327 t330) = some r := by rw [if_pos rfl] at H; exact H
       clear H; have H := H1; clear H1
       have H' := zK H; clear H
       have hcz20_0 := zc0 BK333
       have hcz20_1 := zc1 BK333
       have hfz20_0 := zfz BK333 0
       have hfz20_1 := zfz BK333 1
       go_wp2
       go_meet
       case rel => exact ⟨_, (decide (t330 > (l2.length : Int))), (by first | rfl | (simp; done) | (simp [*]; done)), H', ⟨by have := HJ3.out; first | omega | exact Nat.le_refl _⟩, ⟨by (with_reducible repeat (first | apply Kd.S_alloc | apply Kd.S_drewN | apply Kd.S_drew)); exact Kd.S_mono (Kd.S_far (p := ⟨gb333, 1, none⟩) (Kd.S_far (p := ⟨gb333, 0, none⟩) (Kd.S_types HO329.out BK333.out (by decide)) (fun _ hk => hk.2) (.slice Ao16 t327.length co16)) (fun _ hk => hk.2) (.int .i64 t330)) (fun _ hk => trivial)⟩, ⟨by refine zM ?_; refine blk_put (cs := #[.slice Ao16 t327.length co16, .int .i64 0]) ?_ 1 _ rfl; refine zM ?_; refine blk_put (cs := #[.slice none 0 0, .int .i64 0]) ?_ 0 _ rfl; refine zM ?_; exact BK333.out⟩, ⟨zo HB⟩⟩
      ·replace c19 := Bool.eq_false_iff.mpr c19
       subst c19
       have H1 : (sequiturlaw29_EuclidSolves.j1 kj3 l0 a1 l2 true t327 t330) = some r := by rw [if_neg (show ¬ (false = true) by decide)] at H; exact H
       clear H; have H := H1; clear H1
       have H' := zK H; clear H
       go_wp2
       go_meet
       case rel => exact ⟨_, (true), (by first | rfl | (simp; done) | (simp [*]; done)), H', ⟨by have := HJ3.out; first | omega | exact Nat.le_refl _⟩, ⟨by (with_reducible repeat (first | apply Kd.S_alloc | apply Kd.S_drewN | apply Kd.S_drew)); exact Kd.S_mono (Kd.S_far (p := ⟨gb333, 1, none⟩) (Kd.S_far (p := ⟨gb333, 0, none⟩) (Kd.S_types HO329.out BK333.out (by decide)) (fun _ hk => hk.2) (.slice Ao16 t327.length co16)) (fun _ hk => hk.2) (.int .i64 t330)) (fun _ hk => trivial)⟩, ⟨by refine zM ?_; refine blk_put (cs := #[.slice Ao16 t327.length co16, .int .i64 0]) ?_ 1 _ rfl; refine zM ?_; refine blk_put (cs := #[.slice none 0 0, .int .i64 0]) ?_ 0 _ rfl; refine zM ?_; exact BK333.out⟩, ⟨zo HB⟩⟩
     ·rw [if_neg c18] at H
      have c18b0 : (t332 == 0) = false := beq_eq_false_iff_ne.mpr c18
      have c18b1 : (t332 != 0) = true := bne_iff_ne.mpr c18
      (first | rw [c18b0] | (simp only [i64_w, i32_w]; rw [c18b0]) | skip)
      have H' := zK H; clear H
      go_wp2
      go_meet
      case rel => exact ⟨_, (true), (by first | rfl | (simp; done) | (simp [*]; done)), H', ⟨by have := HJ3.out; first | omega | exact Nat.le_refl _⟩, ⟨by (with_reducible repeat (first | apply Kd.S_alloc | apply Kd.S_drewN | apply Kd.S_drew)); exact Kd.S_mono (Kd.S_far (p := ⟨gb333, 1, none⟩) (Kd.S_far (p := ⟨gb333, 0, none⟩) (Kd.S_types HO329.out BK333.out (by decide)) (fun _ hk => hk.2) (.slice Ao16 t327.length co16)) (fun _ hk => hk.2) (.int .i64 t330)) (fun _ hk => trivial)⟩, ⟨by refine zM ?_; refine blk_put (cs := #[.slice Ao16 t327.length co16, .int .i64 0]) ?_ 1 _ rfl; refine zM ?_; refine blk_put (cs := #[.slice none 0 0, .int .i64 0]) ?_ 0 _ rfl; refine zM ?_; exact BK333.out⟩, ⟨zo HB⟩⟩
    case rest =>
     clear HC13; try clear c1; try clear c2; try clear p2
     try clear c6; try clear c8; try clear c9; try clear c10
     try clear c15; try clear c18; try clear c18b0; try clear c18b1
     try clear c19; try clear hcz17_0; try clear hcz17_1; try clear hcz20_0
     try clear hcz20_1; try clear hfz17_0; try clear hfz17_1; try clear hfz20_0
     try clear hfz20_1; try clear p2
     obtain ⟨kq, x44_12, rfl, HA, HJ12, HO_334000, BK333, HB⟩ := hcut
     cases kq with
     | zero => exact absurd HA.out (by simp [sequiturlaw29_EuclidSolves.j1])
     | succ kj12 =>
      have H := HA.out; clear HA
      simp only [sequiturlaw29_EuclidSolves.j1] at H
      by_cases c21 : x44_12 = true
      ·subst c21
       have H1 : ((sequiturlaw29_alive.f kj12).bind fun t334 => (some t334)) = some r := by rw [if_pos rfl] at H; exact H
       clear H; have H := H1
       clear H1; replace H := zob H
       obtain ⟨t334, A220, H⟩ := H; replace H : (some t334) = some r := H
       have A22 := zK A220; clear A220
       obtain rfl := Option.some.inj H
       go_wp2_with (first | ((with_reducible refine zC (f := 10) rfl ?_); refine zGo (some 45) Try.func10 #[] ?_; (with_reducible refine (sequiturlaw29_alive.calls kj12  t334 _ A22.out).mono ?_); rintro e w23 ⟨rfl, hb⟩; refine ⟨_, rfl, ?_⟩; replace HO_334000 := zK (Kd.S_below (by (with_reducible repeat (first | apply Kd.S_alloc | apply Kd.S_drewN | apply Kd.S_drew)); exact HO_334000.out) hb); replace BK333 := zbb BK333 hb; replace HB := zst HB hb; clear hb))
       go_ret
       exact zR (h := zo HB)
      ·replace c21 := Bool.eq_false_iff.mpr c21
       subst c21
       have H1 : (if t330 < 0 then (sequiturlaw29_EuclidSolves.j2 kj12 l0 l2 true t327 t330) else (sequiturlaw29_EuclidSolves.j2 kj12 l0 l2 ((t327.length : Int) != a1) t327 t330)) = some r := by rw [if_neg (show ¬ (false = true) by decide)] at H; exact H
       clear H; have H := H1; clear H1
       have HC24 := zK H; clear H
       go_upto_region 6 with (fail)
       go_cut [55] (fun v55 wc => ∃ (kq : Nat) (x55_23 : Bool), v55 = .bool x55_23 ∧ Aside0 (sequiturlaw29_EuclidSolves.j2 kq l0 l2 x55_23 t327 t330 = some r) ∧ Aside0 (kq ≤ kj12) ∧ Aside0 (Kd.S k41 41 wc w.heap.size (fun _ => True) (.slice Ao16 t327.length co16) t327) ∧ Aside0 (wc.heap[gb333]? = some (.cells #[(.slice Ao16 t327.length co16), .int .i64 t330] 32 (0, 0))) ∧ Aside0 (Below w.heap.size w wc))
       case first =>
        have H := HC24.out; clear HC24
        by_cases c25 : t330 < 0
        ·rw [if_pos c25] at H
         have c25b0 : decide (t330 < 0) = true := decide_eq_true c25; clear c25
         (first | rw [c25b0] | (simp only [i64_w, i32_w]; rw [c25b0]) | skip)
         have H' := zK H; clear H
         have hcz26_0 := zc0 BK333
         have hcz26_1 := zc1 BK333
         have hfz26_0 := zfz BK333 0
         have hfz26_1 := zfz BK333 1
         go_wp2
         go_meet
         case rel => exact ⟨_, (true), (by first | rfl | (simp; done) | (simp [*]; done)), H', ⟨by have := HJ3.out; have := HJ12.out; first | omega | exact Nat.le_refl _⟩, ⟨by (with_reducible repeat (first | apply Kd.S_alloc | apply Kd.S_drewN | apply Kd.S_drew)); exact HO_334000.out⟩, ⟨zb BK333⟩, ⟨zo HB⟩⟩
        ·rw [if_neg c25] at H
         have c25b0 : decide (t330 < 0) = false := decide_eq_false c25; clear c25
         (first | rw [c25b0] | (simp only [i64_w, i32_w]; rw [c25b0]) | skip)
         have H' := zK H; clear H
         have hcz27_0 := zc0 BK333
         have hcz27_1 := zc1 BK333
         have hfz27_0 := zfz BK333 0
         have hfz27_1 := zfz BK333 1
         go_wp2
         go_meet
         case rel => exact ⟨_, (((t327.length : Int) != a1)), (by first | rfl | (simp; done) | (simp [*]; done)), H', ⟨by have := HJ3.out; have := HJ12.out; first | omega | exact Nat.le_refl _⟩, ⟨by (with_reducible repeat (first | apply Kd.S_alloc | apply Kd.S_drewN | apply Kd.S_drew)); exact HO_334000.out⟩, ⟨zb BK333⟩, ⟨zo HB⟩⟩
       case rest =>
        clear HC24; try clear c1; try clear c2; try clear p2
        try clear c6; try clear c8; try clear c9; try clear c10
        try clear c15; try clear c18; try clear c18b0; try clear c18b1
        try clear c19; try clear c21; try clear c25; try clear c25b0
        try clear hcz17_0; try clear hcz17_1; try clear hcz20_0; try clear hcz20_1
        try clear hcz26_0; try clear hcz26_1; try clear hcz27_0; try clear hcz27_1
        try clear hfz17_0; try clear hfz17_1; try clear hfz20_0; try clear hfz20_1
        try clear hfz26_0; try clear hfz26_1; try clear hfz27_0; try clear hfz27_1
        try clear p2
        obtain ⟨kq, x55_23, rfl, HA, HJ23, HO_334000, BK333, HB⟩ := hcut
        cases kq with
        | zero => exact absurd HA.out (by simp [sequiturlaw29_EuclidSolves.j2])
        | succ kj23 =>
         have H := HA.out; clear HA
         simp only [sequiturlaw29_EuclidSolves.j2] at H
         by_cases c28 : x55_23 = true
         ·subst c28
          have H1 : (none) = some r := by rw [if_pos rfl] at H; exact H
          clear H
          have H := H1; clear H1
          exact absurd H (by simp)
         ·replace c28 := Bool.eq_false_iff.mpr c28
          subst c28
          have H1 : (if 0 ≤ t330 then (if t330 ≤ (l2.length : Int) then ((euclid_Point.f kj23 t327 t330 (l2.take (t330 : Int).toNat)).bind fun bt336 => (if bt336.2 = 0 then (sequiturlaw29_EuclidSolves.l0 kj23 bt336.1 l0 (l0.length : Int) 0) else (if bt336.2 = 5 then ((sequiturlaw29_alive.f kj23).bind fun t340 => (some t340)) else (none)))) else (none)) else (none)) = some r := by rw [if_neg (show ¬ (false = true) by decide)] at H; exact H
          clear H; have H := H1; clear H1
          by_cases c29 : 0 ≤ t330
          ·rw [if_pos c29] at H
           have c29b0 := eq_true c29
           have c29b1 : decide (0 ≤ t330) = true := decide_eq_true c29; clear c29
           by_cases c30 : t330 ≤ (l2.length : Int)
           ·rw [if_pos c30] at H
            have c30b0 := eq_true c30
            have c30b1 : decide (t330 ≤ (l2.length : Int)) = true := decide_eq_true c30
            clear c30; replace H := zob H
            obtain ⟨⟨t336, t339⟩, A310, H⟩ := H
            replace H : (if t339 = 0 then (sequiturlaw29_EuclidSolves.l0 kj23 t336 l0 (l0.length : Int) 0) else (if t339 = 5 then ((sequiturlaw29_alive.f kj23).bind fun t340 => (some t340)) else (none))) = some r := H
            have A31 := zK A310; clear A310
            by_cases c32 : t339 = 0
            ·rw [if_pos c32] at H
             have c32b0 : (t339 == 0) = true := beq_iff_eq.mpr c32
             have c32b1 : (t339 != 0) = false := bne_eq_false_iff_eq.mpr c32; clear c32
             have H' := zK H; clear H
             try go_wp2
             replace HO_334000 := zK (Kd.S_drew HO_334000.out)
             replace BK333 := zK (zD BK333.out)
             replace HB := zK (yD HB.out)
             obtain ⟨i034, hi034, _, hsz34, _⟩ := info_parts info2
             obtain ⟨hcut34, hA34, hC34⟩ := print_take_of (P := Try.prog) (Value.int .i64) 0 23 2 .i64 Try.underlying23 hi034 hsz34 A2 c2 l2 t330 (zdt) (zdt) HC2.out
             have HR335 := zK (Kd.C_of_reads (h1 := fun _ => rfl) (hA34 _ (Kd.reads_of_C HR2.out)))
             have HC335 := zK hC34; clear hA34 hC34 hi034 hsz34
             refine start_ (n := 11) (S := fun w' => w'.cell? ⟨gb333, 0, none⟩ = some (.slice Ao16 t327.length co16) ∧ w'.cell? ⟨gb333, 1, none⟩ = some (.int .i64 t330)) (ds := []) #[F_,F_,F_,F_,F_,F_,F_,F_,F_,F_,F_] (by kernel_rfl) rfl rfl ⟨(blk_cell BK333.out 0).trans rfl, (blk_cell BK333.out 1).trans rfl⟩ (fun hHeld => ?_); refine with_tabW sequiturlaw29_EuclidSolves.tab8 sequiturlaw29_EuclidSolves.bits8 (fun HT_ HW_ => ?_)
             generalize wc.drew = w33 at HO_334000 BK333 HB HR335 hHeld ⊢
             refine zPu 1 58 #[F_,T_,F_,F_,F_,F_,F_,F_,F_,F_,F_] ?_
             refine zPu 2 59 #[F_,T_,T_,F_,F_,F_,F_,F_,F_,F_,F_] ?_
             refine zTk 0 57 #[T_,T_,T_,F_,F_,F_,F_,F_,F_,F_,F_] ?_
             refine zTk 3 60 #[T_,T_,T_,T_,F_,F_,F_,F_,F_,F_,F_] ?_
             refine zPu 4 61 #[T_,T_,T_,T_,T_,F_,F_,F_,F_,F_,F_] ?_
             refine one_ (i := 5) (N := some 62) #[T_,T_,T_,T_,T_,T_,F_,F_,F_,F_,F_] rfl rfl (one_of HT_.out (by kernel_rfl)) (by decide) (fun K hK => ?_)
             refine goes_ Try.func21 (by kernel_rfl) rfl #[.agg #[.slice Ao16 t327.length co16, .int .i64 t330], .slice A2 (l2.take (t330 : Int).toNat).length c2] (by rfl) rfl rfl (by (try simp only [List.map_toArray, List.map_cons, List.map_nil]); first | done | (rw [show (l2.take (t330 : Int).toNat).length = t330.toNat from (by rw [List.length_take]; have h_ : (t330 : Int) ≤ (l2.length : Int) := zdt; omega)] <;> rfl) | rfl | (simp only [List.length_drop, List.length_take]; rfl)) ?_
             with_reducible refine (euclid_Point.calls kj23 _ _ t327 t330 _ _ (l2.take (t330 : Int).toNat) t336 t339 _ ?side1 ?side2 ?side3 ?side4 A31.out).mono ?_
             (case side1 => repeat (first | exact (Kd.S_reads' HO_334000.out).2.2 | (with_reducible refine cA ?_ _) | (with_reducible refine cN ?_ _) | (with_reducible refine cD ?_)))
             (case side2 => exact (Kd.S_reads' HO_334000.out).2.1)
             (case side3 => repeat (first | exact (Kd.C_below HR335.out HB.out) | (with_reducible refine cA ?_ _) | (with_reducible refine cN ?_ _) | (with_reducible refine cD ?_)))
             (case side4 => exact HC335.out)
             rintro e w35 ⟨v337, rfl, ho0, hb⟩
             refine ⟨_, rfl, ?_⟩
             replace HO_334000 := zK (Kd.S_below (by (with_reducible repeat (first | apply Kd.S_alloc | apply Kd.S_drewN | apply Kd.S_drew)); exact HO_334000.out) hb)
             have HO338 := zK (Kd.R_lower ho0 (below_size (zo HB)))
             replace BK333 := zbb BK333 hb
             replace HB := zst HB hb
             (try clear hb); (try clear hb2); (try clear hk); (try clear hi)
             (try clear ho0)
             refine hK.out _ _ ⟨(blk_cell BK333.out 0).trans rfl, (blk_cell BK333.out 1).trans rfl⟩ (fun hHeld => ?_)
             clear hK K
             refine zNm 62 ?_
             refine zPu 6 56 #[T_,T_,T_,T_,T_,T_,T_,F_,F_,F_,F_] ?_
             refine zPu 7 63 #[T_,T_,T_,T_,T_,T_,T_,T_,F_,F_,F_] ?_
             refine zPu 8 64 #[T_,T_,T_,T_,T_,T_,T_,T_,T_,F_,F_] ?_
             refine zPu 9 10 #[T_,T_,T_,T_,T_,T_,T_,T_,T_,T_,F_] ?_
             refine zPu 10 11 #[T_,T_,T_,T_,T_,T_,T_,T_,T_,T_,T_] ?_
             refine done_ (done_of HT_.out (by kernel_rfl)) ?_
             try go_wp2
             go_loopg [74] kj23 (fun kq v74 w' => ∃ (x74_4 : Int), v74 = .int .i64 x74_4 ∧ Aside0 (sequiturlaw29_EuclidSolves.l0 kq t336 l0 (l0.length : Int) x74_4 = some r) ∧ Aside0 (kq ≤ kj23) ∧ Aside0 (Kd.R (Kd.int .i64) 2 w' w.heap.size (fun _ => True) v337 t336) ∧ Aside0 (Kd.S k41 41 w' w.heap.size (fun _ => True) (.slice Ao16 t327.length co16) t327) ∧ Aside0 (w'.heap[gb333]? = some (.cells #[(.slice Ao16 t327.length co16), .int .i64 t330] 32 (0, 0))) ∧ Aside0 (Below w.heap.size w w'))
             case atStart => exact ⟨(0), (by first | rfl | (simp; done) | (simp [*]; done)), H', ⟨Nat.le_refl _⟩, ⟨zr HO338⟩, ⟨by (with_reducible repeat (first | apply Kd.S_alloc | apply Kd.S_drewN | apply Kd.S_drew)); exact HO_334000.out⟩, ⟨zb BK333⟩, ⟨zo HB⟩⟩
             case round =>
              clear H'; try clear c1; try clear c2; try clear p2
              try clear c3; try clear c6; try clear c8; try clear c9
              try clear c10; try clear c15; try clear c18; try clear c18b0
              try clear c18b1; try clear c19; try clear c21; try clear c25
              try clear c25b0; try clear c28; try clear c29; try clear c29b0
              try clear c29b1; try clear c30; try clear c30b0; try clear c30b1
              try clear c32; try clear c32b0; try clear c32b1; try clear hcz17_0
              try clear hcz17_1; try clear hcz20_0; try clear hcz20_1; try clear hcz26_0
              try clear hcz26_1; try clear hcz27_0; try clear hcz27_1; try clear hfz17_0
              try clear hfz17_1; try clear hfz20_0; try clear hfz20_1; try clear hfz26_0
              try clear hfz26_1; try clear hfz27_0; try clear hfz27_1; try clear p2
              obtain ⟨x74_4, rfl, HA, HK4, HO_10, HO_334000, BK333, HB⟩ := hrel
              cases gk with
              | zero => exact absurd HA.out (by simp [sequiturlaw29_EuclidSolves.l0])
              | succ k4 =>
               have H := HA.out; clear HA
               simp only [sequiturlaw29_EuclidSolves.l0] at H
               by_cases c36 : x74_4 < (l0.length : Int)
               ·rw [if_pos c36] at H
                have c36b0 : decide (x74_4 < (l0.length : Int)) = true := decide_eq_true c36
                clear c36
                by_cases c37 : 0 ≤ x74_4
                ·rw [if_pos c37] at H
                 have c37b0 : decide (0 ≤ x74_4) = true := decide_eq_true c37; clear c37
                 by_cases c38 : x74_4 < (l0.length : Int)
                 ·rw [if_pos c38] at H
                  have c38b0 : decide (x74_4 < (l0.length : Int)) = true := decide_eq_true c38
                  clear c38; replace H := zob H
                  obtain ⟨⟨t343, t344⟩, A390, H⟩ := H
                  replace H : (if t344 = 0 then (if t343 = 0 then (sequiturlaw29_EuclidSolves.l0 k4 t336 l0 (l0.length : Int) (wrap64 (x74_4 + 1))) else (none)) else (if t344 = 5 then (sequiturlaw29_EuclidSolves.l0 k4 t336 l0 (l0.length : Int) (wrap64 (x74_4 + 1))) else (none))) = some r := H
                  have A39 := zK A390; clear A390
                  by_cases c40 : t344 = 0
                  ·rw [if_pos c40] at H
                   have c40b0 : (t344 == 0) = true := beq_iff_eq.mpr c40
                   have c40b1 : (t344 != 0) = false := bne_eq_false_iff_eq.mpr c40; clear c40
                   by_cases c41 : t343 = 0
                   ·rw [if_pos c41] at H
                    have c41b0 : (t343 == 0) = true := beq_iff_eq.mpr c41
                    have c41b1 : (t343 != 0) = false := bne_eq_false_iff_eq.mpr c41; clear c41
                    have H' := zK H; clear H
                    have p341 : 0 ≤ (x74_4 : Int) := zdt
                    have q341 : x74_4 < (l0.length : Int) := zdt
                    obtain ⟨ad341, A341_1, c341_1, e341, hx341_0, hx341_1, hl341_1, hi341_1⟩ := at_T41 HR0.out x74_4 p341 q341
                    cases e341
                    replace hx341_0 := zcl HB hx341_0
                    replace hx341_1 := zcl HB hx341_1
                    have HR341_1 := zK hi341_1
                    have HC341_1 := zK hl341_1; clear hi341_1 hl341_1
                    replace p341 := eq_true p341
                    replace q341 := eq_true q341
                    go_wp2_with (first | ((with_reducible refine gate_dst (N := 13) rfl ?_); (try (refine zG (by rfl) ?_; dsimp only)); refine zBox (cs := #[.int .i64 0, .slice none 0 0]) (t := 41) ?_; intro gb342 hg w42 hbox hb; replace HO_10 := zK (Kd.R_below (zr HO_10) hb); replace HO_334000 := zK (Kd.S_below (Kd.S_elderB (by (with_reducible repeat (first | apply Kd.S_alloc | apply Kd.S_drewN | apply Kd.S_drew)); exact HO_334000.out) gb342 (Nat.le_of_eq hg.symm)) hb); have BK342 := zK (hbox); have GW342 := zK ((by rw [hg]; exact (below_size (zo HB)) : w.heap.size ≤ gb342)); replace HB := zst HB hb; have NB333_342 := zn1 BK333 hg; have NB342_333 := zn2 BK333 hg; replace BK333 := zbb BK333 hb; clear hb hbox hg; have hnb43 := NB342_333.out; have hnc43 := NB333_342.out; have hcz44_0 := zc0 BK342; have hcz44_1 := zc1 BK342; have hfz44_0 := zfz BK342 0; have hfz44_1 := zfz BK342 1; obtain ⟨Ao45, co45, eo45⟩ := Kd.R_slice HO_10.out; subst eo45) | ((with_reducible refine zC (f := 22) rfl ?_); refine zGo (some 81) Try.func22 #[.agg #[.int .i64 ((rd_T41 l0 x74_4).f0), .slice A341_1 ((rd_T41 l0 x74_4).f1).length c341_1], .slice Ao45 t336.length co45] ?_; (with_reducible refine (lin_Eval.calls k4 ((rd_T41 l0 x74_4).f0) _ _ ((rd_T41 l0 x74_4).f1) _ _ t336 t343 t344 _ ?side1 ?side2 ?side3 ?side4 A39.out).mono ?_); (case side1 => exact Kd.C_below HR341_1.out (zo HB)); (case side2 => exact HC341_1.out); (case side3 => refine (Kd.R_reads' (e := 2) (base := w.heap.size) (ok := fun k_ => True) (n := t336.length) (c := co45) ?_).2.2; exact (by (with_reducible repeat (first | apply Kd.R_alloc | apply Kd.R_drewN | apply Kd.R_drew)); exact (Kd.R_mono (Kd.R_far (p := ⟨gb342, 1, none⟩) (Kd.R_far (p := ⟨gb342, 0, none⟩) (Kd.R_types HO_10.out BK342.out (by decide)) (fun _ hk => hk.2) (.int .i64 ((rd_T41 l0 x74_4).f0))) (fun _ hk => hk.2) (.slice A341_1 ((rd_T41 l0 x74_4).f1).length c341_1)) (fun _ h_ => h_.1)))); (case side4 => exact (Kd.R_reads' HO_10.out).2.1); rintro e w46 ⟨rfl, hb⟩; refine ⟨_, rfl, ?_⟩; replace HO_10 := zK (Kd.R_below (by (with_reducible repeat (first | apply Kd.R_alloc | apply Kd.R_drewN | apply Kd.R_drew)); exact (Kd.R_mono (Kd.R_far (p := ⟨gb342, 1, none⟩) (Kd.R_far (p := ⟨gb342, 0, none⟩) (Kd.R_types HO_10.out BK342.out (by decide)) (fun _ hk => hk.2) (.int .i64 ((rd_T41 l0 x74_4).f0))) (fun _ hk => hk.2) (.slice A341_1 ((rd_T41 l0 x74_4).f1).length c341_1)) (fun _ h_ => h_.1))) hb); replace HO_334000 := zK (Kd.S_below (by (with_reducible repeat (first | apply Kd.S_alloc | apply Kd.S_drewN | apply Kd.S_drew)); exact (Kd.S_mono (Kd.S_far (p := ⟨gb342, 1, none⟩) (Kd.S_far (p := ⟨gb342, 0, none⟩) (Kd.S_mono HO_334000.out (fun k_ hk => (⟨hk, hk.2⟩ : _ ∧ k_ ≠ gb342))) (fun _ hk => hk.2) (.int .i64 ((rd_T41 l0 x74_4).f0))) (fun _ hk => hk.2) (.slice A341_1 ((rd_T41 l0 x74_4).f1).length c341_1)) (fun _ h_ => h_.1))) hb); replace BK333 := zbb BK333 hb; replace BK342 := zK (blk_below (g := gb342) (o := .cells #[.int .i64 ((rd_T41 l0 x74_4).f0), .slice A341_1 ((rd_T41 l0 x74_4).f1).length c341_1] 41 (0, 0)) (by refine zM ?_; refine blk_put (cs := #[.int .i64 ((rd_T41 l0 x74_4).f0), .slice none 0 0]) ?_ 1 _ rfl; refine zM ?_; refine blk_put (cs := #[.int .i64 0, .slice none 0 0]) ?_ 0 _ rfl; refine zM ?_; exact BK342.out) hb); replace HB := zst HB hb; clear hb; (try clear hk)))
                    go_roundg k4
                    case measure => have := HJ3.out; have := HJ12.out; have := HJ23.out; have := HK4.out; omega
                    case rel => exact ⟨(wrap64 (x74_4 + 1)), (by first | rfl | (simp; done) | (simp [*]; done)), H', ⟨by have := HJ3.out; have := HJ12.out; have := HJ23.out; have := HK4.out; omega⟩, ⟨zr HO_10⟩, ⟨by (with_reducible repeat (first | apply Kd.S_alloc | apply Kd.S_drewN | apply Kd.S_drew)); exact Kd.S_mono HO_334000.out (fun _ hk => trivial)⟩, ⟨zb BK333⟩, ⟨zo HB⟩⟩
                   ·rw [if_neg c41] at H
                    exact absurd H (by simp)
                  ·rw [if_neg c40] at H
                   have c40b0 : (t344 == 0) = false := beq_eq_false_iff_ne.mpr c40
                   have c40b1 : (t344 != 0) = true := bne_iff_ne.mpr c40
                   by_cases c47 : t344 = 5
                   ·rw [if_pos c47] at H
                    have c47b0 : (t344 == 5) = true := beq_iff_eq.mpr c47
                    have c47b1 : (t344 != 5) = false := bne_eq_false_iff_eq.mpr c47; clear c47
                    have H' := zK H; clear H
                    have p341 : 0 ≤ (x74_4 : Int) := zdt
                    have q341 : x74_4 < (l0.length : Int) := zdt
                    obtain ⟨ad341, A341_1, c341_1, e341, hx341_0, hx341_1, hl341_1, hi341_1⟩ := at_T41 HR0.out x74_4 p341 q341
                    cases e341
                    replace hx341_0 := zcl HB hx341_0
                    replace hx341_1 := zcl HB hx341_1
                    have HR341_1 := zK hi341_1
                    have HC341_1 := zK hl341_1; clear hi341_1 hl341_1
                    replace p341 := eq_true p341
                    replace q341 := eq_true q341
                    go_wp2_with (first | ((with_reducible refine gate_dst (N := 13) rfl ?_); (try (refine zG (by rfl) ?_; dsimp only)); refine zBox (cs := #[.int .i64 0, .slice none 0 0]) (t := 41) ?_; intro gb342 hg w48 hbox hb; replace HO_10 := zK (Kd.R_below (zr HO_10) hb); replace HO_334000 := zK (Kd.S_below (Kd.S_elderB (by (with_reducible repeat (first | apply Kd.S_alloc | apply Kd.S_drewN | apply Kd.S_drew)); exact HO_334000.out) gb342 (Nat.le_of_eq hg.symm)) hb); have BK342 := zK (hbox); have GW342 := zK ((by rw [hg]; exact (below_size (zo HB)) : w.heap.size ≤ gb342)); replace HB := zst HB hb; have NB333_342 := zn1 BK333 hg; have NB342_333 := zn2 BK333 hg; replace BK333 := zbb BK333 hb; clear hb hbox hg; have hnb49 := NB342_333.out; have hnc49 := NB333_342.out; have hcz50_0 := zc0 BK342; have hcz50_1 := zc1 BK342; have hfz50_0 := zfz BK342 0; have hfz50_1 := zfz BK342 1; obtain ⟨Ao51, co51, eo51⟩ := Kd.R_slice HO_10.out; subst eo51) | ((with_reducible refine zC (f := 22) rfl ?_); refine zGo (some 81) Try.func22 #[.agg #[.int .i64 ((rd_T41 l0 x74_4).f0), .slice A341_1 ((rd_T41 l0 x74_4).f1).length c341_1], .slice Ao51 t336.length co51] ?_; (with_reducible refine (lin_Eval.calls k4 ((rd_T41 l0 x74_4).f0) _ _ ((rd_T41 l0 x74_4).f1) _ _ t336 t343 t344 _ ?side1 ?side2 ?side3 ?side4 A39.out).mono ?_); (case side1 => exact Kd.C_below HR341_1.out (zo HB)); (case side2 => exact HC341_1.out); (case side3 => refine (Kd.R_reads' (e := 2) (base := w.heap.size) (ok := fun k_ => True) (n := t336.length) (c := co51) ?_).2.2; exact (by (with_reducible repeat (first | apply Kd.R_alloc | apply Kd.R_drewN | apply Kd.R_drew)); exact (Kd.R_mono (Kd.R_far (p := ⟨gb342, 1, none⟩) (Kd.R_far (p := ⟨gb342, 0, none⟩) (Kd.R_types HO_10.out BK342.out (by decide)) (fun _ hk => hk.2) (.int .i64 ((rd_T41 l0 x74_4).f0))) (fun _ hk => hk.2) (.slice A341_1 ((rd_T41 l0 x74_4).f1).length c341_1)) (fun _ h_ => h_.1)))); (case side4 => exact (Kd.R_reads' HO_10.out).2.1); rintro e w52 ⟨rfl, hb⟩; refine ⟨_, rfl, ?_⟩; replace HO_10 := zK (Kd.R_below (by (with_reducible repeat (first | apply Kd.R_alloc | apply Kd.R_drewN | apply Kd.R_drew)); exact (Kd.R_mono (Kd.R_far (p := ⟨gb342, 1, none⟩) (Kd.R_far (p := ⟨gb342, 0, none⟩) (Kd.R_types HO_10.out BK342.out (by decide)) (fun _ hk => hk.2) (.int .i64 ((rd_T41 l0 x74_4).f0))) (fun _ hk => hk.2) (.slice A341_1 ((rd_T41 l0 x74_4).f1).length c341_1)) (fun _ h_ => h_.1))) hb); replace HO_334000 := zK (Kd.S_below (by (with_reducible repeat (first | apply Kd.S_alloc | apply Kd.S_drewN | apply Kd.S_drew)); exact (Kd.S_mono (Kd.S_far (p := ⟨gb342, 1, none⟩) (Kd.S_far (p := ⟨gb342, 0, none⟩) (Kd.S_mono HO_334000.out (fun k_ hk => (⟨hk, hk.2⟩ : _ ∧ k_ ≠ gb342))) (fun _ hk => hk.2) (.int .i64 ((rd_T41 l0 x74_4).f0))) (fun _ hk => hk.2) (.slice A341_1 ((rd_T41 l0 x74_4).f1).length c341_1)) (fun _ h_ => h_.1))) hb); replace BK333 := zbb BK333 hb; replace BK342 := zK (blk_below (g := gb342) (o := .cells #[.int .i64 ((rd_T41 l0 x74_4).f0), .slice A341_1 ((rd_T41 l0 x74_4).f1).length c341_1] 41 (0, 0)) (by refine zM ?_; refine blk_put (cs := #[.int .i64 ((rd_T41 l0 x74_4).f0), .slice none 0 0]) ?_ 1 _ rfl; refine zM ?_; refine blk_put (cs := #[.int .i64 0, .slice none 0 0]) ?_ 0 _ rfl; refine zM ?_; exact BK342.out) hb); replace HB := zst HB hb; clear hb; (try clear hk)))
                    go_roundg k4
                    case measure => have := HJ3.out; have := HJ12.out; have := HJ23.out; have := HK4.out; omega
                    case rel => exact ⟨(wrap64 (x74_4 + 1)), (by first | rfl | (simp; done) | (simp [*]; done)), H', ⟨by have := HJ3.out; have := HJ12.out; have := HJ23.out; have := HK4.out; omega⟩, ⟨zr HO_10⟩, ⟨by (with_reducible repeat (first | apply Kd.S_alloc | apply Kd.S_drewN | apply Kd.S_drew)); exact Kd.S_mono HO_334000.out (fun _ hk => trivial)⟩, ⟨zb BK333⟩, ⟨zo HB⟩⟩
                   ·rw [if_neg c47] at H
                    exact absurd H (by simp)
                 ·rw [if_neg c38] at H
                  exact absurd H (by simp)
                ·rw [if_neg c37] at H
                 exact absurd H (by simp)
               ·rw [if_neg c36] at H
                have c36b0 : decide (x74_4 < (l0.length : Int)) = false := decide_eq_false c36
                clear c36; replace H := zob H
                obtain ⟨t345, A530, H⟩ := H; replace H : (some t345) = some r := H
                have A53 := zK A530; clear A530
                obtain rfl := Option.some.inj H
                go_wp2_with (first | ((with_reducible refine zC (f := 10) rfl ?_); refine zGo (some 99) Try.func10 #[] ?_; (with_reducible refine (sequiturlaw29_alive.calls k4  t345 _ A53.out).mono ?_); rintro e w54 ⟨rfl, hb⟩; refine ⟨_, rfl, ?_⟩; replace HO_10 := zK (Kd.R_below (zr HO_10) hb); replace HO_334000 := zK (Kd.S_below (by (with_reducible repeat (first | apply Kd.S_alloc | apply Kd.S_drewN | apply Kd.S_drew)); exact HO_334000.out) hb); replace BK333 := zbb BK333 hb; replace HB := zst HB hb; clear hb))
                go_ret
                exact zR (h := zo HB)
            ·rw [if_neg c32] at H
             have c32b0 : (t339 == 0) = false := beq_eq_false_iff_ne.mpr c32
             have c32b1 : (t339 != 0) = true := bne_iff_ne.mpr c32
             by_cases c55 : t339 = 5
             ·rw [if_pos c55] at H
              have c55b0 : (t339 == 5) = true := beq_iff_eq.mpr c55
              have c55b1 : (t339 != 5) = false := bne_eq_false_iff_eq.mpr c55; clear c55
              replace H := zob H
              obtain ⟨t340, A560, H⟩ := H; replace H : (some t340) = some r := H
              have A56 := zK A560; clear A560
              obtain rfl := Option.some.inj H
              try go_wp2
              replace HO_334000 := zK (Kd.S_drew HO_334000.out)
              replace BK333 := zK (zD BK333.out)
              replace HB := zK (yD HB.out)
              obtain ⟨i058, hi058, _, hsz58, _⟩ := info_parts info2
              obtain ⟨hcut58, hA58, hC58⟩ := print_take_of (P := Try.prog) (Value.int .i64) 0 23 2 .i64 Try.underlying23 hi058 hsz58 A2 c2 l2 t330 (zdt) (zdt) HC2.out
              have HR335 := zK (Kd.C_of_reads (h1 := fun _ => rfl) (hA58 _ (Kd.reads_of_C HR2.out)))
              have HC335 := zK hC58; clear hA58 hC58 hi058 hsz58
              refine start_ (n := 11) (S := fun w' => w'.cell? ⟨gb333, 0, none⟩ = some (.slice Ao16 t327.length co16) ∧ w'.cell? ⟨gb333, 1, none⟩ = some (.int .i64 t330)) (ds := []) #[F_,F_,F_,F_,F_,F_,F_,F_,F_,F_,F_] (by kernel_rfl) rfl rfl ⟨(blk_cell BK333.out 0).trans rfl, (blk_cell BK333.out 1).trans rfl⟩ (fun hHeld => ?_); refine with_tabW sequiturlaw29_EuclidSolves.tab8 sequiturlaw29_EuclidSolves.bits8 (fun HT_ HW_ => ?_)
              generalize wc.drew = w57 at HO_334000 BK333 HB HR335 hHeld ⊢
              refine zPu 1 58 #[F_,T_,F_,F_,F_,F_,F_,F_,F_,F_,F_] ?_
              refine zPu 2 59 #[F_,T_,T_,F_,F_,F_,F_,F_,F_,F_,F_] ?_
              refine zTk 0 57 #[T_,T_,T_,F_,F_,F_,F_,F_,F_,F_,F_] ?_
              refine zTk 3 60 #[T_,T_,T_,T_,F_,F_,F_,F_,F_,F_,F_] ?_
              refine zPu 4 61 #[T_,T_,T_,T_,T_,F_,F_,F_,F_,F_,F_] ?_
              refine one_ (i := 5) (N := some 62) #[T_,T_,T_,T_,T_,T_,F_,F_,F_,F_,F_] rfl rfl (one_of HT_.out (by kernel_rfl)) (by decide) (fun K hK => ?_)
              refine goes_ Try.func21 (by kernel_rfl) rfl #[.agg #[.slice Ao16 t327.length co16, .int .i64 t330], .slice A2 (l2.take (t330 : Int).toNat).length c2] (by rfl) rfl rfl (by (try simp only [List.map_toArray, List.map_cons, List.map_nil]); first | done | (rw [show (l2.take (t330 : Int).toNat).length = t330.toNat from (by rw [List.length_take]; have h_ : (t330 : Int) ≤ (l2.length : Int) := zdt; omega)] <;> rfl) | rfl | (simp only [List.length_drop, List.length_take]; rfl)) ?_
              with_reducible refine (euclid_Point.calls kj23 _ _ t327 t330 _ _ (l2.take (t330 : Int).toNat) t336 t339 _ ?side1 ?side2 ?side3 ?side4 A31.out).mono ?_
              (case side1 => repeat (first | exact (Kd.S_reads' HO_334000.out).2.2 | (with_reducible refine cA ?_ _) | (with_reducible refine cN ?_ _) | (with_reducible refine cD ?_)))
              (case side2 => exact (Kd.S_reads' HO_334000.out).2.1)
              (case side3 => repeat (first | exact (Kd.C_below HR335.out HB.out) | (with_reducible refine cA ?_ _) | (with_reducible refine cN ?_ _) | (with_reducible refine cD ?_)))
              (case side4 => exact HC335.out)
              rintro e w59 ⟨v337, rfl, ho0, hb⟩
              refine ⟨_, rfl, ?_⟩
              replace HO_334000 := zK (Kd.S_below (by (with_reducible repeat (first | apply Kd.S_alloc | apply Kd.S_drewN | apply Kd.S_drew)); exact HO_334000.out) hb)
              have HO338 := zK (Kd.R_lower ho0 (below_size (zo HB)))
              replace BK333 := zbb BK333 hb
              replace HB := zst HB hb
              (try clear hb); (try clear hb2); (try clear hk); (try clear hi)
              (try clear ho0)
              refine hK.out _ _ ⟨(blk_cell BK333.out 0).trans rfl, (blk_cell BK333.out 1).trans rfl⟩ (fun hHeld => ?_)
              clear hK K
              refine zNm 62 ?_
              refine zPu 6 56 #[T_,T_,T_,T_,T_,T_,T_,F_,F_,F_,F_] ?_
              refine zPu 7 63 #[T_,T_,T_,T_,T_,T_,T_,T_,F_,F_,F_] ?_
              refine zPu 8 64 #[T_,T_,T_,T_,T_,T_,T_,T_,T_,F_,F_] ?_
              refine zPu 9 10 #[T_,T_,T_,T_,T_,T_,T_,T_,T_,T_,F_] ?_
              refine zPu 10 11 #[T_,T_,T_,T_,T_,T_,T_,T_,T_,T_,T_] ?_
              refine done_ (done_of HT_.out (by kernel_rfl)) ?_
              try go_wp2_with (first | (go_at_call 10; (with_reducible refine (sequiturlaw29_alive.calls kj23  t340 _ A56.out).mono ?_); rintro e w60 ⟨rfl, hb⟩; replace HO_334000 := zK (Kd.S_below (by (with_reducible repeat (first | apply Kd.S_alloc | apply Kd.S_drewN | apply Kd.S_drew)); exact HO_334000.out) hb); replace HO338 := zK (Kd.R_below (zr HO338) hb); replace BK333 := zbb BK333 hb; replace HB := zst HB hb; (try clear hb); (try clear hb2); (try clear hk); (try clear hi)))
              go_ret
              exact zR (h := zo HB)
             ·rw [if_neg c55] at H
              exact absurd H (by simp)
           ·rw [if_neg c30] at H
            exact absurd H (by simp)
          ·rw [if_neg c29] at H
           exact absurd H (by simp)

end Go.Proofs.Ytjinmlpekecmbaa.PEuclidSolves
