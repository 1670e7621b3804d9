/- What the call of each function that the law reaches comes to, and the law out of its plain form; no condition but what stands in each theorem. -/
import Derived.Test.YtjinmlpekecmbaaPEuclidNonex0
import Derived.Test.YtjinmlpekecmbaaPEuclidNonex4
namespace Go.Proofs.Ytjinmlpekecmbaa.PEuclidNone
open Go.RowKit Go.Proofs.YtjinmlpekecmbaaW.PrintWords Go.Proofs.YtjinmlpekecmbaaW.PrintLast Go.Proofs.YtjinmlpekecmbaaW.PrintMore
open Go.Proofs.YtjinmlpekecmbaaW.PrintWords renaming blk_drewN → zN, blk_drew → zD, blk_alloc → zA, below_alloc → yA, pw_below_drewN → yN, below_drew1 → yD, below_set → yS, gate_callee → zC
open Go.Proofs.YtjinmlpekecmbaaW.PrintWords.Aside0 renaming mk → zK
attribute [local go_sem] max2_int min2_int max_two min_two max_three min_three max_four min_four
set_option linter.unusedVariables false
set_option maxHeartbeats 8000000
set_option maxRecDepth 100000
set_option linter.unusedSimpArgs false

/-! ### euclid_witness: function 44 -/
mutual
def euclid_witness.j0 : Nat → Int → Bool → Bool → List Int → Int → Bool → Option (List Int × Int × Int)
 | 0, _, _, _, _, _, _ => none
 | k + 1, x9, x10, x29, x159000, x159001, x159002 => if x29 = true then ((num_Neg.f x9).bind fun bt161 => (euclid_witness.j1 k bt161.1 bt161.2 x159000 x159001 x159002)) else (euclid_witness.j1 k x9 x10 x159000 x159001 x159002)
def euclid_witness.j1 : Nat → Int → Bool → List Int → Int → Bool → Option (List Int × Int × Int)
 | 0, _, _, _, _, _ => none
 | k + 1, x9, x10, x159000, x159001, x159002 => if x10 = true then ((num_Add.f x9 1).bind fun bt163 => (if bt163.2 = true then (some (x159000, bt163.1, 0)) else (some (([] : List Int), 0, 5)))) else (some (([] : List Int), 0, 5))
end
def euclid_witness.f (k : Nat) (l0_0 : List Int) (a0_1 : Int) (a0_2 : Bool) (a1 : Int) (a2 : Int) : Option (List Int × Int × Int) := if a0_2 = true then (if a1 = 0 then ((num_Mul.f a2 a0_1).bind fun bt159 => (if bt159.2 = true then (euclid_witness.j0 k bt159.1 bt159.2 (decide (bt159.1 < 0)) l0_0 a0_1 a0_2) else (euclid_witness.j0 k bt159.1 bt159.2 false l0_0 a0_1 a0_2))) else (if a1 < 0 then ((num_Mul.f a0_1 (wrap64 (-a1))).bind fun bt165 => (if bt165.2 = true then (if (wrap64 (-a1)) < 0 then (some (([] : List Int), 0, 5)) else (some (l0_0, bt165.1, 0))) else (some (([] : List Int), 0, 5)))) else ((num_Mul.f a0_1 a1).bind fun bt167 => (if bt167.2 = true then (some (l0_0, bt167.1, 0)) else (some (([] : List Int), 0, 5)))))) else (some (([] : List Int), 0, 5))
theorem euclid_witness.mono_l : ∀ k, (∀ y0 y1 y2 y3 y4 y5, LeO (euclid_witness.j0 k y0 y1 y2 y3 y4 y5) (euclid_witness.j0 (k + 1) y0 y1 y2 y3 y4 y5)) ∧ (∀ y0 y1 y2 y3 y4, LeO (euclid_witness.j1 k y0 y1 y2 y3 y4) (euclid_witness.j1 (k + 1) y0 y1 y2 y3 y4))
 | 0 => ⟨fun _ _ _ _ _ _ r h => by simp [euclid_witness.j0] at h, fun _ _ _ _ _ r h => by simp [euclid_witness.j1] at h⟩
 | k + 1 => by
  obtain ⟨ih0, ih1⟩ := euclid_witness.mono_l k
  refine ⟨?_, ?_⟩ <;> intros <;> first | unfold euclid_witness.j0 | unfold euclid_witness.j1
  all_goals repeat' first | (with_reducible first | exact ih0 .. | exact ih1 .. | exact LeO.refl _ | exact LeO.none _ | refine LeO.ite ?_ ?_ | refine LeO.bind ?_ (fun _ => ?_)) | exact ih0 .. | exact ih1 .. | exact LeO.none _ | refine LeO.ite ?_ ?_ | refine LeO.bind ?_ (fun _ => ?_)
theorem euclid_witness.mono : ∀ a0 a1 a2 a3 a4 k, LeO (euclid_witness.f k a0 a1 a2 a3 a4) (euclid_witness.f (k + 1) a0 a1 a2 a3 a4) := by
 intro a0 a1 a2 a3 a4 k
 obtain ⟨ih0, ih1⟩ := euclid_witness.mono_l k
 unfold euclid_witness.f
 repeat' first | (with_reducible first | exact ih0 .. | exact ih1 .. | exact LeO.refl _ | exact LeO.none _ | refine LeO.ite ?_ ?_ | refine LeO.bind ?_ (fun _ => ?_)) | exact ih0 .. | exact ih1 .. | exact LeO.none _ | refine LeO.ite ?_ ?_ | refine LeO.bind ?_ (fun _ => ?_)
theorem euclid_witness.calls (k : Nat) (P0_0_ : Nat → Prop) (u9000_ : Value) (l0_0 : List Int) (a0_1 : Int) (a0_2 : Bool) (a1 : Int) (a2 : Int) (r1 : List Int) (r2 : Int) (r3 : Int) (w0 w : World) (hB : Below w0.heap.size w0 w) (ho0_0 : Kd.R (Kd.int .i64) 2 w w0.heap.size P0_0_ u9000_ l0_0) (h : euclid_witness.f k l0_0 a0_1 a0_2 a1 a2 = some (r1, r2, r3)) :
  Calls Try.prog 44 #[.agg #[u9000_, .int .i64 a0_1, .bool a0_2], .int .i64 a1, .int .i64 a2] w fun e w' => ∃ v0_ : Value, e = .returned (.tuple #[v0_, .int .i64 r2, .int .i64 r3]) ∧ Kd.R (Kd.int .i64) 2 w' w0.heap.size (fun k_ => (P0_0_ k_ ∨ w.heap.size ≤ k_)) v0_ r1 ∧ Below w0.heap.size w0 w' ∧ Kept w w' (fun k_ => P0_0_ k_) := by
 have hu88 := Try.underlying88
 have HO0_0 := zK (show Kd.R (Kd.int .i64) 2 w w0.heap.size (fun k_ => (P0_0_ k_ ∨ w.heap.size ≤ k_)) u9000_ l0_0 from Kd.R_mono ho0_0 (fun k_ hk => (.inl hk)))
 have HK := zK (Kept.refl w (fun k_ => P0_0_ k_))
 have HW0 := zK hB.size
 have HB := zK hB; clear hB
 have H : (if a0_2 = true then (if a1 = 0 then ((num_Mul.f a2 a0_1).bind fun bt159 => (if bt159.2 = true then (euclid_witness.j0 k bt159.1 bt159.2 (decide (bt159.1 < 0)) l0_0 a0_1 a0_2) else (euclid_witness.j0 k bt159.1 bt159.2 false l0_0 a0_1 a0_2))) else (if a1 < 0 then ((num_Mul.f a0_1 (wrap64 (-a1))).bind fun bt165 => (if bt165.2 = true then (if (wrap64 (-a1)) < 0 then (some (([] : List Int), 0, 5)) else (some (l0_0, bt165.1, 0))) else (some (([] : List Int), 0, 5)))) else ((num_Mul.f a0_1 a1).bind fun bt167 => (if bt167.2 = true then (some (l0_0, bt167.1, 0)) else (some (([] : List Int), 0, 5)))))) else (some (([] : List Int), 0, 5))) = some (r1, r2, r3) := h
 clear h
 by_cases c4 : a0_2 = true
 ·subst c4
  have H1 : (if a1 = 0 then ((num_Mul.f a2 a0_1).bind fun bt159 => (if bt159.2 = true then (euclid_witness.j0 k bt159.1 bt159.2 (decide (bt159.1 < 0)) l0_0 a0_1 true) else (euclid_witness.j0 k bt159.1 bt159.2 false l0_0 a0_1 true))) else (if a1 < 0 then ((num_Mul.f a0_1 (wrap64 (-a1))).bind fun bt165 => (if bt165.2 = true then (if (wrap64 (-a1)) < 0 then (some (([] : List Int), 0, 5)) else (some (l0_0, bt165.1, 0))) else (some (([] : List Int), 0, 5)))) else ((num_Mul.f a0_1 a1).bind fun bt167 => (if bt167.2 = true then (some (l0_0, bt167.1, 0)) else (some (([] : List Int), 0, 5)))))) = some (r1, r2, r3) := by rw [if_pos rfl] at H; exact H
  clear H; have H := H1; clear H1
  by_cases c5 : a1 = 0
  ·rw [if_pos c5] at H
   have c5b0 : (a1 == 0) = true := beq_iff_eq.mpr c5
   have c5b1 : (a1 != 0) = false := bne_eq_false_iff_eq.mpr c5; clear c5
   replace H := zob H
   obtain ⟨⟨t159, t160⟩, A60, H⟩ := H
   replace H : (if t160 = true then (euclid_witness.j0 k t159 t160 (decide (t159 < 0)) l0_0 a0_1 true) else (euclid_witness.j0 k t159 t160 false l0_0 a0_1 true)) = some (r1, r2, r3) := H
   have A6 := zK A60; clear A60
   have HC7 := zK H; clear H
   obtain ⟨Ao8, co8, eo8⟩ := Kd.R_slice HO0_0.out
   subst eo8
   go_enter Try.func44, Try.ntmps44
   go_upto_region 5 with (first | ((with_reducible refine gate_dst (N := 3) rfl ?_); refine zBox (cs := #[.slice Ao8 l0_0.length co8, .int .i64 a0_1, .bool true]) (t := 88) ?_; intro gb158 hg w9 hbox hb; replace HO0_0 := zK (Kd.R_below (zr HO0_0) hb); have BK158 := zK (hbox); have GW158 := zK ((by rw [hg]; exact (by first | exact HK.out.1 | exact (show Kept w _ (fun k_ => P0_0_ k_) from by repeat (first | (with_reducible first | exact HK.out | apply Kept.alloc | apply Kept.drewN | apply Kept.drew) | exact HK.out)).1) : w.heap.size ≤ gb158)); replace HK := zK (Kept.below (S := (fun k_ => P0_0_ k_)) (by repeat (first | (with_reducible first | exact HK.out | apply Kept.alloc | apply Kept.drewN | apply Kept.drew) | exact HK.out)) hb); have GW158 := zK ((by rw [hg]; exact (below_size (zo HB)) : w0.heap.size ≤ gb158)); replace HB := zst HB hb; clear hb hbox hg; have hcz10_0 := zc0 BK158; have hcz10_1 := zc1 BK158; have hcz10_2 := zc2 BK158; have hfz10_0 := zfz BK158 0; have hfz10_1 := zfz BK158 1; have hfz10_2 := zfz BK158 2) | ((with_reducible refine zC (f := 64) rfl ?_); refine zGo (some 22) Try.func64 #[.int .i64 a2, .int .i64 a0_1] ?_; (with_reducible refine (num_Mul.calls a2 a0_1 t159 t160 _ A6.out).mono ?_); rintro e w' ⟨rfl, ⟨nd, rfl⟩⟩; refine ⟨_, rfl, ?_⟩))
   (try simp only [Act.put, List.setIfInBounds_toArray, List.set_cons_zero, List.set_cons_succ])
   go_cut [29] (fun v29 wc => ∃ (kq : Nat) (x29_6 : Bool), v29 = .bool x29_6 ∧ Aside0 (euclid_witness.j0 kq t159 t160 x29_6 l0_0 a0_1 true = some (r1, r2, r3)) ∧ Aside0 (kq ≤ k) ∧ Aside0 (Kd.R (Kd.int .i64) 2 wc w0.heap.size (fun k_ => (P0_0_ k_ ∨ w.heap.size ≤ k_)) (.slice Ao8 l0_0.length co8) l0_0) ∧ Aside0 (wc.heap[gb158]? = some (.cells #[(.slice Ao8 l0_0.length co8), .int .i64 a0_1, .bool true] 88 (0, 0))) ∧ Aside0 (Kept w wc (fun k_ => P0_0_ k_)) ∧ Aside0 (Below w0.heap.size w0 wc))
   case first =>
    have H := HC7.out; clear HC7
    by_cases c11 : t160 = true
    ·subst c11
     have H1 : (euclid_witness.j0 k t159 true (decide (t159 < 0)) l0_0 a0_1 true) = some (r1, r2, r3) := by rw [if_pos rfl] at H; exact H
     clear H; have H := H1; clear H1
     have H' := zK H; clear H
     go_wp2
     go_meet
     case rel => exact ⟨_, (decide (t159 < 0)), (by first | rfl | (simp; done) | (simp [*]; done)), H', ⟨by first | omega | exact Nat.le_refl _⟩, ⟨zr HO0_0⟩, ⟨zb BK158⟩, ⟨by repeat (first | (with_reducible first | exact HK.out | apply Kept.alloc | apply Kept.drewN | apply Kept.drew | refine Kept.setCell ?_ (.inr GW158.out) _) | exact HK.out)⟩, ⟨zo HB⟩⟩
    ·replace c11 := Bool.eq_false_iff.mpr c11
     subst c11
     have H1 : (euclid_witness.j0 k t159 false false l0_0 a0_1 true) = some (r1, r2, r3) := by rw [if_neg (show ¬ (false = true) by decide)] at H; exact H
     clear H; have H := H1; clear H1
     have H' := zK H; clear H
     go_wp2
     go_meet
     case rel => exact ⟨_, (false), (by first | rfl | (simp; done) | (simp [*]; done)), H', ⟨by first | omega | exact Nat.le_refl _⟩, ⟨zr HO0_0⟩, ⟨zb BK158⟩, ⟨by repeat (first | (with_reducible first | exact HK.out | apply Kept.alloc | apply Kept.drewN | apply Kept.drew | refine Kept.setCell ?_ (.inr GW158.out) _) | exact HK.out)⟩, ⟨zo HB⟩⟩
   case rest =>
    clear HC7; try clear c1; try clear p2; try clear c4
    try clear c5; try clear c5b0; try clear c5b1; try clear c6
    try clear p6; try clear c11; try clear hcz10_0; try clear hcz10_1
    try clear hcz10_2; try clear hfz10_0; try clear hfz10_1; try clear hfz10_2
    obtain ⟨kq, x29_6, rfl, HA, HJ6, HO_159000, BK158, HK, HB⟩ := hcut
    cases kq with
    | zero => exact absurd HA.out (by simp [euclid_witness.j0])
    | succ kj6 =>
     have H := HA.out; clear HA
     simp only [euclid_witness.j0] at H
     have HC12 := zK H; clear H
     go_upto_if 29 with (fail)
     go_cut [9, 10] (fun v9 v10 wc => ∃ (kq : Nat) (x9_11 : Int) (x10_11 : Bool), v9 = .int .i64 x9_11 ∧ v10 = .bool x10_11 ∧ Aside0 (euclid_witness.j1 kq x9_11 x10_11 l0_0 a0_1 true = some (r1, r2, r3)) ∧ Aside0 (kq ≤ kj6) ∧ Aside0 (Kd.R (Kd.int .i64) 2 wc w0.heap.size (fun k_ => (P0_0_ k_ ∨ w.heap.size ≤ k_)) (.slice Ao8 l0_0.length co8) l0_0) ∧ Aside0 (wc.heap[gb158]? = some (.cells #[(.slice Ao8 l0_0.length co8), .int .i64 a0_1, .bool true] 88 (0, 0))) ∧ Aside0 (Kept w wc (fun k_ => P0_0_ k_)) ∧ Aside0 (Below w0.heap.size w0 wc))
     case first =>
      have H := HC12.out; clear HC12
      by_cases c13 : x29_6 = true
      ·subst c13
       have H1 : ((num_Neg.f t159).bind fun bt161 => (euclid_witness.j1 kj6 bt161.1 bt161.2 l0_0 a0_1 true)) = some (r1, r2, r3) := by rw [if_pos rfl] at H; exact H
       clear H; have H := H1
       clear H1; replace H := zob H
       obtain ⟨⟨t161, t162⟩, A140, H⟩ := H
       replace H : (euclid_witness.j1 kj6 t161 t162 l0_0 a0_1 true) = some (r1, r2, r3) := H
       have A14 := zK A140; clear A140
       have H' := zK H; clear H
       go_wp2_with (first | ((with_reducible refine zC (f := 59) rfl ?_); refine zGo (some 32) Try.func59 #[.int .i64 t159] ?_; (with_reducible refine (num_Neg.calls t159 t161 t162 _ A14.out).mono ?_); rintro e w' ⟨rfl, ⟨nd, rfl⟩⟩; refine ⟨_, rfl, ?_⟩))
       go_meet
       case rel => exact ⟨_, (t161), (t162), (by first | rfl | (simp; done) | (simp [*]; done)), (by first | rfl | (simp; done) | (simp [*]; done)), H', ⟨by have := HJ6.out; first | omega | exact Nat.le_refl _⟩, ⟨zr HO_159000⟩, ⟨zb BK158⟩, ⟨by repeat (first | (with_reducible first | exact HK.out | apply Kept.alloc | apply Kept.drewN | apply Kept.drew | refine Kept.setCell ?_ (.inr GW158.out) _) | exact HK.out)⟩, ⟨zo HB⟩⟩
      ·replace c13 := Bool.eq_false_iff.mpr c13
       subst c13
       have H1 : (euclid_witness.j1 kj6 t159 t160 l0_0 a0_1 true) = some (r1, r2, r3) := by rw [if_neg (show ¬ (false = true) by decide)] at H; exact H
       clear H; have H := H1; clear H1
       have H' := zK H; clear H
       go_wp2
       go_meet
       case rel => exact ⟨_, (t159), (t160), (by first | rfl | (simp; done) | (simp [*]; done)), (by first | rfl | (simp; done) | (simp [*]; done)), H', ⟨by have := HJ6.out; first | omega | exact Nat.le_refl _⟩, ⟨zr HO_159000⟩, ⟨zb BK158⟩, ⟨by repeat (first | (with_reducible first | exact HK.out | apply Kept.alloc | apply Kept.drewN | apply Kept.drew | refine Kept.setCell ?_ (.inr GW158.out) _) | exact HK.out)⟩, ⟨zo HB⟩⟩
     case rest =>
      clear HC12; try clear c1; try clear p2; try clear c4
      try clear c5; try clear c5b0; try clear c5b1; try clear c6
      try clear p6; try clear c11; try clear c13; try clear hcz10_0
      try clear hcz10_1; try clear hcz10_2; try clear hfz10_0; try clear hfz10_1
      try clear hfz10_2; try clear p2; try clear p6
      obtain ⟨kq, x9_11, x10_11, rfl, rfl, HA, HJ11, HO_159000, BK158, HK, HB⟩ := hcut
      cases kq with
      | zero => exact absurd HA.out (by simp [euclid_witness.j1])
      | succ kj11 =>
       have H := HA.out; clear HA
       simp only [euclid_witness.j1] at H
       by_cases c15 : x10_11 = true
       ·subst c15
        have H1 : ((num_Add.f x9_11 1).bind fun bt163 => (if bt163.2 = true then (some (l0_0, bt163.1, 0)) else (some (([] : List Int), 0, 5)))) = some (r1, r2, r3) := by rw [if_pos rfl] at H; exact H
        clear H; have H := H1
        clear H1; replace H := zob H
        obtain ⟨⟨t163, t164⟩, A160, H⟩ := H
        replace H : (if t164 = true then (some (l0_0, t163, 0)) else (some (([] : List Int), 0, 5))) = some (r1, r2, r3) := H
        have A16 := zK A160; clear A160
        by_cases c17 : t164 = true
        ·subst c17
         have H1 : (some (l0_0, t163, 0)) = some (r1, r2, r3) := by rw [if_pos rfl] at H; exact H
         clear H; have H := H1; clear H1
         simp only [Option.some.injEq, Prod.mk.injEq] at H
         obtain ⟨rfl, rfl, rfl⟩ := H
         go_wp2_with (first | ((with_reducible refine zC (f := 65) rfl ?_); refine zGo (some 38) Try.func65 #[.int .i64 x9_11, .int .i64 1] ?_; (with_reducible refine (num_Add.calls x9_11 1 t163 true _ A16.out).mono ?_); rintro e w' ⟨rfl, ⟨nd, rfl⟩⟩; refine ⟨_, rfl, ?_⟩; have hcz18_0 := zc0 BK158; have hcz18_1 := zc1 BK158; have hcz18_2 := zc2 BK158; have hfz18_0 := zfz BK158 0; have hfz18_1 := zfz BK158 1; have hfz18_2 := zfz BK158 2))
         go_ret3
         exact ⟨_, by first | rfl | (simp [errW_none, errW_some] <;> rfl) | (simp [*, errW_none, errW_some] <;> rfl), by (with_reducible repeat (first | apply Kd.R_alloc | apply Kd.R_drewN | apply Kd.R_drew)); exact HO_159000.out, zo HB, by repeat (first | (with_reducible first | exact HK.out | apply Kept.alloc | apply Kept.drewN | apply Kept.drew | refine Kept.setCell ?_ (.inr GW158.out) _) | exact HK.out)⟩
        ·replace c17 := Bool.eq_false_iff.mpr c17
         subst c17
         have H1 : (some (([] : List Int), 0, 5)) = some (r1, r2, r3) := by rw [if_neg (show ¬ (false = true) by decide)] at H; exact H
         clear H; have H := H1; clear H1
         simp only [Option.some.injEq, Prod.mk.injEq] at H
         obtain ⟨rfl, rfl, rfl⟩ := H
         go_wp2_with (first | ((with_reducible refine zC (f := 65) rfl ?_); refine zGo (some 38) Try.func65 #[.int .i64 x9_11, .int .i64 1] ?_; (with_reducible refine (num_Add.calls x9_11 1 t163 false _ A16.out).mono ?_); rintro e w' ⟨rfl, ⟨nd, rfl⟩⟩; refine ⟨_, rfl, ?_⟩))
         go_ret3
         exact ⟨_, zR (h := zL (h := ⟨zo HB, by repeat (first | (with_reducible first | exact HK.out | apply Kept.alloc | apply Kept.drewN | apply Kept.drew | refine Kept.setCell ?_ (.inr GW158.out) _) | exact HK.out)⟩))⟩
       ·replace c15 := Bool.eq_false_iff.mpr c15
        subst c15
        have H1 : (some (([] : List Int), 0, 5)) = some (r1, r2, r3) := by rw [if_neg (show ¬ (false = true) by decide)] at H; exact H
        clear H; have H := H1; clear H1
        simp only [Option.some.injEq, Prod.mk.injEq] at H
        obtain ⟨rfl, rfl, rfl⟩ := H
        go_wp2
        go_ret3
        exact ⟨_, zR (h := zL (h := ⟨zo HB, by repeat (first | (with_reducible first | exact HK.out | apply Kept.alloc | apply Kept.drewN | apply Kept.drew | refine Kept.setCell ?_ (.inr GW158.out) _) | exact HK.out)⟩))⟩
  ·rw [if_neg c5] at H
   have c5b0 : (a1 == 0) = false := beq_eq_false_iff_ne.mpr c5
   have c5b1 : (a1 != 0) = true := bne_iff_ne.mpr c5
   by_cases c19 : a1 < 0
   ·rw [if_pos c19] at H
    have c19b0 : decide (a1 < 0) = true := decide_eq_true c19; clear c19
    replace H := zob H
    obtain ⟨⟨t165, t166⟩, A200, H⟩ := H
    replace H : (if t166 = true then (if (wrap64 (-a1)) < 0 then (some (([] : List Int), 0, 5)) else (some (l0_0, t165, 0))) else (some (([] : List Int), 0, 5))) = some (r1, r2, r3) := H
    have A20 := zK A200; clear A200
    by_cases c21 : t166 = true
    ·subst c21
     have H1 : (if (wrap64 (-a1)) < 0 then (some (([] : List Int), 0, 5)) else (some (l0_0, t165, 0))) = some (r1, r2, r3) := by rw [if_pos rfl] at H; exact H
     clear H; have H := H1; clear H1
     by_cases c22 : (wrap64 (-a1)) < 0
     ·rw [if_pos c22] at H
      have c22b0 : decide ((wrap64 (-a1)) < 0) = true := decide_eq_true c22
      clear c22
      simp only [Option.some.injEq, Prod.mk.injEq] at H
      obtain ⟨rfl, rfl, rfl⟩ := H
      obtain ⟨Ao23, co23, eo23⟩ := Kd.R_slice HO0_0.out
      subst eo23
      go_enter Try.func44, Try.ntmps44
      go_wp2_with (first | ((with_reducible refine gate_dst (N := 3) rfl ?_); refine zBox (cs := #[.slice Ao23 l0_0.length co23, .int .i64 a0_1, .bool true]) (t := 88) ?_; intro gb158 hg w24 hbox hb; replace HO0_0 := zK (Kd.R_below (zr HO0_0) hb); have BK158 := zK (hbox); have GW158 := zK ((by rw [hg]; exact (by first | exact HK.out.1 | exact (show Kept w _ (fun k_ => P0_0_ k_) from by repeat (first | (with_reducible first | exact HK.out | apply Kept.alloc | apply Kept.drewN | apply Kept.drew) | exact HK.out)).1) : w.heap.size ≤ gb158)); replace HK := zK (Kept.below (S := (fun k_ => P0_0_ k_)) (by repeat (first | (with_reducible first | exact HK.out | apply Kept.alloc | apply Kept.drewN | apply Kept.drew) | exact HK.out)) hb); have GW158 := zK ((by rw [hg]; exact (below_size (zo HB)) : w0.heap.size ≤ gb158)); replace HB := zst HB hb; clear hb hbox hg; have hcz25_0 := zc0 BK158; have hcz25_1 := zc1 BK158; have hcz25_2 := zc2 BK158; have hfz25_0 := zfz BK158 0; have hfz25_1 := zfz BK158 1; have hfz25_2 := zfz BK158 2) | ((with_reducible refine zC (f := 64) rfl ?_); refine zGo (some 54) Try.func64 #[.int .i64 a0_1, .int .i64 (wrap64 (-a1))] ?_; (with_reducible refine (num_Mul.calls a0_1 (wrap64 (-a1)) t165 true _ A20.out).mono ?_); rintro e w' ⟨rfl, ⟨nd, rfl⟩⟩; refine ⟨_, rfl, ?_⟩))
      go_ret3
      exact ⟨_, zR (h := zL (h := ⟨zo HB, by repeat (first | (with_reducible first | exact HK.out | apply Kept.alloc | apply Kept.drewN | apply Kept.drew | refine Kept.setCell ?_ (.inr GW158.out) _) | exact HK.out)⟩))⟩
     ·rw [if_neg c22] at H
      have c22b0 : decide ((wrap64 (-a1)) < 0) = false := decide_eq_false c22
      clear c22
      simp only [Option.some.injEq, Prod.mk.injEq] at H
      obtain ⟨rfl, rfl, rfl⟩ := H
      obtain ⟨Ao26, co26, eo26⟩ := Kd.R_slice HO0_0.out
      subst eo26
      go_enter Try.func44, Try.ntmps44
      go_wp2_with (first | ((with_reducible refine gate_dst (N := 3) rfl ?_); refine zBox (cs := #[.slice Ao26 l0_0.length co26, .int .i64 a0_1, .bool true]) (t := 88) ?_; intro gb158 hg w27 hbox hb; replace HO0_0 := zK (Kd.R_below (zr HO0_0) hb); have BK158 := zK (hbox); have GW158 := zK ((by rw [hg]; exact (by first | exact HK.out.1 | exact (show Kept w _ (fun k_ => P0_0_ k_) from by repeat (first | (with_reducible first | exact HK.out | apply Kept.alloc | apply Kept.drewN | apply Kept.drew) | exact HK.out)).1) : w.heap.size ≤ gb158)); replace HK := zK (Kept.below (S := (fun k_ => P0_0_ k_)) (by repeat (first | (with_reducible first | exact HK.out | apply Kept.alloc | apply Kept.drewN | apply Kept.drew) | exact HK.out)) hb); have GW158 := zK ((by rw [hg]; exact (below_size (zo HB)) : w0.heap.size ≤ gb158)); replace HB := zst HB hb; clear hb hbox hg; have hcz28_0 := zc0 BK158; have hcz28_1 := zc1 BK158; have hcz28_2 := zc2 BK158; have hfz28_0 := zfz BK158 0; have hfz28_1 := zfz BK158 1; have hfz28_2 := zfz BK158 2) | ((with_reducible refine zC (f := 64) rfl ?_); refine zGo (some 54) Try.func64 #[.int .i64 a0_1, .int .i64 (wrap64 (-a1))] ?_; (with_reducible refine (num_Mul.calls a0_1 (wrap64 (-a1)) t165 true _ A20.out).mono ?_); rintro e w' ⟨rfl, ⟨nd, rfl⟩⟩; refine ⟨_, rfl, ?_⟩))
      go_ret3
      exact ⟨_, by first | rfl | (simp [errW_none, errW_some] <;> rfl) | (simp [*, errW_none, errW_some] <;> rfl), by (with_reducible repeat (first | apply Kd.R_alloc | apply Kd.R_drewN | apply Kd.R_drew)); exact HO0_0.out, zo HB, by repeat (first | (with_reducible first | exact HK.out | apply Kept.alloc | apply Kept.drewN | apply Kept.drew | refine Kept.setCell ?_ (.inr GW158.out) _) | exact HK.out)⟩
    ·replace c21 := Bool.eq_false_iff.mpr c21
     subst c21
     have H1 : (some (([] : List Int), 0, 5)) = some (r1, r2, r3) := by rw [if_neg (show ¬ (false = true) by decide)] at H; exact H
     clear H; have H := H1; clear H1
     simp only [Option.some.injEq, Prod.mk.injEq] at H
     obtain ⟨rfl, rfl, rfl⟩ := H
     obtain ⟨Ao29, co29, eo29⟩ := Kd.R_slice HO0_0.out
     subst eo29
     go_enter Try.func44, Try.ntmps44
     go_wp2_with (first | ((with_reducible refine gate_dst (N := 3) rfl ?_); refine zBox (cs := #[.slice Ao29 l0_0.length co29, .int .i64 a0_1, .bool true]) (t := 88) ?_; intro gb158 hg w30 hbox hb; replace HO0_0 := zK (Kd.R_below (zr HO0_0) hb); have BK158 := zK (hbox); have GW158 := zK ((by rw [hg]; exact (by first | exact HK.out.1 | exact (show Kept w _ (fun k_ => P0_0_ k_) from by repeat (first | (with_reducible first | exact HK.out | apply Kept.alloc | apply Kept.drewN | apply Kept.drew) | exact HK.out)).1) : w.heap.size ≤ gb158)); replace HK := zK (Kept.below (S := (fun k_ => P0_0_ k_)) (by repeat (first | (with_reducible first | exact HK.out | apply Kept.alloc | apply Kept.drewN | apply Kept.drew) | exact HK.out)) hb); have GW158 := zK ((by rw [hg]; exact (below_size (zo HB)) : w0.heap.size ≤ gb158)); replace HB := zst HB hb; clear hb hbox hg; have hcz31_0 := zc0 BK158; have hcz31_1 := zc1 BK158; have hcz31_2 := zc2 BK158; have hfz31_0 := zfz BK158 0; have hfz31_1 := zfz BK158 1; have hfz31_2 := zfz BK158 2) | ((with_reducible refine zC (f := 64) rfl ?_); refine zGo (some 54) Try.func64 #[.int .i64 a0_1, .int .i64 (wrap64 (-a1))] ?_; (with_reducible refine (num_Mul.calls a0_1 (wrap64 (-a1)) t165 false _ A20.out).mono ?_); rintro e w' ⟨rfl, ⟨nd, rfl⟩⟩; refine ⟨_, rfl, ?_⟩))
     go_ret3
     exact ⟨_, zR (h := zL (h := ⟨zo HB, by repeat (first | (with_reducible first | exact HK.out | apply Kept.alloc | apply Kept.drewN | apply Kept.drew | refine Kept.setCell ?_ (.inr GW158.out) _) | exact HK.out)⟩))⟩
   ·rw [if_neg c19] at H
    have c19b0 : decide (a1 < 0) = false := decide_eq_false c19; clear c19
    replace H := zob H
    obtain ⟨⟨t167, t168⟩, A320, H⟩ := H
    replace H : (if t168 = true then (some (l0_0, t167, 0)) else (some (([] : List Int), 0, 5))) = some (r1, r2, r3) := H
    have A32 := zK A320; clear A320
    by_cases c33 : t168 = true
    ·subst c33
     have H1 : (some (l0_0, t167, 0)) = some (r1, r2, r3) := by rw [if_pos rfl] at H; exact H
     clear H; have H := H1; clear H1
     simp only [Option.some.injEq, Prod.mk.injEq] at H
     obtain ⟨rfl, rfl, rfl⟩ := H
     obtain ⟨Ao34, co34, eo34⟩ := Kd.R_slice HO0_0.out
     subst eo34
     go_enter Try.func44, Try.ntmps44
     go_wp2_with (first | ((with_reducible refine gate_dst (N := 3) rfl ?_); refine zBox (cs := #[.slice Ao34 l0_0.length co34, .int .i64 a0_1, .bool true]) (t := 88) ?_; intro gb158 hg w35 hbox hb; replace HO0_0 := zK (Kd.R_below (zr HO0_0) hb); have BK158 := zK (hbox); have GW158 := zK ((by rw [hg]; exact (by first | exact HK.out.1 | exact (show Kept w _ (fun k_ => P0_0_ k_) from by repeat (first | (with_reducible first | exact HK.out | apply Kept.alloc | apply Kept.drewN | apply Kept.drew) | exact HK.out)).1) : w.heap.size ≤ gb158)); replace HK := zK (Kept.below (S := (fun k_ => P0_0_ k_)) (by repeat (first | (with_reducible first | exact HK.out | apply Kept.alloc | apply Kept.drewN | apply Kept.drew) | exact HK.out)) hb); have GW158 := zK ((by rw [hg]; exact (below_size (zo HB)) : w0.heap.size ≤ gb158)); replace HB := zst HB hb; clear hb hbox hg; have hcz36_0 := zc0 BK158; have hcz36_1 := zc1 BK158; have hcz36_2 := zc2 BK158; have hfz36_0 := zfz BK158 0; have hfz36_1 := zfz BK158 1; have hfz36_2 := zfz BK158 2) | ((with_reducible refine zC (f := 64) rfl ?_); refine zGo (some 54) Try.func64 #[.int .i64 a0_1, .int .i64 a1] ?_; (with_reducible refine (num_Mul.calls a0_1 a1 t167 true _ A32.out).mono ?_); rintro e w' ⟨rfl, ⟨nd, rfl⟩⟩; refine ⟨_, rfl, ?_⟩))
     go_ret3
     exact ⟨_, by first | rfl | (simp [errW_none, errW_some] <;> rfl) | (simp [*, errW_none, errW_some] <;> rfl), by (with_reducible repeat (first | apply Kd.R_alloc | apply Kd.R_drewN | apply Kd.R_drew)); exact HO0_0.out, zo HB, by repeat (first | (with_reducible first | exact HK.out | apply Kept.alloc | apply Kept.drewN | apply Kept.drew | refine Kept.setCell ?_ (.inr GW158.out) _) | exact HK.out)⟩
    ·replace c33 := Bool.eq_false_iff.mpr c33
     subst c33
     have H1 : (some (([] : List Int), 0, 5)) = some (r1, r2, r3) := by rw [if_neg (show ¬ (false = true) by decide)] at H; exact H
     clear H; have H := H1; clear H1
     simp only [Option.some.injEq, Prod.mk.injEq] at H
     obtain ⟨rfl, rfl, rfl⟩ := H
     obtain ⟨Ao37, co37, eo37⟩ := Kd.R_slice HO0_0.out
     subst eo37
     go_enter Try.func44, Try.ntmps44
     go_wp2_with (first | ((with_reducible refine gate_dst (N := 3) rfl ?_); refine zBox (cs := #[.slice Ao37 l0_0.length co37, .int .i64 a0_1, .bool true]) (t := 88) ?_; intro gb158 hg w38 hbox hb; replace HO0_0 := zK (Kd.R_below (zr HO0_0) hb); have BK158 := zK (hbox); have GW158 := zK ((by rw [hg]; exact (by first | exact HK.out.1 | exact (show Kept w _ (fun k_ => P0_0_ k_) from by repeat (first | (with_reducible first | exact HK.out | apply Kept.alloc | apply Kept.drewN | apply Kept.drew) | exact HK.out)).1) : w.heap.size ≤ gb158)); replace HK := zK (Kept.below (S := (fun k_ => P0_0_ k_)) (by repeat (first | (with_reducible first | exact HK.out | apply Kept.alloc | apply Kept.drewN | apply Kept.drew) | exact HK.out)) hb); have GW158 := zK ((by rw [hg]; exact (below_size (zo HB)) : w0.heap.size ≤ gb158)); replace HB := zst HB hb; clear hb hbox hg; have hcz39_0 := zc0 BK158; have hcz39_1 := zc1 BK158; have hcz39_2 := zc2 BK158; have hfz39_0 := zfz BK158 0; have hfz39_1 := zfz BK158 1; have hfz39_2 := zfz BK158 2) | ((with_reducible refine zC (f := 64) rfl ?_); refine zGo (some 54) Try.func64 #[.int .i64 a0_1, .int .i64 a1] ?_; (with_reducible refine (num_Mul.calls a0_1 a1 t167 false _ A32.out).mono ?_); rintro e w' ⟨rfl, ⟨nd, rfl⟩⟩; refine ⟨_, rfl, ?_⟩))
     go_ret3
     exact ⟨_, zR (h := zL (h := ⟨zo HB, by repeat (first | (with_reducible first | exact HK.out | apply Kept.alloc | apply Kept.drewN | apply Kept.drew | refine Kept.setCell ?_ (.inr GW158.out) _) | exact HK.out)⟩))⟩
 ·replace c4 := Bool.eq_false_iff.mpr c4
  subst c4
  have H1 : (some (([] : List Int), 0, 5)) = some (r1, r2, r3) := by rw [if_neg (show ¬ (false = true) by decide)] at H; exact H
  clear H; have H := H1; clear H1
  simp only [Option.some.injEq, Prod.mk.injEq] at H
  obtain ⟨rfl, rfl, rfl⟩ := H
  obtain ⟨Ao40, co40, eo40⟩ := Kd.R_slice HO0_0.out
  subst eo40
  go_enter Try.func44, Try.ntmps44
  go_wp2_with (first | ((with_reducible refine gate_dst (N := 3) rfl ?_); refine zBox (cs := #[.slice Ao40 l0_0.length co40, .int .i64 a0_1, .bool false]) (t := 88) ?_; intro gb158 hg w41 hbox hb; replace HO0_0 := zK (Kd.R_below (zr HO0_0) hb); have BK158 := zK (hbox); have GW158 := zK ((by rw [hg]; exact (by first | exact HK.out.1 | exact (show Kept w _ (fun k_ => P0_0_ k_) from by repeat (first | (with_reducible first | exact HK.out | apply Kept.alloc | apply Kept.drewN | apply Kept.drew) | exact HK.out)).1) : w.heap.size ≤ gb158)); replace HK := zK (Kept.below (S := (fun k_ => P0_0_ k_)) (by repeat (first | (with_reducible first | exact HK.out | apply Kept.alloc | apply Kept.drewN | apply Kept.drew) | exact HK.out)) hb); have GW158 := zK ((by rw [hg]; exact (below_size (zo HB)) : w0.heap.size ≤ gb158)); replace HB := zst HB hb; clear hb hbox hg; have hcz42_0 := zc0 BK158; have hcz42_1 := zc1 BK158; have hcz42_2 := zc2 BK158; have hfz42_0 := zfz BK158 0; have hfz42_1 := zfz BK158 1; have hfz42_2 := zfz BK158 2))
  go_ret3
  exact ⟨_, zR (h := zL (h := ⟨zo HB, by repeat (first | (with_reducible first | exact HK.out | apply Kept.alloc | apply Kept.drewN | apply Kept.drew | refine Kept.setCell ?_ (.inr GW158.out) _) | exact HK.out)⟩))⟩

/-! ### lin_By: function 57 -/
def lin_By.l0 : Nat → Int → List (S44) → Int → Int → Option (Int)
 | 0, _, _, _, _ => none
 | k + 1, x1, x8, x9, x10 => if x10 < x9 then (if 0 ≤ x10 then (if x10 < (x8.length : Int) then (if ((rd_T44 x8 x10).f0) = x1 then (some ((rd_T44 x8 x10).f1)) else (lin_By.l0 k x1 x8 x9 (wrap64 (x10 + 1)))) else (none)) else (none)) else (some 0)
def lin_By.f (k : Nat) (a0_0 : Int) (l0_1 : List (S44)) (a1 : Int) : Option (Int) := lin_By.l0 k a1 l0_1 (l0_1.length : Int) 0
theorem lin_By.mono_l : ∀ k, (∀ y0 y1 y2 y3, LeO (lin_By.l0 k y0 y1 y2 y3) (lin_By.l0 (k + 1) y0 y1 y2 y3))
 | 0 => fun _ _ _ _ r h => by simp [lin_By.l0] at h
 | k + 1 => by
  have ih0 := lin_By.mono_l k
  ·intro y0 y1 y2 y3
   unfold lin_By.l0
   repeat' first | (with_reducible first | exact ih0 .. | exact LeO.refl _ | exact LeO.none _ | refine LeO.ite ?_ ?_ | refine LeO.bind ?_ (fun _ => ?_)) | exact ih0 .. | exact LeO.none _ | refine LeO.ite ?_ ?_ | refine LeO.bind ?_ (fun _ => ?_)
theorem lin_By.mono : ∀ a0 a1 a2 k, LeO (lin_By.f k a0 a1 a2) (lin_By.f (k + 1) a0 a1 a2) := by
 intro a0 a1 a2 k
 have ih0 := lin_By.mono_l k
 unfold lin_By.f
 repeat' first | (with_reducible first | exact ih0 .. | exact LeO.refl _ | exact LeO.none _ | refine LeO.ite ?_ ?_ | refine LeO.bind ?_ (fun _ => ?_)) | exact ih0 .. | exact LeO.none _ | refine LeO.ite ?_ ?_ | refine LeO.bind ?_ (fun _ => ?_)
theorem lin_By.calls (k : Nat) (a0_0 : Int) (A0_1 : Option Addr) (c0_1 : Nat) (l0_1 : List (S44)) (a1 : Int) (r : Int) (w : World) (hr0_1 : Kd.C k44 w A0_1 l0_1.length l0_1) (hc0_1 : l0_1.length ≤ c0_1) (h : lin_By.f k a0_0 l0_1 a1 = some r) :
  Calls Try.prog 57 #[.agg #[.int .i64 a0_0, .slice A0_1 l0_1.length c0_1], .int .i64 a1] w fun e w' => e = .returned (.int .i64 r) ∧ Below w.heap.size w w' := by
 have hu41 := Try.underlying41
 have hu44 := Try.underlying44
 have HR0_1 := zK hr0_1
 have HC0_1 := zK hc0_1; clear hr0_1 hc0_1
 have HB := zK (Below.refl w.heap.size w)
 have H : (lin_By.l0 k a1 l0_1 (l0_1.length : Int) 0) = some r := h
 clear h
 have H' := zK H; clear H
 go_enter Try.func57, Try.ntmps57
 go_wp2_with (first | ((with_reducible refine gate_dst (N := 2) rfl ?_); refine zBx HB (cs := #[.int .i64 a0_0, .slice A0_1 l0_1.length c0_1]) (t := 41) ?_; clear HB; intro gb169 hg w3 BK169 GW169 hb HB; clear hb hg; have hcz4_0 := zc0 BK169; have hcz4_1 := zc1 BK169; have hfz4_0 := zfz BK169 0; have hfz4_1 := zfz BK169 1))
 go_loopg [10] k (fun kq v10 w' => ∃ (x10_1 : Int), v10 = .int .i64 x10_1 ∧ Aside0 (lin_By.l0 kq a1 l0_1 (l0_1.length : Int) x10_1 = some r) ∧ Aside0 (kq ≤ k) ∧ Aside0 (w'.heap[gb169]? = some (.cells #[.int .i64 a0_0, (.slice A0_1 l0_1.length c0_1)] 41 (0, 0))) ∧ Aside0 (Below w.heap.size w w'))
 case atStart => exact ⟨(0), (by first | rfl | (simp; done) | (simp [*]; done)), H', ⟨Nat.le_refl _⟩, ⟨zb BK169⟩, ⟨zo HB⟩⟩
 case round =>
  clear H'; try clear p2; try clear hcz4_0; try clear hcz4_1; try clear hfz4_0; try clear hfz4_1
  obtain ⟨x10_1, rfl, HA, HK1, BK169, HB⟩ := hrel
  cases gk with
  | zero => exact absurd HA.out (by simp [lin_By.l0])
  | succ k1 =>
   have H := HA.out; clear HA
   simp only [lin_By.l0] at H
   by_cases c5 : x10_1 < (l0_1.length : Int)
   ·rw [if_pos c5] at H
    have c5b0 : decide (x10_1 < (l0_1.length : Int)) = true := decide_eq_true c5
    clear c5
    by_cases c6 : 0 ≤ x10_1
    ·rw [if_pos c6] at H
     have c6b0 : decide (0 ≤ x10_1) = true := decide_eq_true c6; clear c6
     by_cases c7 : x10_1 < (l0_1.length : Int)
     ·rw [if_pos c7] at H
      have c7b0 : decide (x10_1 < (l0_1.length : Int)) = true := decide_eq_true c7
      clear c7
      by_cases c8 : ((rd_T44 l0_1 x10_1).f0) = a1
      ·rw [if_pos c8] at H
       have c8b0 : (((rd_T44 l0_1 x10_1).f0) == a1) = true := beq_iff_eq.mpr c8
       have c8b1 : (((rd_T44 l0_1 x10_1).f0) != a1) = false := bne_eq_false_iff_eq.mpr c8
       clear c8
       obtain rfl := Option.some.inj H
       have p170 : 0 ≤ (x10_1 : Int) := zdt
       have q170 : x10_1 < (l0_1.length : Int) := zdt
       obtain ⟨ad170, e170, hx170_0, hx170_1⟩ := at_T44 HR0_1.out x10_1 p170 q170
       cases e170
       replace hx170_0 := zcl HB hx170_0
       replace hx170_1 := zcl HB hx170_1
       replace p170 := eq_true p170
       replace q170 := eq_true q170
       go_wp2_with (first | ((with_reducible refine gate_dst (N := 6) rfl ?_); refine zBx HB (cs := #[.int .i64 0, .int .i64 0]) (t := 44) ?_; clear HB; intro gb171 hg w9 BK171 GW171 hb HB; have NB169_171 := zn1 BK169 hg; have NB171_169 := zn2 BK169 hg; replace BK169 := zbb BK169 hb; clear hb hg; have hnb10 := NB171_169.out; have hnc10 := NB169_171.out; have hcz11_0 := zc0 BK171; have hcz11_1 := zc1 BK171; have hfz11_0 := zfz BK171 0; have hfz11_1 := zfz BK171 1))
       go_ret
       exact zR (h := zo HB)
      ·rw [if_neg c8] at H
       have c8b0 : (((rd_T44 l0_1 x10_1).f0) == a1) = false := beq_eq_false_iff_ne.mpr c8
       have c8b1 : (((rd_T44 l0_1 x10_1).f0) != a1) = true := bne_iff_ne.mpr c8
       have H' := zK H; clear H
       have p170 : 0 ≤ (x10_1 : Int) := zdt
       have q170 : x10_1 < (l0_1.length : Int) := zdt
       obtain ⟨ad170, e170, hx170_0, hx170_1⟩ := at_T44 HR0_1.out x10_1 p170 q170
       cases e170
       replace hx170_0 := zcl HB hx170_0
       replace hx170_1 := zcl HB hx170_1
       replace p170 := eq_true p170
       replace q170 := eq_true q170
       go_wp2_with (first | ((with_reducible refine gate_dst (N := 6) rfl ?_); refine zBx HB (cs := #[.int .i64 0, .int .i64 0]) (t := 44) ?_; clear HB; intro gb171 hg w12 BK171 GW171 hb HB; have NB169_171 := zn1 BK169 hg; have NB171_169 := zn2 BK169 hg; replace BK169 := zbb BK169 hb; clear hb hg; have hnb13 := NB171_169.out; have hnc13 := NB169_171.out; have hcz14_0 := zc0 BK171; have hcz14_1 := zc1 BK171; have hfz14_0 := zfz BK171 0; have hfz14_1 := zfz BK171 1))
       go_roundg k1
       case measure => have := HK1.out; omega
       case rel => exact ⟨(wrap64 (x10_1 + 1)), (by first | rfl | (simp; done) | (simp [*]; done)), H', ⟨by have := HK1.out; omega⟩, ⟨zb BK169⟩, ⟨zo HB⟩⟩
     ·rw [if_neg c7] at H
      exact absurd H (by simp)
    ·rw [if_neg c6] at H
     exact absurd H (by simp)
   ·rw [if_neg c5] at H
    have c5b0 : decide (x10_1 < (l0_1.length : Int)) = false := decide_eq_false c5
    clear c5
    obtain rfl := Option.some.inj H
    go_wp2
    go_ret
    exact zR (h := zo HB)

/-! ### num_over: function 70 -/
def num_over.f (a0 : Int) (a1 : Int) : Option (Bool) := if a1 = 0 then (some true) else (if a0 = (-9223372036854775808) then (some (a1 == (-1))) else (some false))
theorem num_over.calls (a0 : Int) (a1 : Int) (r : Bool) (w : World) (h : num_over.f a0 a1 = some r) :
  Calls Try.prog 70 #[.int .i64 a0, .int .i64 a1] w fun e w' => e = .returned (.bool r) ∧ Drawn0 w w' := by
 have H : (if a1 = 0 then (some true) else (if a0 = (-9223372036854775808) then (some (a1 == (-1))) else (some false))) = some r := h
 clear h
 by_cases c3 : a1 = 0
 ·rw [if_pos c3] at H
  have c3b0 : (a1 == 0) = true := beq_iff_eq.mpr c3
  have c3b1 : (a1 != 0) = false := bne_eq_false_iff_eq.mpr c3; clear c3
  obtain rfl := Option.some.inj H
  go_enter Try.func70, Try.ntmps70
  go_wp2
  go_ret
  exact zW
 ·rw [if_neg c3] at H
  have c3b0 : (a1 == 0) = false := beq_eq_false_iff_ne.mpr c3
  have c3b1 : (a1 != 0) = true := bne_iff_ne.mpr c3
  by_cases c4 : a0 = (-9223372036854775808)
  ·rw [if_pos c4] at H
   have c4b0 : (a0 == (-9223372036854775808)) = true := beq_iff_eq.mpr c4
   have c4b1 : (a0 != (-9223372036854775808)) = false := bne_eq_false_iff_eq.mpr c4
   clear c4
   obtain rfl := Option.some.inj H
   go_enter Try.func70, Try.ntmps70
   go_wp2
   go_ret
   exact zW
  ·rw [if_neg c4] at H
   have c4b0 : (a0 == (-9223372036854775808)) = false := beq_eq_false_iff_ne.mpr c4
   have c4b1 : (a0 != (-9223372036854775808)) = true := bne_iff_ne.mpr c4
   obtain rfl := Option.some.inj H
   go_enter Try.func70, Try.ntmps70
   go_wp2
   go_ret
   exact zW

/-! ### num_Div: function 58 -/
def num_Div.f (a0 : Int) (a1 : Int) : Option (Int × Bool) := (num_over.f a0 a1).bind fun t172 => (if t172 = true then (some (0, false)) else (if a1 = 0 then (none) else (if (Int.tmod a0 a1) = 0 then (some (wrap64 (Int.tdiv a0 a1), true)) else (if ((decide (a0 < 0)) != (decide (a1 < 0))) = true then (some (wrap64 ((wrap64 (Int.tdiv a0 a1)) - 1), true)) else (some (wrap64 (Int.tdiv a0 a1), true))))))
theorem num_Div.calls (a0 : Int) (a1 : Int) (r1 : Int) (r2 : Bool) (w : World) (h : num_Div.f a0 a1 = some (r1, r2)) :
  Calls Try.prog 58 #[.int .i64 a0, .int .i64 a1] w fun e w' => e = .returned (.tuple #[.int .i64 r1, .bool r2]) ∧ Drawn0 w w' := by
 have H : ((num_over.f a0 a1).bind fun t172 => (if t172 = true then (some (0, false)) else (if a1 = 0 then (none) else (if (Int.tmod a0 a1) = 0 then (some (wrap64 (Int.tdiv a0 a1), true)) else (if ((decide (a0 < 0)) != (decide (a1 < 0))) = true then (some (wrap64 ((wrap64 (Int.tdiv a0 a1)) - 1), true)) else (some (wrap64 (Int.tdiv a0 a1), true))))))) = some (r1, r2) := h
 clear h; replace H := zob H
 obtain ⟨t172, A30, H⟩ := H
 replace H : (if t172 = true then (some (0, false)) else (if a1 = 0 then (none) else (if (Int.tmod a0 a1) = 0 then (some (wrap64 (Int.tdiv a0 a1), true)) else (if ((decide (a0 < 0)) != (decide (a1 < 0))) = true then (some (wrap64 ((wrap64 (Int.tdiv a0 a1)) - 1), true)) else (some (wrap64 (Int.tdiv a0 a1), true)))))) = some (r1, r2) := H
 have A3 := zK A30; clear A30
 by_cases c4 : t172 = true
 ·subst c4
  have H1 : (some (0, false)) = some (r1, r2) := by rw [if_pos rfl] at H; exact H
  clear H; have H := H1; clear H1
  simp only [Option.some.injEq, Prod.mk.injEq] at H
  obtain ⟨rfl, rfl⟩ := H
  go_enter Try.func58, Try.ntmps58
  go_wp2_with (first | ((with_reducible refine zC (f := 70) rfl ?_); refine zGo (some 9) Try.func70 #[.int .i64 a0, .int .i64 a1] ?_; (with_reducible refine (num_over.calls a0 a1 true _ A3.out).mono ?_); rintro e w' ⟨rfl, ⟨nd, rfl⟩⟩; refine ⟨_, rfl, ?_⟩))
  go_ret2
  exact zW
 ·replace c4 := Bool.eq_false_iff.mpr c4
  subst c4
  have H1 : (if a1 = 0 then (none) else (if (Int.tmod a0 a1) = 0 then (some (wrap64 (Int.tdiv a0 a1), true)) else (if ((decide (a0 < 0)) != (decide (a1 < 0))) = true then (some (wrap64 ((wrap64 (Int.tdiv a0 a1)) - 1), true)) else (some (wrap64 (Int.tdiv a0 a1), true))))) = some (r1, r2) := by rw [if_neg (show ¬ (false = true) by decide)] at H; exact H
  clear H; have H := H1; clear H1
  by_cases c5 : a1 = 0
  ·rw [if_pos c5] at H
   exact absurd H (by simp)
  ·rw [if_neg c5] at H
   have c5b0 : (a1 == 0) = false := beq_eq_false_iff_ne.mpr c5
   have c5b1 : (a1 != 0) = true := bne_iff_ne.mpr c5
   by_cases c6 : (Int.tmod a0 a1) = 0
   ·rw [if_pos c6] at H
    have c6b0 : ((Int.tmod a0 a1) == 0) = true := beq_iff_eq.mpr c6
    have c6b1 : ((Int.tmod a0 a1) != 0) = false := bne_eq_false_iff_eq.mpr c6
    clear c6
    simp only [Option.some.injEq, Prod.mk.injEq] at H
    obtain ⟨rfl, rfl⟩ := H
    go_enter Try.func58, Try.ntmps58
    go_wp2_with (first | ((with_reducible refine zC (f := 70) rfl ?_); refine zGo (some 9) Try.func70 #[.int .i64 a0, .int .i64 a1] ?_; (with_reducible refine (num_over.calls a0 a1 false _ A3.out).mono ?_); rintro e w' ⟨rfl, ⟨nd, rfl⟩⟩; refine ⟨_, rfl, ?_⟩))
    go_ret2
    exact zW
   ·rw [if_neg c6] at H
    have c6b0 : ((Int.tmod a0 a1) == 0) = false := beq_eq_false_iff_ne.mpr c6
    have c6b1 : ((Int.tmod a0 a1) != 0) = true := bne_iff_ne.mpr c6
    by_cases c7 : ((decide (a0 < 0)) != (decide (a1 < 0))) = true
    ·rw [if_pos c7] at H
     have c7b0 : ((decide (a0 < 0)) != (decide (a1 < 0))) = true := c7
     (try (have c7b1 : decide ((decide (a0 < 0)) = (decide (a1 < 0))) = false := by simpa using c7))
     (try (have c7b2 : ((decide (a0 < 0)) == (decide (a1 < 0))) = false := by simpa using c7))
     (try (have c7b3 : ¬ ((decide (a0 < 0)) = (decide (a1 < 0))) := by simpa using c7))
     clear c7
     simp only [Option.some.injEq, Prod.mk.injEq] at H
     obtain ⟨rfl, rfl⟩ := H
     go_enter Try.func58, Try.ntmps58
     go_wp2_with (first | ((with_reducible refine zC (f := 70) rfl ?_); refine zGo (some 9) Try.func70 #[.int .i64 a0, .int .i64 a1] ?_; (with_reducible refine (num_over.calls a0 a1 false _ A3.out).mono ?_); rintro e w' ⟨rfl, ⟨nd, rfl⟩⟩; refine ⟨_, rfl, ?_⟩))
     go_ret2
     exact zW
    ·rw [if_neg c7] at H
     have c7b0 : ((decide (a0 < 0)) != (decide (a1 < 0))) = false := by simpa using c7
     (try (have c7b1 : decide ((decide (a0 < 0)) = (decide (a1 < 0))) = true := by simpa using c7))
     (try (have c7b2 : ((decide (a0 < 0)) == (decide (a1 < 0))) = true := by simpa using c7))
     clear c7
     simp only [Option.some.injEq, Prod.mk.injEq] at H
     obtain ⟨rfl, rfl⟩ := H
     go_enter Try.func58, Try.ntmps58
     go_wp2_with (first | ((with_reducible refine zC (f := 70) rfl ?_); refine zGo (some 9) Try.func70 #[.int .i64 a0, .int .i64 a1] ?_; (with_reducible refine (num_over.calls a0 a1 false _ A3.out).mono ?_); rintro e w' ⟨rfl, ⟨nd, rfl⟩⟩; refine ⟨_, rfl, ?_⟩))
     go_ret2
     exact zW

end Go.Proofs.Ytjinmlpekecmbaa.PEuclidNone
