/- What the call of each function that the law reaches comes to, and the law out of its plain form; no condition but what stands in each theorem. -/
import Derived.Test.YtjinmlpekecmbaaPEuclidNonex0
import Derived.Test.YtjinmlpekecmbaaPEuclidNonex1
import Derived.Test.YtjinmlpekecmbaaPEuclidNonex2
namespace Go.Proofs.Ytjinmlpekecmbaa.PEuclidNone
open Go.RowKit Go.Proofs.YtjinmlpekecmbaaW.PrintWords Go.Proofs.YtjinmlpekecmbaaW.PrintLast Go.Proofs.YtjinmlpekecmbaaW.PrintMore
open Go.Proofs.YtjinmlpekecmbaaW.PrintWords renaming blk_drewN → zN, blk_drew → zD, blk_alloc → zA, below_alloc → yA, pw_below_drewN → yN, below_drew1 → yD, below_set → yS, gate_callee → zC, gate_guard → zG
open Go.Proofs.YtjinmlpekecmbaaW.PrintWords.Kd renaming V_alloc → vA, V_drewN → vN, V_drew → vD, N_alloc → nA, N_drewN → nN, N_drew → nD, C_alloc → cA, C_drewN → cN, C_drew → cD, V_mono → vM, V_far → vF
open Go.Proofs.YtjinmlpekecmbaaW.PrintWords.Aside0 renaming mk → zK
open Bool renaming true → T_, false → F_
open List renaming setIfInBounds_toArray → zt, set_cons_zero → zz, set_cons_succ → zs
attribute [local go_sem] max2_int min2_int max_two min_two max_three min_three max_four min_four
set_option linter.unusedVariables false
set_option maxHeartbeats 8000000
set_option maxRecDepth 100000
set_option linter.unusedSimpArgs false

/-! ### lin_Sum: function 25 -/
mutual
def lin_Sum.j0 : Nat → List (S41) → List Int → Bool → Option (Int × (List (S44)) × Int)
 | 0, _, _, _ => none
 | k + 1, x0, x1, x18 => if x18 = true then (some (0, ([] : List (S44)), 1)) else (lin_Sum.l0 k x1 ([] : List (S75)) x0 (x0.length : Int) 0)
def lin_Sum.l0 : Nat → List Int → List (S75) → List (S41) → Int → Int → Option (Int × (List (S44)) × Int)
 | 0, _, _, _, _, _ => none
 | k + 1, x1, x6, x20, x21, x22 => if x22 < x21 then (if 0 ≤ x22 then (if x22 < (x20.length : Int) then (if x22 < (x1.length : Int) then (if x6.length < 3518437208883 then (lin_Sum.l0 k x1 (x6 ++ [(⟨(⟨(rd_T41 x20 x22).f0, (rd_T41 x20 x22).f1⟩ : S41), rd x1 x22⟩ : S75)]) x20 x21 (wrap64 (x22 + 1))) else (none)) else (none)) else (none)) else (none)) else ((lin_sum.f x6).bind fun bt123 => (some (bt123.1, bt123.2.1, bt123.2.2)))
end
def lin_Sum.f (k : Nat) (l0 : List (S41)) (l1 : List Int) : Option (Int × (List (S44)) × Int) := (lin_right.f k l0).bind fun t116 => (if t116 = true then (lin_Sum.j0 k l0 l1 ((l0.length : Int) != (l1.length : Int))) else (lin_Sum.j0 k l0 l1 true))
theorem lin_Sum.mono_l : ∀ k, (∀ y0 y1 y2, LeO (lin_Sum.j0 k y0 y1 y2) (lin_Sum.j0 (k + 1) y0 y1 y2)) ∧ (∀ y0 y1 y2 y3 y4, LeO (lin_Sum.l0 k y0 y1 y2 y3 y4) (lin_Sum.l0 (k + 1) y0 y1 y2 y3 y4))
 | 0 => ⟨fun _ _ _ r h => by simp [lin_Sum.j0] at h, fun _ _ _ _ _ r h => by simp [lin_Sum.l0] at h⟩
 | k + 1 => by
  obtain ⟨ih0, ih1⟩ := lin_Sum.mono_l k
  refine ⟨?_, ?_⟩ <;> intros <;> first | unfold lin_Sum.j0 | unfold lin_Sum.l0
  all_goals repeat' first | (with_reducible first | exact ih0 .. | exact ih1 .. | exact lin_right.mono .. | exact LeO.refl _ | exact LeO.none _ | refine LeO.ite ?_ ?_ | refine LeO.bind ?_ (fun _ => ?_)) | exact ih0 .. | exact ih1 .. | exact lin_right.mono .. | exact LeO.none _ | refine LeO.ite ?_ ?_ | refine LeO.bind ?_ (fun _ => ?_)
theorem lin_Sum.mono : ∀ a0 a1 k, LeO (lin_Sum.f k a0 a1) (lin_Sum.f (k + 1) a0 a1) := by
 intro a0 a1 k
 obtain ⟨ih0, ih1⟩ := lin_Sum.mono_l k
 unfold lin_Sum.f
 repeat' first | (with_reducible first | exact ih0 .. | exact ih1 .. | exact lin_right.mono .. | exact LeO.refl _ | exact LeO.none _ | refine LeO.ite ?_ ?_ | refine LeO.bind ?_ (fun _ => ?_)) | exact ih0 .. | exact ih1 .. | exact lin_right.mono .. | exact LeO.none _ | refine LeO.ite ?_ ?_ | refine LeO.bind ?_ (fun _ => ?_)
def lin_Sum.T7 : Bool × List (List Nat × List Nat) := (true, [([], []), ([], []), ([], []), ([], []), ([2, 3], [2, 3]), ([4], [4]), ([1, 5], [1, 5]), ([6], [6]), ([0, 7], [0, 7]), ([8, 8, 0, 1, 2, 3, 4, 5, 6, 7, 8], [0, 8])])
def lin_Sum.B7 : List Nat := [0, 0, 0, 0, 12, 28, 62, 126, 255, 511]
theorem lin_Sum.tab7 : rtab .any (opsOf Try.f25 7) = lin_Sum.T7 := by kernel_rfl
theorem lin_Sum.bits7 : waitsOk lin_Sum.T7.2 lin_Sum.B7 = true := by kernel_rfl
theorem lin_Sum.calls (k : Nat) (P0_ : Nat → Prop) (A0 : Option Addr) (c0 : Nat) (l0 : List (S41)) (A1 : Option Addr) (c1 : Nat) (l1 : List Int) (r1 : Int) (r2 : List (S44)) (r3 : Int) (w : World) (hs0 : Kd.V k41 41 w w.heap.size (fun k_ => P0_ k_) (.slice A0 l0.length c0) l0) (hr1 : Kd.C (Kd.int .i64) w A1 l1.length l1) (hc1 : l1.length ≤ c1) (h : lin_Sum.f k l0 l1 = some (r1, r2, r3)) :
  Calls Try.prog 25 #[.slice A0 l0.length c0, .slice A1 l1.length c1] w fun e w' => ∃ v1_ : Value, e = .returned (.tuple #[.agg #[.int .i64 r1, v1_], .int .i64 r3]) ∧ Kd.R k44 44 w' w.heap.size (fun k_ => (w.heap.size ≤ k_)) v1_ r2 ∧ Below w.heap.size w w' := by
 have hu41 := Try.underlying41
 have hu75 := Try.underlying75
 have HO0 := zK (show Kd.V k41 41 w w.heap.size (fun k_ => (P0_ k_ ∨ w.heap.size ≤ k_)) (.slice A0 l0.length c0) l0 from vM hs0 (fun k_ hk => .inl hk))
 have HR1 := zK hr1
 have HC1 := zK hc1; clear hr1 hc1
 have HB := zK (Below.refl w.heap.size w)
 have H : ((lin_right.f k l0).bind fun t116 => (if t116 = true then (lin_Sum.j0 k l0 l1 ((l0.length : Int) != (l1.length : Int))) else (lin_Sum.j0 k l0 l1 true))) = some (r1, r2, r3) := h
 clear h
 have HC3 := zK H; clear H
 go_enter Try.func25, Try.ntmps25
 go_upto_region 1 with (first | ((with_reducible refine gate_dst (N := 4) rfl ?_); (try (refine zG (by rfl) ?_; dsimp only)); refine zBox (cs := #[.int .i64 0, .slice none 0 0]) (t := 41) ?_; intro gb115 hg w4 hbox hb; replace HO0 := zK (Kd.V_below (Kd.V_elderB (zv HO0) gb115 (Nat.le_of_eq hg.symm)) hb); have BK115 := zK (hbox); have GW115 := zK ((by rw [hg]; exact (below_size (zo HB)) : w.heap.size ≤ gb115)); replace HB := zst HB hb; clear hb hbox hg))
 (try simp only [Act.put, zt, zz, zs])
 go_cut [18] (fun v18 wc => ∃ (kq : Nat) (x18_2 : Bool), v18 = .bool x18_2 ∧ Aside0 (lin_Sum.j0 kq l0 l1 x18_2 = some (r1, r2, r3)) ∧ Aside0 (kq ≤ k) ∧ Aside0 (Kd.V k41 41 wc w.heap.size (fun k_ => (P0_ k_ ∨ w.heap.size ≤ k_) ∧ k_ ≠ gb115) (.slice A0 l0.length c0) l0) ∧ Aside0 (wc.heap[gb115]? = some (.cells #[.int .i64 0, (.slice none 0 0)] 41 (0, 0))) ∧ Aside0 (Below w.heap.size w wc))
 case first =>
  have H := HC3.out; clear HC3; replace H := zob H
  obtain ⟨t116, A50, H⟩ := H
  replace H : (if t116 = true then (lin_Sum.j0 k l0 l1 ((l0.length : Int) != (l1.length : Int))) else (lin_Sum.j0 k l0 l1 true)) = some (r1, r2, r3) := H
  have A5 := zK A50; clear A50
  by_cases c6 : t116 = true
  ·subst c6
   have H1 : (lin_Sum.j0 k l0 l1 ((l0.length : Int) != (l1.length : Int))) = some (r1, r2, r3) := by rw [if_pos rfl] at H; exact H
   clear H; have H := H1; clear H1
   have H' := zK H; clear H
   go_wp2_with (first | ((with_reducible refine zC (f := 32) rfl ?_); refine zGo (some 10) Try.func32 #[.slice A0 l0.length c0] ?_; (with_reducible refine (lin_right.calls k _ _ l0 true _ ?side1 ?side2 A5.out).mono ?_); (case side1 => repeat (first | exact (Kd.V_reads' HO0.out).2.2 | (with_reducible refine cA ?_ _) | (with_reducible refine cN ?_ _) | (with_reducible refine cD ?_))); (case side2 => exact (Kd.V_reads' HO0.out).2.1); rintro e w7 ⟨rfl, hb⟩; refine ⟨_, rfl, ?_⟩; replace HO0 := zK (Kd.V_below (zv HO0) hb); replace BK115 := zbb BK115 hb; replace HB := zst HB hb; clear hb))
   go_meet
   case rel => exact ⟨_, (((l0.length : Int) != (l1.length : Int))), (by first | rfl | (simp; done) | (simp [*]; done)), H', ⟨by first | omega | exact Nat.le_refl _⟩, ⟨zv HO0⟩, ⟨zb BK115⟩, ⟨zo HB⟩⟩
  ·replace c6 := Bool.eq_false_iff.mpr c6
   subst c6
   have H1 : (lin_Sum.j0 k l0 l1 true) = some (r1, r2, r3) := by rw [if_neg (show ¬ (false = true) by decide)] at H; exact H
   clear H; have H := H1; clear H1
   have H' := zK H; clear H
   go_wp2_with (first | ((with_reducible refine zC (f := 32) rfl ?_); refine zGo (some 10) Try.func32 #[.slice A0 l0.length c0] ?_; (with_reducible refine (lin_right.calls k _ _ l0 false _ ?side1 ?side2 A5.out).mono ?_); (case side1 => repeat (first | exact (Kd.V_reads' HO0.out).2.2 | (with_reducible refine cA ?_ _) | (with_reducible refine cN ?_ _) | (with_reducible refine cD ?_))); (case side2 => exact (Kd.V_reads' HO0.out).2.1); rintro e w8 ⟨rfl, hb⟩; refine ⟨_, rfl, ?_⟩; replace HO0 := zK (Kd.V_below (zv HO0) hb); replace BK115 := zbb BK115 hb; replace HB := zst HB hb; clear hb))
   go_meet
   case rel => exact ⟨_, (true), (by first | rfl | (simp; done) | (simp [*]; done)), H', ⟨by first | omega | exact Nat.le_refl _⟩, ⟨zv HO0⟩, ⟨zb BK115⟩, ⟨zo HB⟩⟩
 case rest =>
  clear HC3; try clear c1; try clear c2; try clear p2; try clear c3; try clear c6
  obtain ⟨kq, x18_2, rfl, HA, HJ2, HO_0, BK115, HB⟩ := hcut
  cases kq with
  | zero => exact absurd HA.out (by simp [lin_Sum.j0])
  | succ kj2 =>
   have H := HA.out; clear HA
   simp only [lin_Sum.j0] at H
   by_cases c9 : x18_2 = true
   ·subst c9
    have H1 : (some (0, ([] : List (S44)), 1)) = some (r1, r2, r3) := by rw [if_pos rfl] at H; exact H
    clear H; have H := H1; clear H1
    simp only [Option.some.injEq, Prod.mk.injEq] at H
    obtain ⟨rfl, rfl, rfl⟩ := H
    have hcz10_0 := zc0 BK115
    have hcz10_1 := zc1 BK115
    have hfz10_0 := zfz BK115 0
    have hfz10_1 := zfz BK115 1
    go_wp2
    refine bodyPost_ret (results_ct rfl _ _ gb115 41 #[.int .i64 0, .slice none 0 0] (0, 0) _ rfl (by refine zM ?_; refine blk_put (cs := #[.int .i64 0, .slice none 0 0]) ?_ 1 _ rfl; refine zM ?_; refine blk_put (cs := #[.int .i64 0, .slice none 0 0]) ?_ 0 _ rfl; refine zM ?_; exact BK115.out) Try.underlying41 rfl (by kernel_rfl)) rfl ?_
    exact ⟨_, zR (h := zL (h := zo HB))⟩
   ·replace c9 := Bool.eq_false_iff.mpr c9
    subst c9
    have H1 : (lin_Sum.l0 kj2 l1 ([] : List (S75)) l0 (l0.length : Int) 0) = some (r1, r2, r3) := by rw [if_neg (show ¬ (false = true) by decide)] at H; exact H
    clear H; have H := H1; clear H1
    have H' := zK H; clear H
    go_wp2
    go_loopg [6, 22] kj2 (fun kq v6 v22 w' => ∃ (x6_2 : List (S75)) (x22_2 : Int), v22 = .int .i64 x22_2 ∧ Aside0 (lin_Sum.l0 kq l1 x6_2 l0 (l0.length : Int) x22_2 = some (r1, r2, r3)) ∧ Aside0 (kq ≤ kj2) ∧ Aside0 (Kd.N k75 75 w' w.heap.size (fun k_ => (P0_ k_ ∨ w.heap.size ≤ k_) ∧ k_ ≠ gb115) v6 x6_2) ∧ Aside0 (Kd.V k41 41 w' w.heap.size (fun k_ => (P0_ k_ ∨ w.heap.size ≤ k_) ∧ some k_ ≠ (v6 : Value).ownBlock ∧ k_ ≠ gb115) (.slice A0 l0.length c0) l0) ∧ Aside0 (w'.heap[gb115]? = some (.cells #[.int .i64 0, (.slice none 0 0)] 41 (0, 0))) ∧ Aside0 (Below w.heap.size w w'))
    case atStart => exact ⟨(([] : List (S75))), (0), (by first | rfl | (simp; done) | (simp [*]; done)), H', ⟨Nat.le_refl _⟩, ⟨by first | exact Kd.S_nil _ _ _ _ _ | exact Kd.N_nil _ _ _ _ _ | exact Kd.V_nil _ _ _ _ _ | exact Kd.Q_nil _ _ _ _ _ | exact Kd.R_nil _ _ _ _ _⟩, ⟨by (with_reducible repeat (first | apply vA | apply vN | apply vD)); exact vM HO_0.out (fun _ hk => ⟨hk.1, ⟨(by simp [Value.ownBlock]), hk.2⟩⟩)⟩, ⟨zb BK115⟩, ⟨zo HB⟩⟩
    case round =>
     clear H'; try clear c1; try clear c2; try clear p2
     try clear c3; try clear c6; try clear c9; try clear hcz10_0
     try clear hcz10_1; try clear hfz10_0; try clear hfz10_1; try clear p2
     obtain ⟨x6_2, x22_2, rfl, HA, HK2, HO_6, HO_20, BK115, HB⟩ := hrel
     cases gk with
     | zero => exact absurd HA.out (by simp [lin_Sum.l0])
     | succ k2 =>
      have H := HA.out; clear HA
      simp only [lin_Sum.l0] at H
      by_cases c11 : x22_2 < (l0.length : Int)
      ·rw [if_pos c11] at H
       have c11b0 : decide (x22_2 < (l0.length : Int)) = true := decide_eq_true c11
       clear c11
       by_cases c12 : 0 ≤ x22_2
       ·rw [if_pos c12] at H
        have c12b0 : decide (0 ≤ x22_2) = true := decide_eq_true c12; clear c12
        by_cases c13 : x22_2 < (l0.length : Int)
        ·rw [if_pos c13] at H
         have c13b0 : decide (x22_2 < (l0.length : Int)) = true := decide_eq_true c13
         clear c13
         by_cases c14 : x22_2 < (l1.length : Int)
         ·rw [if_pos c14] at H
          have c14b0 : decide (x22_2 < (l1.length : Int)) = true := decide_eq_true c14
          clear c14
          by_cases c15 : x6_2.length < 3518437208883
          ·rw [if_pos c15] at H
           have LMc15 := zK c15; clear c15
           obtain ⟨y120, hy120⟩ : ∃ y_ : List (S75), y_ = (x6_2 ++ [(⟨(⟨(rd_T41 l0 x22_2).f0, (rd_T41 l0 x22_2).f1⟩ : S41), rd l1 x22_2⟩ : S75)]) := ⟨_, rfl⟩
           replace H : (lin_Sum.l0 k2 l1 y120 l0 (l0.length : Int) (wrap64 (x22_2 + 1))) = some (r1, r2, r3) := by first | (rw [hy120]; with_reducible exact H) | (have H2_ := (Option.bind_some _ _).symm.trans H; rw [hy120]; with_reducible exact H2_) | (have H2_ := (Option.bind_some _ _).symm.trans H; with_reducible exact H2_) | with_reducible exact H | (rw [hy120]; exact H) | exact H
           have Ny120 := zK hy120; clear hy120
           have H' := zK H; clear H
           have p117 : 0 ≤ (x22_2 : Int) := zdt
           have q117 : x22_2 < (l0.length : Int) := zdt
           obtain ⟨ad117, A117_1, c117_1, e117, hx117_0, hx117_1, hl117_1, hi117_1⟩ := at_T41 (Kd.V_reads' HO_20.out).2.2 x22_2 p117 q117
           cases e117
           obtain ⟨ce117, hce117, hMe117, hcc117⟩ := Kd.V_get HO_20.out z41 x22_2 p117 (by first | exact q117 | exact zdt | (have e_ := (Kd.V_reads' HO_20.out).1; omega))
           obtain ⟨ua117_1, uc117_1, rfl, ul117_1, ge117_1⟩ := k41_openF hMe117
           have hv117_1 := hcc117 1 _ rfl
           rw [add_field _ _ 1 (by omega)] at hv117_1
           replace hv117_1 := Option.some.inj (hv117_1.symm.trans hx117_1)
           injection hv117_1 with hva_ hvn_ hvc_
           rw [hva_] at ge117_1
           rw [hvc_] at ul117_1
           have HL117_1 := zK (show Kd.V k44 44 _ w.heap.size _ _ ((rd_T41 l0 x22_2).f1) from Kd.V_mk ul117_1 ge117_1)
           clear hva_ hvn_ hvc_ ge117_1 ul117_1 hcc117 hce117
           have HR117_1 := zK hi117_1
           have HC117_1 := zK hl117_1; clear hi117_1 hl117_1
           replace p117 := eq_true p117
           replace q117 := eq_true q117
           try go_wp2_with (first | ((with_reducible refine gate_dst (N := 8) rfl ?_); (try (refine zG (by rfl) ?_; dsimp only)); refine zBox (cs := #[.int .i64 0, .slice none 0 0]) (t := 41) ?_; intro gb118 hg w16 hbox hb; replace HO_6 := zK (Kd.N_below (Kd.N_elderB (zn HO_6) gb118 (Nat.le_of_eq hg.symm)) hb); replace HO_20 := zK (Kd.V_below (Kd.V_elderB (zv HO_20) gb118 (Nat.le_of_eq hg.symm)) hb); replace HL117_1 := zK (Kd.V_below (Kd.V_elderB (zv HL117_1) gb118 (Nat.le_of_eq hg.symm)) hb); replace HR117_1 := zK (Kd.C_below (by repeat (first | (with_reducible exact HR117_1.out) | (with_reducible refine cA ?_ _) | (with_reducible refine cN ?_ _) | (with_reducible refine cD ?_) | exact HR117_1.out)) hb); have BK118 := zK (hbox); have GW118 := zK ((by rw [hg]; exact (below_size (zo HB)) : w.heap.size ≤ gb118)); replace HB := zst HB hb; have NB115_118 := zn1 BK115 hg; have NB118_115 := zn2 BK115 hg; replace BK115 := zbb BK115 hb; clear hb hbox hg; have hnb17 := NB118_115.out; have hnc17 := NB115_118.out; have hcz18_0 := zc0 BK118; have hcz18_1 := zc1 BK118; have hfz18_0 := zfz BK118 0; have hfz18_1 := zfz BK118 1))
           have n0_ : Aside0 (Kd.N k75 75 ((w16.setCell ⟨gb118, 0, none⟩ (.int .i64 ((rd_T41 l0 x22_2).f0))).setCell ⟨gb118, 1, none⟩ (.slice A117_1 ((rd_T41 l0 x22_2).f1).length c117_1)) w.heap.size (fun k_ => (P0_ k_ ∨ w.heap.size ≤ k_) ∧ k_ ≠ gb115 ∧ k_ ≠ gb118) u6 x6_2) := ⟨by (with_reducible repeat (first | apply nA | apply nN | apply nD)); exact Kd.N_mono (Kd.N_far (p := ⟨gb118, 1, none⟩) (Kd.N_far (p := ⟨gb118, 0, none⟩) (Kd.N_mono HO_6.out (fun k_ hk => (⟨hk, hk.2⟩ : _ ∧ k_ ≠ gb118))) (fun _ hk => hk.2) (.int .i64 ((rd_T41 l0 x22_2).f0))) (fun _ hk => hk.2) (.slice A117_1 ((rd_T41 l0 x22_2).f1).length c117_1)) (fun _ hk => ⟨hk.1.1.1, ⟨hk.1.1.2, hk.1.2⟩⟩)⟩
           have n1_ : Aside0 (Kd.V k41 41 ((w16.setCell ⟨gb118, 0, none⟩ (.int .i64 ((rd_T41 l0 x22_2).f0))).setCell ⟨gb118, 1, none⟩ (.slice A117_1 ((rd_T41 l0 x22_2).f1).length c117_1)) w.heap.size (fun k_ => (P0_ k_ ∨ w.heap.size ≤ k_) ∧ some k_ ≠ (u6 : Value).ownBlock ∧ k_ ≠ gb115 ∧ k_ ≠ gb118) (.slice (some ad117) l0.length c0) l0) := ⟨by (with_reducible repeat (first | apply vA | apply vN | apply vD)); exact vM (vF (p := ⟨gb118, 1, none⟩) (vF (p := ⟨gb118, 0, none⟩) (vM HO_20.out (fun k_ hk => (⟨hk, hk.2⟩ : _ ∧ k_ ≠ gb118))) (fun _ hk => hk.2) (.int .i64 ((rd_T41 l0 x22_2).f0))) (fun _ hk => hk.2) (.slice A117_1 ((rd_T41 l0 x22_2).f1).length c117_1)) (fun _ hk => ⟨hk.1.1.1, ⟨hk.1.1.2.1, ⟨hk.1.1.2.2, hk.1.2⟩⟩⟩)⟩
           have n2_ : Aside0 (Kd.V k44 44 ((w16.setCell ⟨gb118, 0, none⟩ (.int .i64 ((rd_T41 l0 x22_2).f0))).setCell ⟨gb118, 1, none⟩ (.slice A117_1 ((rd_T41 l0 x22_2).f1).length c117_1)) w.heap.size (fun k_ => (P0_ k_ ∨ w.heap.size ≤ k_) ∧ some k_ ≠ (u6 : Value).ownBlock ∧ k_ ≠ gb115 ∧ k_ ≠ gb118) (.slice A117_1 ((rd_T41 l0 x22_2).f1).length c117_1) ((rd_T41 l0 x22_2).f1)) := ⟨by (with_reducible repeat (first | apply vA | apply vN | apply vD)); exact vM (vF (p := ⟨gb118, 1, none⟩) (vF (p := ⟨gb118, 0, none⟩) (vM HL117_1.out (fun k_ hk => (⟨hk, hk.2⟩ : _ ∧ k_ ≠ gb118))) (fun _ hk => hk.2) (.int .i64 ((rd_T41 l0 x22_2).f0))) (fun _ hk => hk.2) (.slice A117_1 ((rd_T41 l0 x22_2).f1).length c117_1)) (fun _ hk => ⟨hk.1.1.1, ⟨hk.1.1.2.1, ⟨hk.1.1.2.2, hk.1.2⟩⟩⟩)⟩
           have n3_ : Aside0 (((w16.setCell ⟨gb118, 0, none⟩ (.int .i64 ((rd_T41 l0 x22_2).f0))).setCell ⟨gb118, 1, none⟩ (.slice A117_1 ((rd_T41 l0 x22_2).f1).length c117_1)).heap[gb115]? = some (.cells #[.int .i64 0, .slice none 0 0] 41 (0, 0))) := ⟨zb BK115⟩
           have n4_ : Aside0 (((w16.setCell ⟨gb118, 0, none⟩ (.int .i64 ((rd_T41 l0 x22_2).f0))).setCell ⟨gb118, 1, none⟩ (.slice A117_1 ((rd_T41 l0 x22_2).f1).length c117_1)).heap[gb118]? = some (.cells #[.int .i64 ((rd_T41 l0 x22_2).f0), .slice A117_1 ((rd_T41 l0 x22_2).f1).length c117_1] 41 (0, 0))) := ⟨by refine zM ?_; refine blk_put (cs := #[.int .i64 ((rd_T41 l0 x22_2).f0), .slice none 0 0]) ?_ 1 _ rfl; refine zM ?_; refine blk_put (cs := #[.int .i64 0, .slice none 0 0]) ?_ 0 _ rfl; refine zM ?_; exact BK118.out⟩
           have n5_ : Aside0 (Below w.heap.size w ((w16.setCell ⟨gb118, 0, none⟩ (.int .i64 ((rd_T41 l0 x22_2).f0))).setCell ⟨gb118, 1, none⟩ (.slice A117_1 ((rd_T41 l0 x22_2).f1).length c117_1))) := ⟨zo HB⟩
           (try clear HO_6)
           (try clear HO_20)
           (try clear HL117_1)
           (try clear BK115)
           (try clear BK118)
           (try clear HB)
           generalize ((w16.setCell ⟨gb118, 0, none⟩ (.int .i64 ((rd_T41 l0 x22_2).f0))).setCell ⟨gb118, 1, none⟩ (.slice A117_1 ((rd_T41 l0 x22_2).f1).length c117_1)) = w19 at n0_ n1_ n2_ n3_ n4_ n5_ ⊢
           have HO_6 := n0_
           have HO_20 := n1_
           have HL117_1 := n2_
           have BK115 := n3_
           have BK118 := n4_
           have HB := n5_; clear n0_ n1_ n2_ n3_ n4_ n5_
           replace HO_6 := zK (nD HO_6.out)
           replace HO_20 := zK (vD HO_20.out)
           replace HL117_1 := zK (vD HL117_1.out)
           replace BK115 := zK (zD BK115.out)
           replace BK118 := zK (zD BK118.out)
           replace HB := zK (yD HB.out)
           have p119 : 0 ≤ (x22_2 : Int) := zdt
           have q119 : x22_2 < (l1.length : Int) := zdt
           obtain ⟨ad119, e119, hx119_0⟩ := Kd.at_int HR1.out x22_2 p119 q119
           have hw119_0 := hx119_0
           cases e119
           replace hx119_0 := zcl HB hx119_0
           replace p119 := eq_true p119
           replace q119 := eq_true q119
           refine start_ (n := 10) (S := fun w' => w'.cell? ⟨gb118, 0, none⟩ = some (.int .i64 ((rd_T41 l0 x22_2).f0)) ∧ w'.cell? ⟨gb118, 1, none⟩ = some (.slice A117_1 ((rd_T41 l0 x22_2).f1).length c117_1) ∧ w'.cell? (ad119.add (x22_2).toNat) = some (.int .i64 (rd l1 x22_2))) (ds := []) #[F_,F_,F_,F_,F_,F_,F_,F_,F_,F_] (by kernel_rfl) rfl rfl ⟨(blk_cell BK118.out 0).trans rfl, (blk_cell BK118.out 1).trans rfl, ((HB.out.cell (World.block_lt_of_cell? w _ hw119_0)).trans hw119_0)⟩ (fun hHeld => ?_); refine with_tabW lin_Sum.tab7 lin_Sum.bits7 (fun HT_ HW_ => ?_)
           generalize w19.drew = w20 at HO_6 HO_20 HL117_1 BK115 BK118 HB hx119_0 hHeld ⊢
           refine zPu 0 27 #[T_,F_,F_,F_,F_,F_,F_,F_,F_,F_] ?_
           refine zPu 2 29 #[T_,F_,T_,F_,F_,F_,F_,F_,F_,F_] ?_
           refine zPu 3 30 #[T_,F_,T_,T_,F_,F_,F_,F_,F_,F_] ?_
           refine zPu 4 31 #[T_,F_,T_,T_,T_,F_,F_,F_,F_,F_] ?_
           refine zTk 1 28 #[T_,T_,T_,T_,T_,F_,F_,F_,F_,F_] ?_
           refine zTk 5 32 #[T_,T_,T_,T_,T_,T_,F_,F_,F_,F_] ?_
           refine zPu 6 33 #[T_,T_,T_,T_,T_,T_,T_,F_,F_,F_] ?_
           refine one_ (i := 7) (N := some 34) #[T_,T_,T_,T_,T_,T_,T_,T_,F_,F_] rfl rfl (one_of HT_.out (by kernel_rfl)) (by decide) (fun K hK => ?_)
           refine value_ (w1 := ?_) (v := ?_) (by rfl) rfl ?_ ?_
           rotate_left 2
           ·go_simp
            constructor
            ·rfl
            ·rfl
           refine hK.out _ _ ⟨(blk_cell (zA BK118.out _) 0).trans rfl, (blk_cell (zA BK118.out _) 1).trans rfl, (World.cell?_alloc_lt _ _ _ (World.block_lt_of_cell? _ _ (((HB.out.cell (World.block_lt_of_cell? w _ hw119_0)).trans hw119_0)))).trans (((HB.out.cell (World.block_lt_of_cell? w _ hw119_0)).trans hw119_0))⟩ (fun hHeld => ?_)
           clear hK K
           refine zNm 34 ?_
           refine one_ (i := 8) (N := some 35) #[T_,T_,T_,T_,T_,T_,T_,T_,T_,F_] rfl rfl (one_of HT_.out (by kernel_rfl)) (by decide) (fun K hK => ?_)
           refine Kd.N_append_step k75 (w0 := w) w.heap.size (by rfl) (.tmp 27) (.tmp 34) 73 75 (.agg #[(.int .i64 0), (.slice none 0 0), (.int .i64 0)]) 40 rfl Try.underlying73 info75 rfl (by decide) (by omega) u6 x6_2 (⟨(⟨(rd_T41 l0 x22_2).f0, (rd_T41 l0 x22_2).f1⟩ : S41), rd l1 x22_2⟩ : S75) [.int .i64 ((rd_T41 l0 x22_2).f0), .slice A117_1 ((rd_T41 l0 x22_2).f1).length c117_1, .int .i64 (rd l1 x22_2)] (fun k_ => (P0_ k_ ∨ w.heap.size ≤ k_) ∧ k_ ≠ gb115 ∧ k_ ≠ gb118) (fun k_ => ((fun k_ => (P0_ k_ ∨ w.heap.size ≤ k_) ∧ k_ ≠ gb115 ∧ k_ ≠ gb118)) k_ ∧ some k_ ≠ (u6 : Value).ownBlock) rfl rfl ?aP (fun _ hk => hk) ?aF ?aO ?aB ?aS ?aL ?_
           (case aP => exact (k75_mkF _ _ (⟨(⟨(rd_T41 l0 x22_2).f0, (rd_T41 l0 x22_2).f1⟩ : S41), rd l1 x22_2⟩ : S75) (Kd.V_reads' (vM (ok' := (fun k_ => ((fun k_ => (P0_ k_ ∨ w.heap.size ≤ k_) ∧ k_ ≠ gb115 ∧ k_ ≠ gb118)) k_ ∧ some k_ ≠ (u6 : Value).ownBlock)) (HL117_1.out) (fun k_ hk => ⟨⟨hk.1, ⟨hk.2.2.1, hk.2.2.2⟩⟩, hk.2.1⟩))).2.1 (Kd.V_F (vM (ok' := (fun k_ => ((fun k_ => (P0_ k_ ∨ w.heap.size ≤ k_) ∧ k_ ≠ gb115 ∧ k_ ≠ gb118)) k_ ∧ some k_ ≠ (u6 : Value).ownBlock)) (HL117_1.out) (fun k_ hk => ⟨⟨hk.1, ⟨hk.2.2.1, hk.2.2.2⟩⟩, hk.2.1⟩)))))
           (case aB => exact (zo HB))
           (case aF => exact (fun k_ hk => ⟨(.inr (Nat.le_trans (below_size (zo HB)) hk)), Kd.freshB (g := gb115) (o := .cells #[.int .i64 0, .slice none 0 0] 41 (0, 0)) (zb BK115) k_ hk, Kd.freshB (g := gb118) (o := .cells #[.int .i64 ((rd_T41 l0 x22_2).f0), .slice A117_1 ((rd_T41 l0 x22_2).f1).length c117_1] 41 (0, 0)) (zb BK118) k_ hk⟩))
           (case aO => exact (zn HO_6))
           (case aS => exact (below_size (zo HB)))
           (case aL => have := LMc15.out; omega)
           intro v121 w21 ho hb hg hat
           rw [← Ny120.out] at ho
           replace HO_20 := zK (Kd.V_afterv (ok := (fun k_ => (P0_ k_ ∨ w.heap.size ≤ k_) ∧ k_ ≠ gb115 ∧ k_ ≠ gb118)) (by (with_reducible repeat (first | apply vA | apply vN | apply vD)); exact vM HO_20.out (fun _ hk => ⟨⟨hk.1, ⟨hk.2.2.1, hk.2.2.2⟩⟩, hk.2.1⟩)) hg hat)
           replace BK115 := zK (blk_grown (g := gb115) (o := .cells #[.int .i64 0, .slice none 0 0] 41 (0, 0)) (zb BK115) hg (Kd.N_ne HO_6.out BK115.out (by decide)))
           replace HL117_1 := zK (Kd.V_afterv (ok := (fun k_ => (P0_ k_ ∨ w.heap.size ≤ k_) ∧ k_ ≠ gb115 ∧ k_ ≠ gb118)) (by (with_reducible repeat (first | apply vA | apply vN | apply vD)); exact vM HL117_1.out (fun _ hk => ⟨⟨hk.1, ⟨hk.2.2.1, hk.2.2.2⟩⟩, hk.2.1⟩)) hg hat)
           replace BK118 := zK (blk_grown (g := gb118) (o := .cells #[.int .i64 ((rd_T41 l0 x22_2).f0), .slice A117_1 ((rd_T41 l0 x22_2).f1).length c117_1] 41 (0, 0)) (zb BK118) hg (Kd.N_ne HO_6.out BK118.out (by decide)))
           replace HB := zK (hb)
           have HO122 := zK (ho); clear HO_6 ho hb hg hat
           refine hK.out _ _ ⟨(blk_cell BK118.out 0).trans rfl, (blk_cell BK118.out 1).trans rfl, ((HB.out.cell (World.block_lt_of_cell? w _ hw119_0)).trans hw119_0)⟩ (fun hHeld => ?_)
           clear hK K
           refine zNm 35 ?_
           refine zPu 9 6 #[T_,T_,T_,T_,T_,T_,T_,T_,T_,T_] ?_
           refine done_ (done_of HT_.out (by kernel_rfl)) ?_
           try go_wp2
           go_roundg k2
           case measure => have := HJ2.out; have := HK2.out; omega
           case rel => exact ⟨(y120), (wrap64 (x22_2 + 1)), (by first | rfl | (simp; done) | (simp [*]; done)), H', ⟨by have := HJ2.out; have := HK2.out; omega⟩, ⟨by (with_reducible repeat (first | apply nA | apply nN | apply nD)); exact Kd.N_mono HO122.out (fun _ hk => ⟨hk.1, hk.2.1⟩)⟩, ⟨by (with_reducible repeat (first | apply vA | apply vN | apply vD)); exact vM HO_20.out (fun _ hk => ⟨hk.1.1, ⟨hk.2, hk.1.2.1⟩⟩)⟩, ⟨zb BK115⟩, ⟨zo HB⟩⟩
          ·rw [if_neg c15] at H
           exact absurd H (by simp)
         ·rw [if_neg c14] at H
          exact absurd H (by simp)
        ·rw [if_neg c13] at H
         exact absurd H (by simp)
       ·rw [if_neg c12] at H
        exact absurd H (by simp)
      ·rw [if_neg c11] at H
       have c11b0 : decide (x22_2 < (l0.length : Int)) = false := decide_eq_false c11
       clear c11; replace H := zob H
       obtain ⟨⟨t123, t124, t127⟩, A220, H⟩ := H
       replace H : (some (t123, t124, t127)) = some (r1, r2, r3) := H
       have A22 := zK A220; clear A220
       simp only [Option.some.injEq, Prod.mk.injEq] at H
       obtain ⟨rfl, rfl, rfl⟩ := H
       obtain ⟨Ao23, co23, eo23⟩ := Kd.N_slice HO_6.out
       subst eo23
       go_wp2_with (first | ((with_reducible refine zC (f := 35) rfl ?_); refine zGo (some 38) Try.func35 #[.slice Ao23 x6_2.length co23] ?_; (with_reducible refine (lin_sum.calls _ _ x6_2 t123 t124 t127 _ ?side1 ?side2 A22.out).mono ?_); (case side1 => repeat (first | exact (Kd.N_reads' HO_6.out).2.2 | (with_reducible refine cA ?_ _) | (with_reducible refine cN ?_ _) | (with_reducible refine cD ?_))); (case side2 => exact (Kd.N_reads' HO_6.out).2.1); rintro e w24 ⟨v125, rfl, ho0, hb⟩; refine ⟨_, rfl, ?_⟩; replace HO_6 := zK (Kd.N_elder' (zn HO_6) (Kd.R_base ho0) hb); replace HO_20 := zK (Kd.V_elder' (zv HO_20) (Kd.R_base ho0) hb); have HO126 := zK (Kd.R_lower (Kd.R_newM (M := fun k_ => (w.heap.size ≤ k_)) ho0 (below_size (zo HB)) (fun k_ h_ => h_)) (below_size (zo HB))); replace BK115 := zbb BK115 hb; replace HB := zst HB hb; clear hb; (try clear ho0); have hcz25_0 := zc0 BK115; have hcz25_1 := zc1 BK115; have hfz25_0 := zfz BK115 0; have hfz25_1 := zfz BK115 1; obtain ⟨Ao26, co26, eo26⟩ := Kd.R_slice HO126.out; subst eo26))
       refine bodyPost_ret (results_ct rfl _ _ gb115 41 #[.int .i64 t123, .slice Ao26 t124.length co26] (0, 0) _ rfl (by refine zM ?_; refine blk_put (cs := #[.int .i64 t123, .slice none 0 0]) ?_ 1 _ rfl; refine zM ?_; refine blk_put (cs := #[.int .i64 0, .slice none 0 0]) ?_ 0 _ rfl; refine zM ?_; exact BK115.out) Try.underlying41 rfl (by kernel_rfl)) rfl ?_
       exact ⟨_, by first | rfl | (simp [errW_none, errW_some] <;> rfl) | (simp [*, errW_none, errW_some] <;> rfl), by (with_reducible repeat (first | apply Kd.R_alloc | apply Kd.R_drewN | apply Kd.R_drew)); exact Kd.R_mono (Kd.R_far (p := ⟨gb115, 1, none⟩) (Kd.R_far (p := ⟨gb115, 0, none⟩) (Kd.R_types HO126.out BK115.out (by decide)) (fun _ hk => hk.2) (.int .i64 t123)) (fun _ hk => hk.2) (.slice Ao26 t124.length co26)) (fun _ hk => hk.1.1), zo HB⟩

/-! ### euclid_Check: function 11 -/
mutual
def euclid_Check.j0 : Nat → List (S41) → List Int → Int → Bool → Option (Int)
 | 0, _, _, _, _ => none
 | k + 1, x0, x1, x2, x19 => if x19 = true then (some 1) else ((lin_Sum.f k x0 x1).bind fun bt128 => (if bt128.2.2 = 0 then (euclid_Check.l0 k x2 bt128.2.1 (bt128.2.1.length : Int) 0 bt128.1 bt128.2.1) else (some bt128.2.2)))
def euclid_Check.l0 : Nat → Int → List (S44) → Int → Int → Int → List (S44) → Option (Int)
 | 0, _, _, _, _, _, _ => none
 | k + 1, x2, x30, x31, x32, x134000, x134001 => if x32 < x31 then (if 0 ≤ x32 then (if x32 < (x30.length : Int) then (if x2 = 0 then (none) else (if (Int.tmod ((rd_T44 x30 x32).f1) x2) = 0 then (euclid_Check.l0 k x2 x30 x31 (wrap64 (x32 + 1)) x134000 x134001) else (some 30))) else (none)) else (none)) else (if x2 = 0 then (none) else (if (Int.tmod x134000 x2) = 0 then (some 30) else (some 0)))
end
def euclid_Check.f (k : Nat) (l0 : List (S41)) (l1 : List Int) (a2 : Int) : Option (Int) := if (l0.length : Int) = (l1.length : Int) then (euclid_Check.j0 k l0 l1 a2 (decide (a2 < 2))) else (euclid_Check.j0 k l0 l1 a2 true)
theorem euclid_Check.mono_l : ∀ k, (∀ y0 y1 y2 y3, LeO (euclid_Check.j0 k y0 y1 y2 y3) (euclid_Check.j0 (k + 1) y0 y1 y2 y3)) ∧ (∀ y0 y1 y2 y3 y4 y5, LeO (euclid_Check.l0 k y0 y1 y2 y3 y4 y5) (euclid_Check.l0 (k + 1) y0 y1 y2 y3 y4 y5))
 | 0 => ⟨fun _ _ _ _ r h => by simp [euclid_Check.j0] at h, fun _ _ _ _ _ _ r h => by simp [euclid_Check.l0] at h⟩
 | k + 1 => by
  obtain ⟨ih0, ih1⟩ := euclid_Check.mono_l k
  refine ⟨?_, ?_⟩ <;> intros <;> first | unfold euclid_Check.j0 | unfold euclid_Check.l0
  all_goals repeat' first | (with_reducible first | exact ih0 .. | exact ih1 .. | exact lin_Sum.mono .. | exact LeO.refl _ | exact LeO.none _ | refine LeO.ite ?_ ?_ | refine LeO.bind ?_ (fun _ => ?_)) | exact ih0 .. | exact ih1 .. | exact lin_Sum.mono .. | exact LeO.none _ | refine LeO.ite ?_ ?_ | refine LeO.bind ?_ (fun _ => ?_)
theorem euclid_Check.mono : ∀ a0 a1 a2 k, LeO (euclid_Check.f k a0 a1 a2) (euclid_Check.f (k + 1) a0 a1 a2) := by
 intro a0 a1 a2 k
 obtain ⟨ih0, ih1⟩ := euclid_Check.mono_l k
 unfold euclid_Check.f
 repeat' first | (with_reducible first | exact ih0 .. | exact ih1 .. | exact lin_Sum.mono .. | exact LeO.refl _ | exact LeO.none _ | refine LeO.ite ?_ ?_ | refine LeO.bind ?_ (fun _ => ?_)) | exact ih0 .. | exact ih1 .. | exact lin_Sum.mono .. | exact LeO.none _ | refine LeO.ite ?_ ?_ | refine LeO.bind ?_ (fun _ => ?_)
theorem euclid_Check.calls (k : Nat) (A0 : Option Addr) (c0 : Nat) (l0 : List (S41)) (A1 : Option Addr) (c1 : Nat) (l1 : List Int) (a2 : Int) (r : Int) (w : World) (hr0 : Kd.C k41 w A0 l0.length l0) (hc0 : l0.length ≤ c0) (hr1 : Kd.C (Kd.int .i64) w A1 l1.length l1) (hc1 : l1.length ≤ c1) (h : euclid_Check.f k l0 l1 a2 = some r) :
  Calls Try.prog 11 #[.slice A0 l0.length c0, .slice A1 l1.length c1, .int .i64 a2] w fun e w' => e = .returned (.int .i64 r) ∧ Below w.heap.size w w' := by
 have hu41 := Try.underlying41
 have hu44 := Try.underlying44
 have HR0 := zK hr0
 have HC0 := zK hc0; clear hr0 hc0
 have HR1 := zK hr1
 have HC1 := zK hc1; clear hr1 hc1
 have HB := zK (Below.refl w.heap.size w)
 have H : (if (l0.length : Int) = (l1.length : Int) then (euclid_Check.j0 k l0 l1 a2 (decide (a2 < 2))) else (euclid_Check.j0 k l0 l1 a2 true)) = some r := h
 clear h
 have HC4 := zK H; clear H
 go_enter Try.func11, Try.ntmps11
 go_upto_region 1 with (fail)
 go_cut [19] (fun v19 wc => ∃ (kq : Nat) (x19_3 : Bool), v19 = .bool x19_3 ∧ Aside0 (euclid_Check.j0 kq l0 l1 a2 x19_3 = some r) ∧ Aside0 (kq ≤ k) ∧ Aside0 (Below w.heap.size w wc))
 case first =>
  have H := HC4.out; clear HC4
  by_cases c5 : (l0.length : Int) = (l1.length : Int)
  ·rw [if_pos c5] at H
   have c5b0 : ((l0.length : Int) == (l1.length : Int)) = true := beq_iff_eq.mpr c5
   have c5b1 : ((l0.length : Int) != (l1.length : Int)) = false := bne_eq_false_iff_eq.mpr c5
   have c5b2 : (l0.length == l1.length) = true := by first | simpa using c5 | (simp at c5 ⊢; omega)
   clear c5
   (first | rw [c5b0] | (simp only [i64_w, i32_w]; rw [c5b0]) | skip)
   have H' := zK H; clear H
   go_wp2
   go_meet
   case rel => exact ⟨_, (decide (a2 < 2)), (by first | rfl | (simp; done) | (simp [*]; done)), H', ⟨by first | omega | exact Nat.le_refl _⟩, ⟨zo HB⟩⟩
  ·rw [if_neg c5] at H
   have c5b0 : ((l0.length : Int) == (l1.length : Int)) = false := beq_eq_false_iff_ne.mpr c5
   have c5b1 : ((l0.length : Int) != (l1.length : Int)) = true := bne_iff_ne.mpr c5
   have c5b2 : (l0.length == l1.length) = false := by first | simpa using c5 | (simp at c5 ⊢; omega)
   (first | rw [c5b0] | (simp only [i64_w, i32_w]; rw [c5b0]) | skip)
   have H' := zK H; clear H
   go_wp2
   go_meet
   case rel => exact ⟨_, (true), (by first | rfl | (simp; done) | (simp [*]; done)), H', ⟨by first | omega | exact Nat.le_refl _⟩, ⟨zo HB⟩⟩
 case rest =>
  clear HC4; try clear c1; try clear p2; try clear c5; try clear c5b0; try clear c5b1; try clear c5b2
  obtain ⟨kq, x19_3, rfl, HA, HJ3, HB⟩ := hcut
  cases kq with
  | zero => exact absurd HA.out (by simp [euclid_Check.j0])
  | succ kj3 =>
   have H := HA.out; clear HA
   simp only [euclid_Check.j0] at H
   by_cases c6 : x19_3 = true
   ·subst c6
    have H1 : (some 1) = some r := by rw [if_pos rfl] at H; exact H
    clear H
    have H := H1; clear H1
    obtain rfl := Option.some.inj H
    go_wp2
    go_ret
    exact zR (h := zo HB)
   ·replace c6 := Bool.eq_false_iff.mpr c6
    subst c6
    have H1 : ((lin_Sum.f kj3 l0 l1).bind fun bt128 => (if bt128.2.2 = 0 then (euclid_Check.l0 kj3 a2 bt128.2.1 (bt128.2.1.length : Int) 0 bt128.1 bt128.2.1) else (some bt128.2.2))) = some r := by rw [if_neg (show ¬ (false = true) by decide)] at H; exact H
    clear H; have H := H1
    clear H1; replace H := zob H
    obtain ⟨⟨t128, t129, t132⟩, A70, H⟩ := H
    replace H : (if t132 = 0 then (euclid_Check.l0 kj3 a2 t129 (t129.length : Int) 0 t128 t129) else (some t132)) = some r := H
    have A7 := zK A70; clear A70
    by_cases c8 : t132 = 0
    ·rw [if_pos c8] at H
     have c8b0 : (t132 == 0) = true := beq_iff_eq.mpr c8
     have c8b1 : (t132 != 0) = false := bne_eq_false_iff_eq.mpr c8; clear c8
     have H' := zK H; clear H
     go_wp2_with (first | ((with_reducible refine zC (f := 25) rfl ?_); refine zGo (some 23) Try.func25 #[.slice A0 l0.length c0, .slice A1 l1.length c1] ?_; (with_reducible refine (lin_Sum.calls kj3 (fun k_ => k_ < w.heap.size) _ _ l0 _ _ l1 t128 t129 t132 _ ?side1 ?side2 ?side3 A7.out).mono ?_); (case side1 => exact Kd.V_mk HC0.out (Kd.F_below (Kd.C_F k41_heap HR0.out) (zo HB))); (case side2 => repeat (first | exact (Kd.C_below HR1.out HB.out) | (with_reducible refine cA ?_ _) | (with_reducible refine cN ?_ _) | (with_reducible refine cD ?_))); (case side3 => exact HC1.out); rintro e w9 ⟨v130, rfl, ho0, hb⟩; refine ⟨_, rfl, ?_⟩; have HO131 := zK (Kd.R_lower (Kd.R_mono (ok' := fun k_ => True) ho0 (fun _ hk_ => trivial)) (below_size (zo HB))); replace HB := zst HB hb; clear hb; (try clear ho0)) | ((with_reducible refine gate_dst (N := 7) rfl ?_); refine zBox (cs := #[.int .i64 0, .slice none 0 0]) (t := 41) ?_; intro gb133 hg w10 hbox hb; replace HO131 := zK (Kd.R_below (zr HO131) hb); have BK133 := zK (hbox); have GW133 := zK ((by rw [hg]; exact (below_size (zo HB)) : w.heap.size ≤ gb133)); replace HB := zst HB hb; clear hb hbox hg; have hcz11_0 := zc0 BK133; have hcz11_1 := zc1 BK133; have hfz11_0 := zfz BK133 0; have hfz11_1 := zfz BK133 1; obtain ⟨Ao12, co12, eo12⟩ := Kd.R_slice HO131.out; subst eo12))
     go_loopg [32] kj3 (fun kq v32 w' => ∃ (x32_2 : Int), v32 = .int .i64 x32_2 ∧ Aside0 (euclid_Check.l0 kq a2 t129 (t129.length : Int) x32_2 t128 t129 = some r) ∧ Aside0 (kq ≤ kj3) ∧ Aside0 (Kd.R k44 44 w' w.heap.size (fun _ => True) (.slice Ao12 t129.length co12) t129) ∧ Aside0 (Kd.R k44 44 w' w.heap.size (fun _ => True) (.slice Ao12 t129.length co12) t129) ∧ Aside0 (w'.heap[gb133]? = some (.cells #[.int .i64 t128, (.slice Ao12 t129.length co12)] 41 (0, 0))) ∧ Aside0 (Below w.heap.size w w'))
     case atStart => exact ⟨(0), (by first | rfl | (simp; done) | (simp [*]; done)), H', ⟨Nat.le_refl _⟩, ⟨by (with_reducible repeat (first | apply Kd.R_alloc | apply Kd.R_drewN | apply Kd.R_drew)); exact Kd.R_mono (Kd.R_far (p := ⟨gb133, 1, none⟩) (Kd.R_far (p := ⟨gb133, 0, none⟩) (Kd.R_types HO131.out BK133.out (by decide)) (fun _ hk => hk.2) (.int .i64 t128)) (fun _ hk => hk.2) (.slice Ao12 t129.length co12)) (fun _ hk => trivial)⟩, ⟨by (with_reducible repeat (first | apply Kd.R_alloc | apply Kd.R_drewN | apply Kd.R_drew)); exact Kd.R_mono (Kd.R_far (p := ⟨gb133, 1, none⟩) (Kd.R_far (p := ⟨gb133, 0, none⟩) (Kd.R_types HO131.out BK133.out (by decide)) (fun _ hk => hk.2) (.int .i64 t128)) (fun _ hk => hk.2) (.slice Ao12 t129.length co12)) (fun _ hk => trivial)⟩, ⟨by refine zM ?_; refine blk_put (cs := #[.int .i64 t128, .slice none 0 0]) ?_ 1 _ rfl; refine zM ?_; refine blk_put (cs := #[.int .i64 0, .slice none 0 0]) ?_ 0 _ rfl; refine zM ?_; exact BK133.out⟩, ⟨zo HB⟩⟩
     case round =>
      clear H'; try clear c1; try clear c2; try clear p2
      try clear c5; try clear c5b0; try clear c5b1; try clear c5b2
      try clear c6; try clear c8; try clear c8b0; try clear c8b1
      try clear c11; try clear hcz11_0; try clear hcz11_1; try clear hfz11_0; try clear hfz11_1; try clear p2
      obtain ⟨x32_2, rfl, HA, HK2, HO_30, HO_134001, BK133, HB⟩ := hrel
      cases gk with
      | zero => exact absurd HA.out (by simp [euclid_Check.l0])
      | succ k2 =>
       have H := HA.out; clear HA
       simp only [euclid_Check.l0] at H
       by_cases c13 : x32_2 < (t129.length : Int)
       ·rw [if_pos c13] at H
        have c13b0 : decide (x32_2 < (t129.length : Int)) = true := decide_eq_true c13
        clear c13
        by_cases c14 : 0 ≤ x32_2
        ·rw [if_pos c14] at H
         have c14b0 : decide (0 ≤ x32_2) = true := decide_eq_true c14; clear c14
         by_cases c15 : x32_2 < (t129.length : Int)
         ·rw [if_pos c15] at H
          have c15b0 : decide (x32_2 < (t129.length : Int)) = true := decide_eq_true c15
          clear c15
          by_cases c16 : a2 = 0
          ·rw [if_pos c16] at H
           exact absurd H (by simp)
          ·rw [if_neg c16] at H
           have c16b0 : (a2 == 0) = false := beq_eq_false_iff_ne.mpr c16
           have c16b1 : (a2 != 0) = true := bne_iff_ne.mpr c16
           by_cases c17 : (Int.tmod ((rd_T44 t129 x32_2).f1) a2) = 0
           ·rw [if_pos c17] at H
            have c17b0 : ((Int.tmod ((rd_T44 t129 x32_2).f1) a2) == 0) = true := beq_iff_eq.mpr c17
            have c17b1 : ((Int.tmod ((rd_T44 t129 x32_2).f1) a2) != 0) = false := bne_eq_false_iff_eq.mpr c17
            clear c17
            have H' := zK H; clear H
            have p134 : 0 ≤ (x32_2 : Int) := zdt
            have q134 : x32_2 < (t129.length : Int) := zdt
            obtain ⟨ad134, e134, hx134_0, hx134_1⟩ := at_T44 (Kd.R_reads' HO_30.out).2.2 x32_2 p134 q134
            cases e134
            replace p134 := eq_true p134
            replace q134 := eq_true q134
            go_wp2_with (first | ((with_reducible refine gate_dst (N := 10) rfl ?_); refine zBox (cs := #[.int .i64 0, .int .i64 0]) (t := 44) ?_; intro gb135 hg w18 hbox hb; replace HO_30 := zK (Kd.R_below (Kd.R_elderB (zr HO_30) gb135 (Nat.le_of_eq hg.symm)) hb); replace HO_134001 := zK (Kd.R_below (Kd.R_elderB (zr HO_134001) gb135 (Nat.le_of_eq hg.symm)) hb); have BK135 := zK (hbox); have GW135 := zK ((by rw [hg]; exact (below_size (zo HB)) : w.heap.size ≤ gb135)); replace HB := zst HB hb; have NB133_135 := zn1 BK133 hg; have NB135_133 := zn2 BK133 hg; replace BK133 := zbb BK133 hb; clear hb hbox hg; have hnb19 := NB135_133.out; have hnc19 := NB133_135.out; have hcz20_0 := zc0 BK135; have hcz20_1 := zc1 BK135; have hfz20_0 := zfz BK135 0; have hfz20_1 := zfz BK135 1))
            go_roundg k2
            case measure => have := HJ3.out; have := HK2.out; omega
            case rel => exact ⟨(wrap64 (x32_2 + 1)), (by first | rfl | (simp; done) | (simp [*]; done)), H', ⟨by have := HJ3.out; have := HK2.out; omega⟩, ⟨by (with_reducible repeat (first | apply Kd.R_alloc | apply Kd.R_drewN | apply Kd.R_drew)); exact Kd.R_mono (Kd.R_far (p := ⟨gb135, 1, none⟩) (Kd.R_far (p := ⟨gb135, 0, none⟩) (Kd.R_mono HO_30.out (fun k_ hk => (⟨hk, hk.2⟩ : _ ∧ k_ ≠ gb135))) (fun _ hk => hk.2) (.int .i64 ((rd_T44 t129 x32_2).f0))) (fun _ hk => hk.2) (.int .i64 ((rd_T44 t129 x32_2).f1))) (fun _ hk => trivial)⟩, ⟨by (with_reducible repeat (first | apply Kd.R_alloc | apply Kd.R_drewN | apply Kd.R_drew)); exact Kd.R_mono (Kd.R_far (p := ⟨gb135, 1, none⟩) (Kd.R_far (p := ⟨gb135, 0, none⟩) (Kd.R_mono HO_134001.out (fun k_ hk => (⟨hk, hk.2⟩ : _ ∧ k_ ≠ gb135))) (fun _ hk => hk.2) (.int .i64 ((rd_T44 t129 x32_2).f0))) (fun _ hk => hk.2) (.int .i64 ((rd_T44 t129 x32_2).f1))) (fun _ hk => trivial)⟩, ⟨zb BK133⟩, ⟨zo HB⟩⟩
           ·rw [if_neg c17] at H
            have c17b0 : ((Int.tmod ((rd_T44 t129 x32_2).f1) a2) == 0) = false := beq_eq_false_iff_ne.mpr c17
            have c17b1 : ((Int.tmod ((rd_T44 t129 x32_2).f1) a2) != 0) = true := bne_iff_ne.mpr c17
            obtain rfl := Option.some.inj H
            have p134 : 0 ≤ (x32_2 : Int) := zdt
            have q134 : x32_2 < (t129.length : Int) := zdt
            obtain ⟨ad134, e134, hx134_0, hx134_1⟩ := at_T44 (Kd.R_reads' HO_30.out).2.2 x32_2 p134 q134
            cases e134
            replace p134 := eq_true p134
            replace q134 := eq_true q134
            go_wp2_with (first | ((with_reducible refine gate_dst (N := 10) rfl ?_); refine zBox (cs := #[.int .i64 0, .int .i64 0]) (t := 44) ?_; intro gb135 hg w21 hbox hb; replace HO_30 := zK (Kd.R_below (Kd.R_elderB (zr HO_30) gb135 (Nat.le_of_eq hg.symm)) hb); replace HO_134001 := zK (Kd.R_below (Kd.R_elderB (zr HO_134001) gb135 (Nat.le_of_eq hg.symm)) hb); have BK135 := zK (hbox); have GW135 := zK ((by rw [hg]; exact (below_size (zo HB)) : w.heap.size ≤ gb135)); replace HB := zst HB hb; have NB133_135 := zn1 BK133 hg; have NB135_133 := zn2 BK133 hg; replace BK133 := zbb BK133 hb; clear hb hbox hg; have hnb22 := NB135_133.out; have hnc22 := NB133_135.out; have hcz23_0 := zc0 BK135; have hcz23_1 := zc1 BK135; have hfz23_0 := zfz BK135 0; have hfz23_1 := zfz BK135 1))
            go_ret
            exact zR (h := zo HB)
         ·rw [if_neg c15] at H
          exact absurd H (by simp)
        ·rw [if_neg c14] at H
         exact absurd H (by simp)
       ·rw [if_neg c13] at H
        have c13b0 : decide (x32_2 < (t129.length : Int)) = false := decide_eq_false c13
        clear c13
        by_cases c24 : a2 = 0
        ·rw [if_pos c24] at H
         exact absurd H (by simp)
        ·rw [if_neg c24] at H
         have c24b0 : (a2 == 0) = false := beq_eq_false_iff_ne.mpr c24
         have c24b1 : (a2 != 0) = true := bne_iff_ne.mpr c24
         by_cases c25 : (Int.tmod t128 a2) = 0
         ·rw [if_pos c25] at H
          have c25b0 : ((Int.tmod t128 a2) == 0) = true := beq_iff_eq.mpr c25
          have c25b1 : ((Int.tmod t128 a2) != 0) = false := bne_eq_false_iff_eq.mpr c25
          clear c25
          obtain rfl := Option.some.inj H
          have hcz26_0 := zc0 BK133
          have hcz26_1 := zc1 BK133
          have hfz26_0 := zfz BK133 0
          have hfz26_1 := zfz BK133 1
          go_wp2
          go_ret
          exact zR (h := zo HB)
         ·rw [if_neg c25] at H
          have c25b0 : ((Int.tmod t128 a2) == 0) = false := beq_eq_false_iff_ne.mpr c25
          have c25b1 : ((Int.tmod t128 a2) != 0) = true := bne_iff_ne.mpr c25
          obtain rfl := Option.some.inj H
          have hcz27_0 := zc0 BK133
          have hcz27_1 := zc1 BK133
          have hfz27_0 := zfz BK133 0
          have hfz27_1 := zfz BK133 1
          go_wp2
          go_ret
          exact zR (h := zo HB)
    ·rw [if_neg c8] at H
     have c8b0 : (t132 == 0) = false := beq_eq_false_iff_ne.mpr c8
     have c8b1 : (t132 != 0) = true := bne_iff_ne.mpr c8
     obtain rfl := Option.some.inj H
     go_wp2_with (first | ((with_reducible refine zC (f := 25) rfl ?_); refine zGo (some 23) Try.func25 #[.slice A0 l0.length c0, .slice A1 l1.length c1] ?_; (with_reducible refine (lin_Sum.calls kj3 (fun k_ => k_ < w.heap.size) _ _ l0 _ _ l1 t128 t129 t132 _ ?side1 ?side2 ?side3 A7.out).mono ?_); (case side1 => exact Kd.V_mk HC0.out (Kd.F_below (Kd.C_F k41_heap HR0.out) (zo HB))); (case side2 => repeat (first | exact (Kd.C_below HR1.out HB.out) | (with_reducible refine cA ?_ _) | (with_reducible refine cN ?_ _) | (with_reducible refine cD ?_))); (case side3 => exact HC1.out); rintro e w28 ⟨v130, rfl, ho0, hb⟩; refine ⟨_, rfl, ?_⟩; have HO131 := zK (Kd.R_lower (Kd.R_mono (ok' := fun k_ => True) ho0 (fun _ hk_ => trivial)) (below_size (zo HB))); replace HB := zst HB hb; clear hb; (try clear ho0)) | ((with_reducible refine gate_dst (N := 7) rfl ?_); refine zBox (cs := #[.int .i64 0, .slice none 0 0]) (t := 41) ?_; intro gb133 hg w29 hbox hb; replace HO131 := zK (Kd.R_below (zr HO131) hb); have BK133 := zK (hbox); have GW133 := zK ((by rw [hg]; exact (below_size (zo HB)) : w.heap.size ≤ gb133)); replace HB := zst HB hb; clear hb hbox hg; have hcz30_0 := zc0 BK133; have hcz30_1 := zc1 BK133; have hfz30_0 := zfz BK133 0; have hfz30_1 := zfz BK133 1; obtain ⟨Ao31, co31, eo31⟩ := Kd.R_slice HO131.out; subst eo31))
     go_ret
     exact zR (h := zo HB)

/-! ### ineq_Right: function 56 -/
def ineq_Right.f (k : Nat) (a0_0 : Int) (l0_1 : List (S44)) (a0_2 : Bool) : Option (Int) := (lin_Right.f k a0_0 l0_1).bind fun t137 => (some t137)
theorem ineq_Right.mono : ∀ a0 a1 a2 k, LeO (ineq_Right.f k a0 a1 a2) (ineq_Right.f (k + 1) a0 a1 a2) := by
 intro a0 a1 a2 k
 unfold ineq_Right.f
 repeat' first | (with_reducible first | exact lin_Right.mono .. | exact LeO.refl _ | exact LeO.none _ | refine LeO.ite ?_ ?_ | refine LeO.bind ?_ (fun _ => ?_)) | exact lin_Right.mono .. | exact LeO.none _ | refine LeO.ite ?_ ?_ | refine LeO.bind ?_ (fun _ => ?_)
theorem ineq_Right.calls (k : Nat) (a0_0 : Int) (A0_1 : Option Addr) (c0_1 : Nat) (l0_1 : List (S44)) (a0_2 : Bool) (r : Int) (w : World) (hr0_1 : Kd.C k44 w A0_1 l0_1.length l0_1) (hc0_1 : l0_1.length ≤ c0_1) (h : ineq_Right.f k a0_0 l0_1 a0_2 = some r) :
  Calls Try.prog 56 #[.agg #[.int .i64 a0_0, .slice A0_1 l0_1.length c0_1, .bool a0_2]] w fun e w' => e = .returned (.int .i64 r) ∧ Below w.heap.size w w' := by
 have hu112 := Try.underlying112
 have hu41 := Try.underlying41
 have HR0_1 := zK hr0_1
 have HC0_1 := zK hc0_1; clear hr0_1 hc0_1
 have HB := zK (Below.refl w.heap.size w)
 have H : ((lin_Right.f k a0_0 l0_1).bind fun t137 => (some t137)) = some r := h
 clear h; replace H := zob H
 obtain ⟨t137, A20, H⟩ := H; replace H : (some t137) = some r := H
 have A2 := zK A20; clear A20
 obtain rfl := Option.some.inj H
 go_enter Try.func56, Try.ntmps56
 go_wp2_with (first | ((with_reducible refine gate_dst (N := 1) rfl ?_); refine zBx HB (cs := #[.int .i64 a0_0, .slice A0_1 l0_1.length c0_1, .bool a0_2]) (t := 112) ?_; clear HB; intro gb136 hg w3 BK136 GW136 hb HB; clear hb hg; have hcz4_0 := zc0 BK136; have hcz4_1 := zc1 BK136; have hcz4_2 := zc2 BK136; have hfz4_0 := zfz BK136 0; have hfz4_1 := zfz BK136 1; have hfz4_2 := zfz BK136 2) | ((with_reducible refine zC (f := 18) rfl ?_); refine zGo (some 5) Try.func18 #[.agg #[.int .i64 a0_0, .slice A0_1 l0_1.length c0_1]] ?_; (with_reducible refine (lin_Right.calls k a0_0 _ _ l0_1 t137 _ ?side1 ?side2 A2.out).mono ?_); (case side1 => repeat (first | exact (Kd.C_below HR0_1.out HB.out) | (with_reducible refine cA ?_ _) | (with_reducible refine cN ?_ _) | (with_reducible refine cD ?_))); (case side2 => exact HC0_1.out); rintro e w5 ⟨rfl, hb⟩; refine ⟨_, rfl, ?_⟩; replace BK136 := zbb BK136 hb; replace HB := zst HB hb; clear hb))
 go_ret
 exact zR (h := zo HB)

end Go.Proofs.Ytjinmlpekecmbaa.PEuclidNone
