/- What the call of each function that the law reaches comes to: it answers as the plain function of the same name does, wherever that one answers; and the law itself out of its plain form. Written by a program of this session (an extended copy of the printer); no condition but what stands in each theorem. -/
import Derived.Test.YtkfbfgkdabljiaaPShadowDarkx0
import Derived.Test.YtkfbfgkdabljiaaPShadowDarkx1
import Derived.Test.YtkfbfgkdabljiaaPShadowDarkx2
import Derived.Test.YtkfbfgkdabljiaaPShadowDarkx6
namespace Go.Proofs.Ytkfbfgkdabljiaa.PShadowDark
open Go.RowKit Go.Proofs.YtkfbfgkdabljiaaW.PrintWords Go.Proofs.YtkfbfgkdabljiaaW.PrintLast Go.Proofs.YtkfbfgkdabljiaaW.PrintMore
open Go.Proofs.YtkfbfgkdabljiaaW.PrintWords renaming blk_drewN → zN, blk_drew → zD, blk_alloc → zA, below_alloc → yA, pw_below_drewN → yN, below_drew1 → yD, below_set → yS, gate_callee → zC
open Go.Proofs.YtkfbfgkdabljiaaW.PrintWords.Kd renaming C_alloc → cA, C_drewN → cN, C_drew → cD
open Go.Proofs.YtkfbfgkdabljiaaW.PrintWords.Aside0 renaming mk → zK
attribute [local go_sem] max2_int min2_int max_two min_two max_three min_three max_four min_four   -- for this text's walks alone
set_option linter.unusedVariables false
set_option linter.unusedSimpArgs false

/-! ### shadow_Between: function 29 -/
def shadow_Between.l0 : Nat → Int → List Int → Int → Int → Bool → Bool → List (S70) → Int → Int → Option (Int × Int × Bool × Bool × Int)
 | 0, _, _, _, _, _, _, _, _, _ => none
 | k + 1, x1, x2, x11, x12, x13, x14, x28, x29, x30 => if x30 < x29 then (if 0 ≤ x30 then (if x30 < (x28.length : Int) then ((lin_By.f k ((rd_T70 x28 x30).f0.f0) ((rd_T70 x28 x30).f0.f1) x1).bind fun t243 => (if t243 = 0 then (shadow_Between.l0 k x1 x2 x11 x12 x13 x14 x28 x29 (wrap64 (x30 + 1))) else ((shadow_rest.f k ((rd_T70 x28 x30).f0.f0) ((rd_T70 x28 x30).f0.f1) x1).bind fun bt244 => ((lin_Eval.f k bt244.1 bt244.2 x2).bind fun bt248 => (if bt248.2 = 0 then (if t243 < 0 then ((shadow_least.f bt248.1 t243).bind fun t250 => (if x13 = true then (if t250 > x11 then (shadow_Between.l0 k x1 x2 t250 x12 true x14 x28 x29 (wrap64 (x30 + 1))) else (shadow_Between.l0 k x1 x2 x11 x12 x13 x14 x28 x29 (wrap64 (x30 + 1)))) else (shadow_Between.l0 k x1 x2 t250 x12 true x14 x28 x29 (wrap64 (x30 + 1))))) else ((num_Ceil.f bt248.1 t243).bind fun bt251 => ((num_Neg.f bt251.1).bind fun bt253 => (if bt253.2 = true then (if x14 = true then (if bt253.1 < x12 then (shadow_Between.l0 k x1 x2 x11 bt253.1 x13 true x28 x29 (wrap64 (x30 + 1))) else (shadow_Between.l0 k x1 x2 x11 x12 x13 x14 x28 x29 (wrap64 (x30 + 1)))) else (shadow_Between.l0 k x1 x2 x11 bt253.1 x13 true x28 x29 (wrap64 (x30 + 1)))) else (some (0, 0, false, false, 5)))))) else (some (0, 0, false, false, bt248.2))))))) else (none)) else (none)) else (some (x11, x12, x13, x14, 0))
def shadow_Between.f (k : Nat) (l0 : List (S70)) (a1 : Int) (l2 : List Int) : Option (Int × Int × Bool × Bool × Int) := (shadow_wrong.f k l0 a1).bind fun t240 => (if t240 = true then (some (0, 0, false, false, 1)) else (shadow_Between.l0 k a1 l2 0 0 false false l0 (l0.length : Int) 0))
theorem shadow_Between.mono_l : ∀ k, (∀ y0 y1 y2 y3 y4 y5 y6 y7 y8, LeO (shadow_Between.l0 k y0 y1 y2 y3 y4 y5 y6 y7 y8) (shadow_Between.l0 (k + 1) y0 y1 y2 y3 y4 y5 y6 y7 y8))
 | 0 => fun _ _ _ _ _ _ _ _ _ r h => by simp [shadow_Between.l0] at h
 | k + 1 => by
  have ih0 := shadow_Between.mono_l k
  ·intro y0 y1 y2 y3 y4 y5 y6 y7 y8
   unfold shadow_Between.l0
   repeat' first
   | (with_reducible exact ih0 _ _ _ _ _ _ _ _ _)
   | (with_reducible exact lin_By.mono _ _ _ _)
   | (with_reducible exact lin_Eval.mono _ _ _ _)
   | (with_reducible exact shadow_rest.mono _ _ _ _)
   | (with_reducible exact shadow_wrong.mono _ _ _)
   | (with_reducible exact LeO.refl _)
   | (with_reducible exact LeO.none _)
   | (with_reducible refine LeO.ite ?_ ?_)
   | (with_reducible refine LeO.bind ?_ (fun _ => ?_))
   | exact ih0 _ _ _ _ _ _ _ _ _
   | exact lin_By.mono _ _ _ _
   | exact lin_Eval.mono _ _ _ _
   | exact shadow_rest.mono _ _ _ _
   | exact shadow_wrong.mono _ _ _
   | exact LeO.none _
   | refine LeO.ite ?_ ?_
   | refine LeO.bind ?_ (fun _ => ?_)
theorem shadow_Between.mono : ∀ a0 a1 a2 k, LeO (shadow_Between.f k a0 a1 a2) (shadow_Between.f (k + 1) a0 a1 a2) := by
 intro a0 a1 a2 k
 have ih0 := shadow_Between.mono_l k
 unfold shadow_Between.f
 repeat' first
   | (with_reducible exact ih0 _ _ _ _ _ _ _ _ _)
   | (with_reducible exact lin_By.mono _ _ _ _)
   | (with_reducible exact lin_Eval.mono _ _ _ _)
   | (with_reducible exact shadow_rest.mono _ _ _ _)
   | (with_reducible exact shadow_wrong.mono _ _ _)
   | (with_reducible exact LeO.refl _)
   | (with_reducible exact LeO.none _)
   | (with_reducible refine LeO.ite ?_ ?_)
   | (with_reducible refine LeO.bind ?_ (fun _ => ?_))
   | exact ih0 _ _ _ _ _ _ _ _ _
   | exact lin_By.mono _ _ _ _
   | exact lin_Eval.mono _ _ _ _
   | exact shadow_rest.mono _ _ _ _
   | exact shadow_wrong.mono _ _ _
   | exact LeO.none _
   | refine LeO.ite ?_ ?_
   | refine LeO.bind ?_ (fun _ => ?_)
set_option maxHeartbeats 8000000 in
set_option maxRecDepth 100000 in
theorem shadow_Between.calls (k : Nat) (A0 : Option Addr) (c0 : Nat) (l0 : List (S70)) (a1 : Int) (A2 : Option Addr) (c2 : Nat) (l2 : List Int) (r1 : Int) (r2 : Int) (r3 : Bool) (r4 : Bool) (r5 : Int) (w : World) (hr0 : Kd.C k70 w A0 l0.length l0) (hc0 : l0.length ≤ c0) (hr2 : Kd.C (Kd.int .i64) w A2 l2.length l2) (hc2 : l2.length ≤ c2) (h : shadow_Between.f k l0 a1 l2 = some (r1, r2, r3, r4, r5)) :
  Calls Try.prog 29 #[.slice A0 l0.length c0, .int .i64 a1, .slice A2 l2.length c2] w fun e w' => e = .returned (.tuple #[.int .i64 r1, .int .i64 r2, .bool r3, .bool r4, .int .i64 r5]) ∧ Below w.heap.size w w' := by
 have hu70 := Try.underlying70
 have hu62 := Try.underlying62
 have HR0 := zK hr0
 have HC0 := zK hc0; clear hr0 hc0
 have HR2 := zK hr2
 have HC2 := zK hc2; clear hr2 hc2
 have HB := zK (Below.refl w.heap.size w)
 have H : ((shadow_wrong.f k l0 a1).bind fun t240 => (if t240 = true then (some (0, 0, false, false, 1)) else (shadow_Between.l0 k a1 l2 0 0 false false l0 (l0.length : Int) 0))) = some (r1, r2, r3, r4, r5) := h
 clear h; replace H := Option.bind_eq_some_iff.mp H
 obtain ⟨t240, A40, H⟩ := H
 replace H : (if t240 = true then (some (0, 0, false, false, 1)) else (shadow_Between.l0 k a1 l2 0 0 false false l0 (l0.length : Int) 0)) = some (r1, r2, r3, r4, r5) := H
 have A4 := zK A40; clear A40
 by_cases c5 : t240 = true
 ·subst c5
  have H1 : (some (0, 0, false, false, 1)) = some (r1, r2, r3, r4, r5) := by rw [if_pos rfl] at H; exact H
  clear H; have H := H1; clear H1
  simp only [Option.some.injEq, Prod.mk.injEq] at H
  obtain ⟨rfl, rfl, rfl, rfl, rfl⟩ := H
  go_enter Try.func29, Try.ntmps29
  go_wp2_with (first | ((with_reducible refine zC (f := 56) rfl ?_); refine goesL_ (some 27) rfl rfl Try.func56 (by kernel_rfl) rfl #[.slice A0 l0.length c0, .int .i64 a1] rfl (by (try simp only [List.map_toArray, List.map_cons, List.map_nil]); first | done | rfl | (simp only [List.length_drop, List.length_take]; rfl)) ?_; (with_reducible refine (shadow_wrong.calls k _ _ l0 a1 true _ ?side1 ?side2 A4.out).mono ?_); (case side1 => repeat (first | exact HR0.out | (with_reducible refine cA ?_ _) | (with_reducible refine cN ?_ _) | (with_reducible refine cD ?_))); (case side2 => exact HC0.out); rintro e w6 ⟨rfl, hb⟩; refine ⟨_, rfl, ?_⟩; replace HB := zK (below_step (zo HB) hb); (try clear hb); (try clear hb2); (try clear hk); (try clear hi)))
  refine bodyPost_ret (results_list (rs := [.tmp 6, .tmp 7, .tmp 8, .tmp 9, .tmp 10]) rfl (by simp) (.tmp (.tmp (.tmp (.tmp (.tmp .nil)))))) rfl ?_
  exact ⟨by first | rfl | (simp [errW_none, errW_some] <;> rfl) | (simp [*, errW_none, errW_some] <;> rfl), zo HB⟩
 ·replace c5 := Bool.eq_false_iff.mpr c5
  subst c5
  have H1 : (shadow_Between.l0 k a1 l2 0 0 false false l0 (l0.length : Int) 0) = some (r1, r2, r3, r4, r5) := by rw [if_neg (show ¬ (false = true) by decide)] at H; exact H
  clear H; have H := H1; clear H1
  have H' := zK H; clear H
  go_enter Try.func29, Try.ntmps29
  go_wp2_with (first | ((with_reducible refine zC (f := 56) rfl ?_); refine goesL_ (some 27) rfl rfl Try.func56 (by kernel_rfl) rfl #[.slice A0 l0.length c0, .int .i64 a1] rfl (by (try simp only [List.map_toArray, List.map_cons, List.map_nil]); first | done | rfl | (simp only [List.length_drop, List.length_take]; rfl)) ?_; (with_reducible refine (shadow_wrong.calls k _ _ l0 a1 false _ ?side1 ?side2 A4.out).mono ?_); (case side1 => repeat (first | exact HR0.out | (with_reducible refine cA ?_ _) | (with_reducible refine cN ?_ _) | (with_reducible refine cD ?_))); (case side2 => exact HC0.out); rintro e w7 ⟨rfl, hb⟩; refine ⟨_, rfl, ?_⟩; replace HB := zK (below_step (zo HB) hb); (try clear hb); (try clear hb2); (try clear hk); (try clear hi)))
  go_loopg [11, 12, 13, 14, 30] k (fun kq v11 v12 v13 v14 v30 w' => ∃ (x11_1 : Int) (x12_1 : Int) (x13_1 : Bool) (x14_1 : Bool) (x30_1 : Int), v11 = .int .i64 x11_1 ∧ v12 = .int .i64 x12_1 ∧ v13 = .bool x13_1 ∧ v14 = .bool x14_1 ∧ v30 = .int .i64 x30_1 ∧ Aside0 (shadow_Between.l0 kq a1 l2 x11_1 x12_1 x13_1 x14_1 l0 (l0.length : Int) x30_1 = some (r1, r2, r3, r4, r5)) ∧ Aside0 (kq ≤ k) ∧ Aside0 (Below w.heap.size w w'))
  case atStart => exact ⟨(0), (0), (false), (false), (0), (by first | rfl | (simp; done) | (simp [*]; done)), (by first | rfl | (simp; done) | (simp [*]; done)), (by first | rfl | (simp; done) | (simp [*]; done)), (by first | rfl | (simp; done) | (simp [*]; done)), (by first | rfl | (simp; done) | (simp [*]; done)), H', ⟨Nat.le_refl _⟩, ⟨zo HB⟩⟩
  case round =>
   clear H'; try clear c2; try clear p2; try clear c5
   obtain ⟨x11_1, x12_1, x13_1, x14_1, x30_1, rfl, rfl, rfl, rfl, rfl, HA, HK1, HB⟩ := hrel
   cases gk with
   | zero => exact absurd HA.out (by simp [shadow_Between.l0])
   | succ k1 =>
    have H := HA.out; clear HA
    simp only [shadow_Between.l0] at H
    by_cases c8 : x30_1 < (l0.length : Int)
    ·rw [if_pos c8] at H
     have c8b0 : decide (x30_1 < (l0.length : Int)) = true := decide_eq_true c8
     clear c8
     by_cases c9 : 0 ≤ x30_1
     ·rw [if_pos c9] at H
      have c9b0 : decide (0 ≤ x30_1) = true := decide_eq_true c9; clear c9
      by_cases c10 : x30_1 < (l0.length : Int)
      ·rw [if_pos c10] at H
       have c10b0 : decide (x30_1 < (l0.length : Int)) = true := decide_eq_true c10
       clear c10; replace H := Option.bind_eq_some_iff.mp H
       obtain ⟨t243, A110, H⟩ := H
       replace H : (if t243 = 0 then (shadow_Between.l0 k1 a1 l2 x11_1 x12_1 x13_1 x14_1 l0 (l0.length : Int) (wrap64 (x30_1 + 1))) else ((shadow_rest.f k1 ((rd_T70 l0 x30_1).f0.f0) ((rd_T70 l0 x30_1).f0.f1) a1).bind fun bt244 => ((lin_Eval.f k1 bt244.1 bt244.2 l2).bind fun bt248 => (if bt248.2 = 0 then (if t243 < 0 then ((shadow_least.f bt248.1 t243).bind fun t250 => (if x13_1 = true then (if t250 > x11_1 then (shadow_Between.l0 k1 a1 l2 t250 x12_1 true x14_1 l0 (l0.length : Int) (wrap64 (x30_1 + 1))) else (shadow_Between.l0 k1 a1 l2 x11_1 x12_1 x13_1 x14_1 l0 (l0.length : Int) (wrap64 (x30_1 + 1)))) else (shadow_Between.l0 k1 a1 l2 t250 x12_1 true x14_1 l0 (l0.length : Int) (wrap64 (x30_1 + 1))))) else ((num_Ceil.f bt248.1 t243).bind fun bt251 => ((num_Neg.f bt251.1).bind fun bt253 => (if bt253.2 = true then (if x14_1 = true then (if bt253.1 < x12_1 then (shadow_Between.l0 k1 a1 l2 x11_1 bt253.1 x13_1 true l0 (l0.length : Int) (wrap64 (x30_1 + 1))) else (shadow_Between.l0 k1 a1 l2 x11_1 x12_1 x13_1 x14_1 l0 (l0.length : Int) (wrap64 (x30_1 + 1)))) else (shadow_Between.l0 k1 a1 l2 x11_1 bt253.1 x13_1 true l0 (l0.length : Int) (wrap64 (x30_1 + 1)))) else (some (0, 0, false, false, 5)))))) else (some (0, 0, false, false, bt248.2)))))) = some (r1, r2, r3, r4, r5) := H
       have A11 := zK A110; clear A110
       by_cases c12 : t243 = 0
       ·rw [if_pos c12] at H
        have c12b0 : (t243 == 0) = true := beq_iff_eq.mpr c12
        have c12b1 : (t243 != 0) = false := bne_eq_false_iff_eq.mpr c12; clear c12
        have H' := zK H; clear H
        have p241 : 0 ≤ (x30_1 : Int) := of_decide_eq_true (by first | (with_reducible assumption) | assumption)
        have q241 : x30_1 < (l0.length : Int) := of_decide_eq_true (by first | (with_reducible assumption) | assumption)
        obtain ⟨ad241, A241_1, c241_1, e241, hx241_0, hx241_1, hx241_2, hl241_1, hi241_1⟩ := at_T70 HR0.out x30_1 p241 q241
        cases e241
        replace hx241_0 := (HB.out.cell (World.block_lt_of_cell? w _ hx241_0)).trans hx241_0
        replace hx241_1 := (HB.out.cell (World.block_lt_of_cell? w _ hx241_1)).trans hx241_1
        replace hx241_2 := (HB.out.cell (World.block_lt_of_cell? w _ hx241_2)).trans hx241_2
        have HR241_1 := zK hi241_1
        have HC241_1 := zK hl241_1; clear hi241_1 hl241_1
        replace p241 := eq_true p241
        replace q241 := eq_true q241
        go_wp2_with (first | ((with_reducible refine gate_dst (N := 16) rfl ?_); refine box_event ?hg (N := 16) ?hd (cs := #[.int .i64 0, .slice none 0 0, .bool false]) (t := 70) ?hr ?_; (case hd => rfl); (case hg => rfl); (case hr => first | (go_simp; done) | (go_simp; rfl)); intro gb242 hg w13 hbox hb; have BK242 := zK (hbox); have GW242 := zK ((by rw [hg]; exact (below_size (zo HB)) : w.heap.size ≤ gb242)); have GE242 := zK ((by rw [hg]; exact (below_size (zo HB)) : w.heap.size ≤ gb242)); replace HB := zK (below_step (zo HB) hb); clear hb hbox hg; have hcz14_0 : w13.cell? ⟨gb242, 0, none⟩ = some (.int .i64 0) := (blk_cell BK242.out 0).trans rfl; have hcz14_1 : w13.cell? ⟨gb242, 1, none⟩ = some (.slice none 0 0) := (blk_cell BK242.out 1).trans rfl; have hcz14_2 : w13.cell? ⟨gb242, 2, none⟩ = some (.bool false) := (blk_cell BK242.out 2).trans rfl; have hfz14_0 := blk_frozen BK242.out 0; have hfz14_1 := blk_frozen BK242.out 1; have hfz14_2 := blk_frozen BK242.out 2) | ((with_reducible refine zC (f := 46) rfl ?_); refine goesL_ (some 37) rfl rfl Try.func46 (by kernel_rfl) rfl #[.agg #[.int .i64 ((rd_T70 l0 x30_1).f0.f0), .slice A241_1 ((rd_T70 l0 x30_1).f0.f1).length c241_1], .int .i64 a1] rfl (by (try simp only [List.map_toArray, List.map_cons, List.map_nil]); first | done | rfl | (simp only [List.length_drop, List.length_take]; rfl)) ?_; (with_reducible refine (lin_By.calls k1 ((rd_T70 l0 x30_1).f0.f0) _ _ ((rd_T70 l0 x30_1).f0.f1) a1 t243 _ ?side1 ?side2 A11.out).mono ?_); (case side1 => exact Kd.C_below HR241_1.out (zo HB)); (case side2 => exact HC241_1.out); rintro e w15 ⟨rfl, hb⟩; refine ⟨_, rfl, ?_⟩; replace BK242 := zK (blk_below (g := gb242) (o := .cells #[.int .i64 ((rd_T70 l0 x30_1).f0.f0), .slice A241_1 ((rd_T70 l0 x30_1).f0.f1).length c241_1, .bool ((rd_T70 l0 x30_1).f1)] 70 (0, 0)) (by refine zM ?_; refine blk_put (cs := #[.int .i64 ((rd_T70 l0 x30_1).f0.f0), .slice A241_1 ((rd_T70 l0 x30_1).f0.f1).length c241_1, .bool false]) ?_ 2 _ rfl; refine zM ?_; refine blk_put (cs := #[.int .i64 ((rd_T70 l0 x30_1).f0.f0), .slice none 0 0, .bool false]) ?_ 1 _ rfl; refine zM ?_; refine blk_put (cs := #[.int .i64 0, .slice none 0 0, .bool false]) ?_ 0 _ rfl; refine zM ?_; exact BK242.out) hb); replace HB := zK (below_step (zo HB) hb); (try clear hb); (try clear hb2); (try clear hk); (try clear hi)))
        go_roundg k1
        case measure => have := HK1.out; omega
        case rel => exact ⟨(x11_1), (x12_1), (x13_1), (x14_1), (wrap64 (x30_1 + 1)), (by first | rfl | (simp; done) | (simp [*]; done)), (by first | rfl | (simp; done) | (simp [*]; done)), (by first | rfl | (simp; done) | (simp [*]; done)), (by first | rfl | (simp; done) | (simp [*]; done)), (by first | rfl | (simp; done) | (simp [*]; done)), H', ⟨by have := HK1.out; omega⟩, ⟨zo HB⟩⟩
       ·rw [if_neg c12] at H
        have c12b0 : (t243 == 0) = false := beq_eq_false_iff_ne.mpr c12
        have c12b1 : (t243 != 0) = true := bne_iff_ne.mpr c12; replace H := Option.bind_eq_some_iff.mp H
        obtain ⟨⟨t244, t245⟩, A160, H⟩ := H
        replace H : ((lin_Eval.f k1 t244 t245 l2).bind fun bt248 => (if bt248.2 = 0 then (if t243 < 0 then ((shadow_least.f bt248.1 t243).bind fun t250 => (if x13_1 = true then (if t250 > x11_1 then (shadow_Between.l0 k1 a1 l2 t250 x12_1 true x14_1 l0 (l0.length : Int) (wrap64 (x30_1 + 1))) else (shadow_Between.l0 k1 a1 l2 x11_1 x12_1 x13_1 x14_1 l0 (l0.length : Int) (wrap64 (x30_1 + 1)))) else (shadow_Between.l0 k1 a1 l2 t250 x12_1 true x14_1 l0 (l0.length : Int) (wrap64 (x30_1 + 1))))) else ((num_Ceil.f bt248.1 t243).bind fun bt251 => ((num_Neg.f bt251.1).bind fun bt253 => (if bt253.2 = true then (if x14_1 = true then (if bt253.1 < x12_1 then (shadow_Between.l0 k1 a1 l2 x11_1 bt253.1 x13_1 true l0 (l0.length : Int) (wrap64 (x30_1 + 1))) else (shadow_Between.l0 k1 a1 l2 x11_1 x12_1 x13_1 x14_1 l0 (l0.length : Int) (wrap64 (x30_1 + 1)))) else (shadow_Between.l0 k1 a1 l2 x11_1 bt253.1 x13_1 true l0 (l0.length : Int) (wrap64 (x30_1 + 1)))) else (some (0, 0, false, false, 5)))))) else (some (0, 0, false, false, bt248.2)))) = some (r1, r2, r3, r4, r5) := H
        have A16 := zK A160; clear A160; replace H := Option.bind_eq_some_iff.mp H
        obtain ⟨⟨t248, t249⟩, A170, H⟩ := H
        replace H : (if t249 = 0 then (if t243 < 0 then ((shadow_least.f t248 t243).bind fun t250 => (if x13_1 = true then (if t250 > x11_1 then (shadow_Between.l0 k1 a1 l2 t250 x12_1 true x14_1 l0 (l0.length : Int) (wrap64 (x30_1 + 1))) else (shadow_Between.l0 k1 a1 l2 x11_1 x12_1 x13_1 x14_1 l0 (l0.length : Int) (wrap64 (x30_1 + 1)))) else (shadow_Between.l0 k1 a1 l2 t250 x12_1 true x14_1 l0 (l0.length : Int) (wrap64 (x30_1 + 1))))) else ((num_Ceil.f t248 t243).bind fun bt251 => ((num_Neg.f bt251.1).bind fun bt253 => (if bt253.2 = true then (if x14_1 = true then (if bt253.1 < x12_1 then (shadow_Between.l0 k1 a1 l2 x11_1 bt253.1 x13_1 true l0 (l0.length : Int) (wrap64 (x30_1 + 1))) else (shadow_Between.l0 k1 a1 l2 x11_1 x12_1 x13_1 x14_1 l0 (l0.length : Int) (wrap64 (x30_1 + 1)))) else (shadow_Between.l0 k1 a1 l2 x11_1 bt253.1 x13_1 true l0 (l0.length : Int) (wrap64 (x30_1 + 1)))) else (some (0, 0, false, false, 5)))))) else (some (0, 0, false, false, t249))) = some (r1, r2, r3, r4, r5) := H
        have A17 := zK A170; clear A170
        by_cases c18 : t249 = 0
        ·rw [if_pos c18] at H
         have c18b0 : (t249 == 0) = true := beq_iff_eq.mpr c18
         have c18b1 : (t249 != 0) = false := bne_eq_false_iff_eq.mpr c18; clear c18
         by_cases c19 : t243 < 0
         ·rw [if_pos c19] at H
          have c19b0 : decide (t243 < 0) = true := decide_eq_true c19; clear c19
          replace H := Option.bind_eq_some_iff.mp H
          obtain ⟨t250, A200, H⟩ := H
          replace H : (if x13_1 = true then (if t250 > x11_1 then (shadow_Between.l0 k1 a1 l2 t250 x12_1 true x14_1 l0 (l0.length : Int) (wrap64 (x30_1 + 1))) else (shadow_Between.l0 k1 a1 l2 x11_1 x12_1 x13_1 x14_1 l0 (l0.length : Int) (wrap64 (x30_1 + 1)))) else (shadow_Between.l0 k1 a1 l2 t250 x12_1 true x14_1 l0 (l0.length : Int) (wrap64 (x30_1 + 1)))) = some (r1, r2, r3, r4, r5) := H
          have A20 := zK A200; clear A200
          by_cases c21 : x13_1 = true
          ·subst c21
           have H1 : (if t250 > x11_1 then (shadow_Between.l0 k1 a1 l2 t250 x12_1 true x14_1 l0 (l0.length : Int) (wrap64 (x30_1 + 1))) else (shadow_Between.l0 k1 a1 l2 x11_1 x12_1 true x14_1 l0 (l0.length : Int) (wrap64 (x30_1 + 1)))) = some (r1, r2, r3, r4, r5) := by rw [if_pos rfl] at H; exact H
           clear H; have H := H1; clear H1
           by_cases c22 : t250 > x11_1
           ·rw [if_pos c22] at H
            have c22b0 : decide (x11_1 < t250) = true := decide_eq_true c22; clear c22
            have H' := zK H; clear H
            have p241 : 0 ≤ (x30_1 : Int) := of_decide_eq_true (by first | (with_reducible assumption) | assumption)
            have q241 : x30_1 < (l0.length : Int) := of_decide_eq_true (by first | (with_reducible assumption) | assumption)
            obtain ⟨ad241, A241_1, c241_1, e241, hx241_0, hx241_1, hx241_2, hl241_1, hi241_1⟩ := at_T70 HR0.out x30_1 p241 q241
            cases e241
            replace hx241_0 := (HB.out.cell (World.block_lt_of_cell? w _ hx241_0)).trans hx241_0
            replace hx241_1 := (HB.out.cell (World.block_lt_of_cell? w _ hx241_1)).trans hx241_1
            replace hx241_2 := (HB.out.cell (World.block_lt_of_cell? w _ hx241_2)).trans hx241_2
            have HR241_1 := zK hi241_1
            have HC241_1 := zK hl241_1; clear hi241_1 hl241_1
            replace p241 := eq_true p241
            replace q241 := eq_true q241
            go_wp2_with (first | ((with_reducible refine gate_dst (N := 16) rfl ?_); refine box_event ?hg (N := 16) ?hd (cs := #[.int .i64 0, .slice none 0 0, .bool false]) (t := 70) ?hr ?_; (case hd => rfl); (case hg => rfl); (case hr => first | (go_simp; done) | (go_simp; rfl)); intro gb242 hg w23 hbox hb; have BK242 := zK (hbox); have GW242 := zK ((by rw [hg]; exact (below_size (zo HB)) : w.heap.size ≤ gb242)); have GE242 := zK ((by rw [hg]; exact (below_size (zo HB)) : w.heap.size ≤ gb242)); replace HB := zK (below_step (zo HB) hb); clear hb hbox hg; have hcz24_0 : w23.cell? ⟨gb242, 0, none⟩ = some (.int .i64 0) := (blk_cell BK242.out 0).trans rfl; have hcz24_1 : w23.cell? ⟨gb242, 1, none⟩ = some (.slice none 0 0) := (blk_cell BK242.out 1).trans rfl; have hcz24_2 : w23.cell? ⟨gb242, 2, none⟩ = some (.bool false) := (blk_cell BK242.out 2).trans rfl; have hfz24_0 := blk_frozen BK242.out 0; have hfz24_1 := blk_frozen BK242.out 1; have hfz24_2 := blk_frozen BK242.out 2) | ((with_reducible refine zC (f := 46) rfl ?_); refine goesL_ (some 37) rfl rfl Try.func46 (by kernel_rfl) rfl #[.agg #[.int .i64 ((rd_T70 l0 x30_1).f0.f0), .slice A241_1 ((rd_T70 l0 x30_1).f0.f1).length c241_1], .int .i64 a1] rfl (by (try simp only [List.map_toArray, List.map_cons, List.map_nil]); first | done | rfl | (simp only [List.length_drop, List.length_take]; rfl)) ?_; (with_reducible refine (lin_By.calls k1 ((rd_T70 l0 x30_1).f0.f0) _ _ ((rd_T70 l0 x30_1).f0.f1) a1 t243 _ ?side1 ?side2 A11.out).mono ?_); (case side1 => exact Kd.C_below HR241_1.out (zo HB)); (case side2 => exact HC241_1.out); rintro e w25 ⟨rfl, hb⟩; refine ⟨_, rfl, ?_⟩; replace BK242 := zK (blk_below (g := gb242) (o := .cells #[.int .i64 ((rd_T70 l0 x30_1).f0.f0), .slice A241_1 ((rd_T70 l0 x30_1).f0.f1).length c241_1, .bool ((rd_T70 l0 x30_1).f1)] 70 (0, 0)) (by refine zM ?_; refine blk_put (cs := #[.int .i64 ((rd_T70 l0 x30_1).f0.f0), .slice A241_1 ((rd_T70 l0 x30_1).f0.f1).length c241_1, .bool false]) ?_ 2 _ rfl; refine zM ?_; refine blk_put (cs := #[.int .i64 ((rd_T70 l0 x30_1).f0.f0), .slice none 0 0, .bool false]) ?_ 1 _ rfl; refine zM ?_; refine blk_put (cs := #[.int .i64 0, .slice none 0 0, .bool false]) ?_ 0 _ rfl; refine zM ?_; exact BK242.out) hb); replace HB := zK (below_step (zo HB) hb); (try clear hb); (try clear hb2); (try clear hk); (try clear hi); have hcz26_0 : w25.cell? ⟨gb242, 0, none⟩ = some (.int .i64 ((rd_T70 l0 x30_1).f0.f0)) := (blk_cell BK242.out 0).trans rfl; have hcz26_1 : w25.cell? ⟨gb242, 1, none⟩ = some (.slice A241_1 ((rd_T70 l0 x30_1).f0.f1).length c241_1) := (blk_cell BK242.out 1).trans rfl; have hcz26_2 : w25.cell? ⟨gb242, 2, none⟩ = some (.bool ((rd_T70 l0 x30_1).f1)) := (blk_cell BK242.out 2).trans rfl; have hfz26_0 := blk_frozen BK242.out 0; have hfz26_1 := blk_frozen BK242.out 1; have hfz26_2 := blk_frozen BK242.out 2) | ((with_reducible refine zC (f := 58) rfl ?_); refine goesL_ (some 44) rfl rfl Try.func58 (by kernel_rfl) rfl #[.agg #[.int .i64 ((rd_T70 l0 x30_1).f0.f0), .slice A241_1 ((rd_T70 l0 x30_1).f0.f1).length c241_1], .int .i64 a1] rfl (by (try simp only [List.map_toArray, List.map_cons, List.map_nil]); first | done | rfl | (simp only [List.length_drop, List.length_take]; rfl)) ?_; (with_reducible refine (shadow_rest.calls k1 ((rd_T70 l0 x30_1).f0.f0) _ _ ((rd_T70 l0 x30_1).f0.f1) a1 t244 t245 _ ?side1 ?side2 A16.out).mono ?_); (case side1 => repeat (first | exact (Kd.C_below HR241_1.out HB.out) | (with_reducible refine cA ?_ _) | (with_reducible refine cN ?_ _) | (with_reducible refine cD ?_))); (case side2 => exact HC241_1.out); rintro e w27 ⟨v246, rfl, ho0, hb⟩; refine ⟨_, rfl, ?_⟩; have HO247 := zK (Kd.R_lower ho0 (below_size (zo HB))); replace BK242 := zK (blk_below (g := gb242) (o := .cells #[.int .i64 ((rd_T70 l0 x30_1).f0.f0), .slice A241_1 ((rd_T70 l0 x30_1).f0.f1).length c241_1, .bool ((rd_T70 l0 x30_1).f1)] 70 (0, 0)) (zb BK242) hb); replace HB := zK (below_step (zo HB) hb); (try clear hb); (try clear hb2); (try clear hk); (try clear hi); (try clear ho0); obtain ⟨Ao28, co28, eo28⟩ := Kd.R_slice HO247.out; subst eo28) | ((with_reducible refine zC (f := 57) rfl ?_); refine goesL_ (some 46) rfl rfl Try.func57 (by kernel_rfl) rfl #[.agg #[.int .i64 t244, .slice Ao28 t245.length co28], .slice A2 l2.length c2] rfl (by (try simp only [List.map_toArray, List.map_cons, List.map_nil]); first | done | rfl | (simp only [List.length_drop, List.length_take]; rfl)) ?_; (with_reducible refine (lin_Eval.calls k1 t244 _ _ t245 _ _ l2 t248 t249 _ ?side1 ?side2 ?side3 ?side4 A17.out).mono ?_); (case side1 => repeat (first | exact (Kd.R_reads' HO247.out).2.2 | (with_reducible refine cA ?_ _) | (with_reducible refine cN ?_ _) | (with_reducible refine cD ?_))); (case side2 => exact (Kd.R_reads' HO247.out).2.1); (case side3 => repeat (first | exact (Kd.C_below HR2.out HB.out) | (with_reducible refine cA ?_ _) | (with_reducible refine cN ?_ _) | (with_reducible refine cD ?_))); (case side4 => exact HC2.out); rintro e w29 ⟨rfl, hb⟩; refine ⟨_, rfl, ?_⟩; replace HO247 := zK (Kd.R_below (zr HO247) hb); replace BK242 := zK (blk_below (g := gb242) (o := .cells #[.int .i64 ((rd_T70 l0 x30_1).f0.f0), .slice A241_1 ((rd_T70 l0 x30_1).f0.f1).length c241_1, .bool ((rd_T70 l0 x30_1).f1)] 70 (0, 0)) (zb BK242) hb); replace HB := zK (below_step (zo HB) hb); (try clear hb); (try clear hb2); (try clear hk); (try clear hi)) | ((with_reducible refine zC (f := 59) rfl ?_); refine goesL_ (some 56) rfl rfl Try.func59 (by kernel_rfl) rfl #[.int .i64 t248, .int .i64 t243] rfl (by (try simp only [List.map_toArray, List.map_cons, List.map_nil]); first | done | rfl | (simp only [List.length_drop, List.length_take]; rfl)) ?_; (with_reducible refine (shadow_least.calls t248 t243 t250 _ A20.out).mono ?_); rintro e w' ⟨rfl, ⟨nd, rfl⟩⟩; refine ⟨_, rfl, ?_⟩))
            go_roundg k1
            case measure => have := HK1.out; omega
            case rel => exact ⟨(t250), (x12_1), (true), (x14_1), (wrap64 (x30_1 + 1)), (by first | rfl | (simp; done) | (simp [*]; done)), (by first | rfl | (simp; done) | (simp [*]; done)), (by first | rfl | (simp; done) | (simp [*]; done)), (by first | rfl | (simp; done) | (simp [*]; done)), (by first | rfl | (simp; done) | (simp [*]; done)), H', ⟨by have := HK1.out; omega⟩, ⟨zo HB⟩⟩
           ·rw [if_neg c22] at H
            have c22b0 : decide (x11_1 < t250) = false := decide_eq_false c22; clear c22
            have H' := zK H; clear H
            have p241 : 0 ≤ (x30_1 : Int) := of_decide_eq_true (by first | (with_reducible assumption) | assumption)
            have q241 : x30_1 < (l0.length : Int) := of_decide_eq_true (by first | (with_reducible assumption) | assumption)
            obtain ⟨ad241, A241_1, c241_1, e241, hx241_0, hx241_1, hx241_2, hl241_1, hi241_1⟩ := at_T70 HR0.out x30_1 p241 q241
            cases e241
            replace hx241_0 := (HB.out.cell (World.block_lt_of_cell? w _ hx241_0)).trans hx241_0
            replace hx241_1 := (HB.out.cell (World.block_lt_of_cell? w _ hx241_1)).trans hx241_1
            replace hx241_2 := (HB.out.cell (World.block_lt_of_cell? w _ hx241_2)).trans hx241_2
            have HR241_1 := zK hi241_1
            have HC241_1 := zK hl241_1; clear hi241_1 hl241_1
            replace p241 := eq_true p241
            replace q241 := eq_true q241
            go_wp2_with (first | ((with_reducible refine gate_dst (N := 16) rfl ?_); refine box_event ?hg (N := 16) ?hd (cs := #[.int .i64 0, .slice none 0 0, .bool false]) (t := 70) ?hr ?_; (case hd => rfl); (case hg => rfl); (case hr => first | (go_simp; done) | (go_simp; rfl)); intro gb242 hg w30 hbox hb; have BK242 := zK (hbox); have GW242 := zK ((by rw [hg]; exact (below_size (zo HB)) : w.heap.size ≤ gb242)); have GE242 := zK ((by rw [hg]; exact (below_size (zo HB)) : w.heap.size ≤ gb242)); replace HB := zK (below_step (zo HB) hb); clear hb hbox hg; have hcz31_0 : w30.cell? ⟨gb242, 0, none⟩ = some (.int .i64 0) := (blk_cell BK242.out 0).trans rfl; have hcz31_1 : w30.cell? ⟨gb242, 1, none⟩ = some (.slice none 0 0) := (blk_cell BK242.out 1).trans rfl; have hcz31_2 : w30.cell? ⟨gb242, 2, none⟩ = some (.bool false) := (blk_cell BK242.out 2).trans rfl; have hfz31_0 := blk_frozen BK242.out 0; have hfz31_1 := blk_frozen BK242.out 1; have hfz31_2 := blk_frozen BK242.out 2) | ((with_reducible refine zC (f := 46) rfl ?_); refine goesL_ (some 37) rfl rfl Try.func46 (by kernel_rfl) rfl #[.agg #[.int .i64 ((rd_T70 l0 x30_1).f0.f0), .slice A241_1 ((rd_T70 l0 x30_1).f0.f1).length c241_1], .int .i64 a1] rfl (by (try simp only [List.map_toArray, List.map_cons, List.map_nil]); first | done | rfl | (simp only [List.length_drop, List.length_take]; rfl)) ?_; (with_reducible refine (lin_By.calls k1 ((rd_T70 l0 x30_1).f0.f0) _ _ ((rd_T70 l0 x30_1).f0.f1) a1 t243 _ ?side1 ?side2 A11.out).mono ?_); (case side1 => exact Kd.C_below HR241_1.out (zo HB)); (case side2 => exact HC241_1.out); rintro e w32 ⟨rfl, hb⟩; refine ⟨_, rfl, ?_⟩; replace BK242 := zK (blk_below (g := gb242) (o := .cells #[.int .i64 ((rd_T70 l0 x30_1).f0.f0), .slice A241_1 ((rd_T70 l0 x30_1).f0.f1).length c241_1, .bool ((rd_T70 l0 x30_1).f1)] 70 (0, 0)) (by refine zM ?_; refine blk_put (cs := #[.int .i64 ((rd_T70 l0 x30_1).f0.f0), .slice A241_1 ((rd_T70 l0 x30_1).f0.f1).length c241_1, .bool false]) ?_ 2 _ rfl; refine zM ?_; refine blk_put (cs := #[.int .i64 ((rd_T70 l0 x30_1).f0.f0), .slice none 0 0, .bool false]) ?_ 1 _ rfl; refine zM ?_; refine blk_put (cs := #[.int .i64 0, .slice none 0 0, .bool false]) ?_ 0 _ rfl; refine zM ?_; exact BK242.out) hb); replace HB := zK (below_step (zo HB) hb); (try clear hb); (try clear hb2); (try clear hk); (try clear hi); have hcz33_0 : w32.cell? ⟨gb242, 0, none⟩ = some (.int .i64 ((rd_T70 l0 x30_1).f0.f0)) := (blk_cell BK242.out 0).trans rfl; have hcz33_1 : w32.cell? ⟨gb242, 1, none⟩ = some (.slice A241_1 ((rd_T70 l0 x30_1).f0.f1).length c241_1) := (blk_cell BK242.out 1).trans rfl; have hcz33_2 : w32.cell? ⟨gb242, 2, none⟩ = some (.bool ((rd_T70 l0 x30_1).f1)) := (blk_cell BK242.out 2).trans rfl; have hfz33_0 := blk_frozen BK242.out 0; have hfz33_1 := blk_frozen BK242.out 1; have hfz33_2 := blk_frozen BK242.out 2) | ((with_reducible refine zC (f := 58) rfl ?_); refine goesL_ (some 44) rfl rfl Try.func58 (by kernel_rfl) rfl #[.agg #[.int .i64 ((rd_T70 l0 x30_1).f0.f0), .slice A241_1 ((rd_T70 l0 x30_1).f0.f1).length c241_1], .int .i64 a1] rfl (by (try simp only [List.map_toArray, List.map_cons, List.map_nil]); first | done | rfl | (simp only [List.length_drop, List.length_take]; rfl)) ?_; (with_reducible refine (shadow_rest.calls k1 ((rd_T70 l0 x30_1).f0.f0) _ _ ((rd_T70 l0 x30_1).f0.f1) a1 t244 t245 _ ?side1 ?side2 A16.out).mono ?_); (case side1 => repeat (first | exact (Kd.C_below HR241_1.out HB.out) | (with_reducible refine cA ?_ _) | (with_reducible refine cN ?_ _) | (with_reducible refine cD ?_))); (case side2 => exact HC241_1.out); rintro e w34 ⟨v246, rfl, ho0, hb⟩; refine ⟨_, rfl, ?_⟩; have HO247 := zK (Kd.R_lower ho0 (below_size (zo HB))); replace BK242 := zK (blk_below (g := gb242) (o := .cells #[.int .i64 ((rd_T70 l0 x30_1).f0.f0), .slice A241_1 ((rd_T70 l0 x30_1).f0.f1).length c241_1, .bool ((rd_T70 l0 x30_1).f1)] 70 (0, 0)) (zb BK242) hb); replace HB := zK (below_step (zo HB) hb); (try clear hb); (try clear hb2); (try clear hk); (try clear hi); (try clear ho0); obtain ⟨Ao35, co35, eo35⟩ := Kd.R_slice HO247.out; subst eo35) | ((with_reducible refine zC (f := 57) rfl ?_); refine goesL_ (some 46) rfl rfl Try.func57 (by kernel_rfl) rfl #[.agg #[.int .i64 t244, .slice Ao35 t245.length co35], .slice A2 l2.length c2] rfl (by (try simp only [List.map_toArray, List.map_cons, List.map_nil]); first | done | rfl | (simp only [List.length_drop, List.length_take]; rfl)) ?_; (with_reducible refine (lin_Eval.calls k1 t244 _ _ t245 _ _ l2 t248 t249 _ ?side1 ?side2 ?side3 ?side4 A17.out).mono ?_); (case side1 => repeat (first | exact (Kd.R_reads' HO247.out).2.2 | (with_reducible refine cA ?_ _) | (with_reducible refine cN ?_ _) | (with_reducible refine cD ?_))); (case side2 => exact (Kd.R_reads' HO247.out).2.1); (case side3 => repeat (first | exact (Kd.C_below HR2.out HB.out) | (with_reducible refine cA ?_ _) | (with_reducible refine cN ?_ _) | (with_reducible refine cD ?_))); (case side4 => exact HC2.out); rintro e w36 ⟨rfl, hb⟩; refine ⟨_, rfl, ?_⟩; replace HO247 := zK (Kd.R_below (zr HO247) hb); replace BK242 := zK (blk_below (g := gb242) (o := .cells #[.int .i64 ((rd_T70 l0 x30_1).f0.f0), .slice A241_1 ((rd_T70 l0 x30_1).f0.f1).length c241_1, .bool ((rd_T70 l0 x30_1).f1)] 70 (0, 0)) (zb BK242) hb); replace HB := zK (below_step (zo HB) hb); (try clear hb); (try clear hb2); (try clear hk); (try clear hi)) | ((with_reducible refine zC (f := 59) rfl ?_); refine goesL_ (some 56) rfl rfl Try.func59 (by kernel_rfl) rfl #[.int .i64 t248, .int .i64 t243] rfl (by (try simp only [List.map_toArray, List.map_cons, List.map_nil]); first | done | rfl | (simp only [List.length_drop, List.length_take]; rfl)) ?_; (with_reducible refine (shadow_least.calls t248 t243 t250 _ A20.out).mono ?_); rintro e w' ⟨rfl, ⟨nd, rfl⟩⟩; refine ⟨_, rfl, ?_⟩))
            go_roundg k1
            case measure => have := HK1.out; omega
            case rel => exact ⟨(x11_1), (x12_1), (true), (x14_1), (wrap64 (x30_1 + 1)), (by first | rfl | (simp; done) | (simp [*]; done)), (by first | rfl | (simp; done) | (simp [*]; done)), (by first | rfl | (simp; done) | (simp [*]; done)), (by first | rfl | (simp; done) | (simp [*]; done)), (by first | rfl | (simp; done) | (simp [*]; done)), H', ⟨by have := HK1.out; omega⟩, ⟨zo HB⟩⟩
          ·replace c21 := Bool.eq_false_iff.mpr c21
           subst c21
           have H1 : (shadow_Between.l0 k1 a1 l2 t250 x12_1 true x14_1 l0 (l0.length : Int) (wrap64 (x30_1 + 1))) = some (r1, r2, r3, r4, r5) := by rw [if_neg (show ¬ (false = true) by decide)] at H; exact H
           clear H; have H := H1; clear H1
           have H' := zK H; clear H
           have p241 : 0 ≤ (x30_1 : Int) := of_decide_eq_true (by first | (with_reducible assumption) | assumption)
           have q241 : x30_1 < (l0.length : Int) := of_decide_eq_true (by first | (with_reducible assumption) | assumption)
           obtain ⟨ad241, A241_1, c241_1, e241, hx241_0, hx241_1, hx241_2, hl241_1, hi241_1⟩ := at_T70 HR0.out x30_1 p241 q241
           cases e241
           replace hx241_0 := (HB.out.cell (World.block_lt_of_cell? w _ hx241_0)).trans hx241_0
           replace hx241_1 := (HB.out.cell (World.block_lt_of_cell? w _ hx241_1)).trans hx241_1
           replace hx241_2 := (HB.out.cell (World.block_lt_of_cell? w _ hx241_2)).trans hx241_2
           have HR241_1 := zK hi241_1
           have HC241_1 := zK hl241_1; clear hi241_1 hl241_1
           replace p241 := eq_true p241
           replace q241 := eq_true q241
           go_wp2_with (first | ((with_reducible refine gate_dst (N := 16) rfl ?_); refine box_event ?hg (N := 16) ?hd (cs := #[.int .i64 0, .slice none 0 0, .bool false]) (t := 70) ?hr ?_; (case hd => rfl); (case hg => rfl); (case hr => first | (go_simp; done) | (go_simp; rfl)); intro gb242 hg w37 hbox hb; have BK242 := zK (hbox); have GW242 := zK ((by rw [hg]; exact (below_size (zo HB)) : w.heap.size ≤ gb242)); have GE242 := zK ((by rw [hg]; exact (below_size (zo HB)) : w.heap.size ≤ gb242)); replace HB := zK (below_step (zo HB) hb); clear hb hbox hg; have hcz38_0 : w37.cell? ⟨gb242, 0, none⟩ = some (.int .i64 0) := (blk_cell BK242.out 0).trans rfl; have hcz38_1 : w37.cell? ⟨gb242, 1, none⟩ = some (.slice none 0 0) := (blk_cell BK242.out 1).trans rfl; have hcz38_2 : w37.cell? ⟨gb242, 2, none⟩ = some (.bool false) := (blk_cell BK242.out 2).trans rfl; have hfz38_0 := blk_frozen BK242.out 0; have hfz38_1 := blk_frozen BK242.out 1; have hfz38_2 := blk_frozen BK242.out 2) | ((with_reducible refine zC (f := 46) rfl ?_); refine goesL_ (some 37) rfl rfl Try.func46 (by kernel_rfl) rfl #[.agg #[.int .i64 ((rd_T70 l0 x30_1).f0.f0), .slice A241_1 ((rd_T70 l0 x30_1).f0.f1).length c241_1], .int .i64 a1] rfl (by (try simp only [List.map_toArray, List.map_cons, List.map_nil]); first | done | rfl | (simp only [List.length_drop, List.length_take]; rfl)) ?_; (with_reducible refine (lin_By.calls k1 ((rd_T70 l0 x30_1).f0.f0) _ _ ((rd_T70 l0 x30_1).f0.f1) a1 t243 _ ?side1 ?side2 A11.out).mono ?_); (case side1 => exact Kd.C_below HR241_1.out (zo HB)); (case side2 => exact HC241_1.out); rintro e w39 ⟨rfl, hb⟩; refine ⟨_, rfl, ?_⟩; replace BK242 := zK (blk_below (g := gb242) (o := .cells #[.int .i64 ((rd_T70 l0 x30_1).f0.f0), .slice A241_1 ((rd_T70 l0 x30_1).f0.f1).length c241_1, .bool ((rd_T70 l0 x30_1).f1)] 70 (0, 0)) (by refine zM ?_; refine blk_put (cs := #[.int .i64 ((rd_T70 l0 x30_1).f0.f0), .slice A241_1 ((rd_T70 l0 x30_1).f0.f1).length c241_1, .bool false]) ?_ 2 _ rfl; refine zM ?_; refine blk_put (cs := #[.int .i64 ((rd_T70 l0 x30_1).f0.f0), .slice none 0 0, .bool false]) ?_ 1 _ rfl; refine zM ?_; refine blk_put (cs := #[.int .i64 0, .slice none 0 0, .bool false]) ?_ 0 _ rfl; refine zM ?_; exact BK242.out) hb); replace HB := zK (below_step (zo HB) hb); (try clear hb); (try clear hb2); (try clear hk); (try clear hi); have hcz40_0 : w39.cell? ⟨gb242, 0, none⟩ = some (.int .i64 ((rd_T70 l0 x30_1).f0.f0)) := (blk_cell BK242.out 0).trans rfl; have hcz40_1 : w39.cell? ⟨gb242, 1, none⟩ = some (.slice A241_1 ((rd_T70 l0 x30_1).f0.f1).length c241_1) := (blk_cell BK242.out 1).trans rfl; have hcz40_2 : w39.cell? ⟨gb242, 2, none⟩ = some (.bool ((rd_T70 l0 x30_1).f1)) := (blk_cell BK242.out 2).trans rfl; have hfz40_0 := blk_frozen BK242.out 0; have hfz40_1 := blk_frozen BK242.out 1; have hfz40_2 := blk_frozen BK242.out 2) | ((with_reducible refine zC (f := 58) rfl ?_); refine goesL_ (some 44) rfl rfl Try.func58 (by kernel_rfl) rfl #[.agg #[.int .i64 ((rd_T70 l0 x30_1).f0.f0), .slice A241_1 ((rd_T70 l0 x30_1).f0.f1).length c241_1], .int .i64 a1] rfl (by (try simp only [List.map_toArray, List.map_cons, List.map_nil]); first | done | rfl | (simp only [List.length_drop, List.length_take]; rfl)) ?_; (with_reducible refine (shadow_rest.calls k1 ((rd_T70 l0 x30_1).f0.f0) _ _ ((rd_T70 l0 x30_1).f0.f1) a1 t244 t245 _ ?side1 ?side2 A16.out).mono ?_); (case side1 => repeat (first | exact (Kd.C_below HR241_1.out HB.out) | (with_reducible refine cA ?_ _) | (with_reducible refine cN ?_ _) | (with_reducible refine cD ?_))); (case side2 => exact HC241_1.out); rintro e w41 ⟨v246, rfl, ho0, hb⟩; refine ⟨_, rfl, ?_⟩; have HO247 := zK (Kd.R_lower ho0 (below_size (zo HB))); replace BK242 := zK (blk_below (g := gb242) (o := .cells #[.int .i64 ((rd_T70 l0 x30_1).f0.f0), .slice A241_1 ((rd_T70 l0 x30_1).f0.f1).length c241_1, .bool ((rd_T70 l0 x30_1).f1)] 70 (0, 0)) (zb BK242) hb); replace HB := zK (below_step (zo HB) hb); (try clear hb); (try clear hb2); (try clear hk); (try clear hi); (try clear ho0); obtain ⟨Ao42, co42, eo42⟩ := Kd.R_slice HO247.out; subst eo42) | ((with_reducible refine zC (f := 57) rfl ?_); refine goesL_ (some 46) rfl rfl Try.func57 (by kernel_rfl) rfl #[.agg #[.int .i64 t244, .slice Ao42 t245.length co42], .slice A2 l2.length c2] rfl (by (try simp only [List.map_toArray, List.map_cons, List.map_nil]); first | done | rfl | (simp only [List.length_drop, List.length_take]; rfl)) ?_; (with_reducible refine (lin_Eval.calls k1 t244 _ _ t245 _ _ l2 t248 t249 _ ?side1 ?side2 ?side3 ?side4 A17.out).mono ?_); (case side1 => repeat (first | exact (Kd.R_reads' HO247.out).2.2 | (with_reducible refine cA ?_ _) | (with_reducible refine cN ?_ _) | (with_reducible refine cD ?_))); (case side2 => exact (Kd.R_reads' HO247.out).2.1); (case side3 => repeat (first | exact (Kd.C_below HR2.out HB.out) | (with_reducible refine cA ?_ _) | (with_reducible refine cN ?_ _) | (with_reducible refine cD ?_))); (case side4 => exact HC2.out); rintro e w43 ⟨rfl, hb⟩; refine ⟨_, rfl, ?_⟩; replace HO247 := zK (Kd.R_below (zr HO247) hb); replace BK242 := zK (blk_below (g := gb242) (o := .cells #[.int .i64 ((rd_T70 l0 x30_1).f0.f0), .slice A241_1 ((rd_T70 l0 x30_1).f0.f1).length c241_1, .bool ((rd_T70 l0 x30_1).f1)] 70 (0, 0)) (zb BK242) hb); replace HB := zK (below_step (zo HB) hb); (try clear hb); (try clear hb2); (try clear hk); (try clear hi)) | ((with_reducible refine zC (f := 59) rfl ?_); refine goesL_ (some 56) rfl rfl Try.func59 (by kernel_rfl) rfl #[.int .i64 t248, .int .i64 t243] rfl (by (try simp only [List.map_toArray, List.map_cons, List.map_nil]); first | done | rfl | (simp only [List.length_drop, List.length_take]; rfl)) ?_; (with_reducible refine (shadow_least.calls t248 t243 t250 _ A20.out).mono ?_); rintro e w' ⟨rfl, ⟨nd, rfl⟩⟩; refine ⟨_, rfl, ?_⟩))
           go_roundg k1
           case measure => have := HK1.out; omega
           case rel => exact ⟨(t250), (x12_1), (true), (x14_1), (wrap64 (x30_1 + 1)), (by first | rfl | (simp; done) | (simp [*]; done)), (by first | rfl | (simp; done) | (simp [*]; done)), (by first | rfl | (simp; done) | (simp [*]; done)), (by first | rfl | (simp; done) | (simp [*]; done)), (by first | rfl | (simp; done) | (simp [*]; done)), H', ⟨by have := HK1.out; omega⟩, ⟨zo HB⟩⟩
         ·rw [if_neg c19] at H
          have c19b0 : decide (t243 < 0) = false := decide_eq_false c19; clear c19
          replace H := Option.bind_eq_some_iff.mp H
          obtain ⟨⟨t251, t252⟩, A440, H⟩ := H
          replace H : ((num_Neg.f t251).bind fun bt253 => (if bt253.2 = true then (if x14_1 = true then (if bt253.1 < x12_1 then (shadow_Between.l0 k1 a1 l2 x11_1 bt253.1 x13_1 true l0 (l0.length : Int) (wrap64 (x30_1 + 1))) else (shadow_Between.l0 k1 a1 l2 x11_1 x12_1 x13_1 x14_1 l0 (l0.length : Int) (wrap64 (x30_1 + 1)))) else (shadow_Between.l0 k1 a1 l2 x11_1 bt253.1 x13_1 true l0 (l0.length : Int) (wrap64 (x30_1 + 1)))) else (some (0, 0, false, false, 5)))) = some (r1, r2, r3, r4, r5) := H
          have A44 := zK A440; clear A440; replace H := Option.bind_eq_some_iff.mp H
          obtain ⟨⟨t253, t254⟩, A450, H⟩ := H
          replace H : (if t254 = true then (if x14_1 = true then (if t253 < x12_1 then (shadow_Between.l0 k1 a1 l2 x11_1 t253 x13_1 true l0 (l0.length : Int) (wrap64 (x30_1 + 1))) else (shadow_Between.l0 k1 a1 l2 x11_1 x12_1 x13_1 x14_1 l0 (l0.length : Int) (wrap64 (x30_1 + 1)))) else (shadow_Between.l0 k1 a1 l2 x11_1 t253 x13_1 true l0 (l0.length : Int) (wrap64 (x30_1 + 1)))) else (some (0, 0, false, false, 5))) = some (r1, r2, r3, r4, r5) := H
          have A45 := zK A450; clear A450
          by_cases c46 : t254 = true
          ·subst c46
           have H1 : (if x14_1 = true then (if t253 < x12_1 then (shadow_Between.l0 k1 a1 l2 x11_1 t253 x13_1 true l0 (l0.length : Int) (wrap64 (x30_1 + 1))) else (shadow_Between.l0 k1 a1 l2 x11_1 x12_1 x13_1 x14_1 l0 (l0.length : Int) (wrap64 (x30_1 + 1)))) else (shadow_Between.l0 k1 a1 l2 x11_1 t253 x13_1 true l0 (l0.length : Int) (wrap64 (x30_1 + 1)))) = some (r1, r2, r3, r4, r5) := by rw [if_pos rfl] at H; exact H
           clear H; have H := H1; clear H1
           by_cases c47 : x14_1 = true
           ·subst c47
            have H1 : (if t253 < x12_1 then (shadow_Between.l0 k1 a1 l2 x11_1 t253 x13_1 true l0 (l0.length : Int) (wrap64 (x30_1 + 1))) else (shadow_Between.l0 k1 a1 l2 x11_1 x12_1 x13_1 true l0 (l0.length : Int) (wrap64 (x30_1 + 1)))) = some (r1, r2, r3, r4, r5) := by rw [if_pos rfl] at H; exact H
            clear H; have H := H1; clear H1
            by_cases c48 : t253 < x12_1
            ·rw [if_pos c48] at H
             have c48b0 : decide (t253 < x12_1) = true := decide_eq_true c48; clear c48
             have H' := zK H; clear H
             have p241 : 0 ≤ (x30_1 : Int) := of_decide_eq_true (by first | (with_reducible assumption) | assumption)
             have q241 : x30_1 < (l0.length : Int) := of_decide_eq_true (by first | (with_reducible assumption) | assumption)
             obtain ⟨ad241, A241_1, c241_1, e241, hx241_0, hx241_1, hx241_2, hl241_1, hi241_1⟩ := at_T70 HR0.out x30_1 p241 q241
             cases e241
             replace hx241_0 := (HB.out.cell (World.block_lt_of_cell? w _ hx241_0)).trans hx241_0
             replace hx241_1 := (HB.out.cell (World.block_lt_of_cell? w _ hx241_1)).trans hx241_1
             replace hx241_2 := (HB.out.cell (World.block_lt_of_cell? w _ hx241_2)).trans hx241_2
             have HR241_1 := zK hi241_1
             have HC241_1 := zK hl241_1; clear hi241_1 hl241_1
             replace p241 := eq_true p241
             replace q241 := eq_true q241
             go_wp2_with (first | ((with_reducible refine gate_dst (N := 16) rfl ?_); refine box_event ?hg (N := 16) ?hd (cs := #[.int .i64 0, .slice none 0 0, .bool false]) (t := 70) ?hr ?_; (case hd => rfl); (case hg => rfl); (case hr => first | (go_simp; done) | (go_simp; rfl)); intro gb242 hg w49 hbox hb; have BK242 := zK (hbox); have GW242 := zK ((by rw [hg]; exact (below_size (zo HB)) : w.heap.size ≤ gb242)); have GE242 := zK ((by rw [hg]; exact (below_size (zo HB)) : w.heap.size ≤ gb242)); replace HB := zK (below_step (zo HB) hb); clear hb hbox hg; have hcz50_0 : w49.cell? ⟨gb242, 0, none⟩ = some (.int .i64 0) := (blk_cell BK242.out 0).trans rfl; have hcz50_1 : w49.cell? ⟨gb242, 1, none⟩ = some (.slice none 0 0) := (blk_cell BK242.out 1).trans rfl; have hcz50_2 : w49.cell? ⟨gb242, 2, none⟩ = some (.bool false) := (blk_cell BK242.out 2).trans rfl; have hfz50_0 := blk_frozen BK242.out 0; have hfz50_1 := blk_frozen BK242.out 1; have hfz50_2 := blk_frozen BK242.out 2) | ((with_reducible refine zC (f := 46) rfl ?_); refine goesL_ (some 37) rfl rfl Try.func46 (by kernel_rfl) rfl #[.agg #[.int .i64 ((rd_T70 l0 x30_1).f0.f0), .slice A241_1 ((rd_T70 l0 x30_1).f0.f1).length c241_1], .int .i64 a1] rfl (by (try simp only [List.map_toArray, List.map_cons, List.map_nil]); first | done | rfl | (simp only [List.length_drop, List.length_take]; rfl)) ?_; (with_reducible refine (lin_By.calls k1 ((rd_T70 l0 x30_1).f0.f0) _ _ ((rd_T70 l0 x30_1).f0.f1) a1 t243 _ ?side1 ?side2 A11.out).mono ?_); (case side1 => exact Kd.C_below HR241_1.out (zo HB)); (case side2 => exact HC241_1.out); rintro e w51 ⟨rfl, hb⟩; refine ⟨_, rfl, ?_⟩; replace BK242 := zK (blk_below (g := gb242) (o := .cells #[.int .i64 ((rd_T70 l0 x30_1).f0.f0), .slice A241_1 ((rd_T70 l0 x30_1).f0.f1).length c241_1, .bool ((rd_T70 l0 x30_1).f1)] 70 (0, 0)) (by refine zM ?_; refine blk_put (cs := #[.int .i64 ((rd_T70 l0 x30_1).f0.f0), .slice A241_1 ((rd_T70 l0 x30_1).f0.f1).length c241_1, .bool false]) ?_ 2 _ rfl; refine zM ?_; refine blk_put (cs := #[.int .i64 ((rd_T70 l0 x30_1).f0.f0), .slice none 0 0, .bool false]) ?_ 1 _ rfl; refine zM ?_; refine blk_put (cs := #[.int .i64 0, .slice none 0 0, .bool false]) ?_ 0 _ rfl; refine zM ?_; exact BK242.out) hb); replace HB := zK (below_step (zo HB) hb); (try clear hb); (try clear hb2); (try clear hk); (try clear hi); have hcz52_0 : w51.cell? ⟨gb242, 0, none⟩ = some (.int .i64 ((rd_T70 l0 x30_1).f0.f0)) := (blk_cell BK242.out 0).trans rfl; have hcz52_1 : w51.cell? ⟨gb242, 1, none⟩ = some (.slice A241_1 ((rd_T70 l0 x30_1).f0.f1).length c241_1) := (blk_cell BK242.out 1).trans rfl; have hcz52_2 : w51.cell? ⟨gb242, 2, none⟩ = some (.bool ((rd_T70 l0 x30_1).f1)) := (blk_cell BK242.out 2).trans rfl; have hfz52_0 := blk_frozen BK242.out 0; have hfz52_1 := blk_frozen BK242.out 1; have hfz52_2 := blk_frozen BK242.out 2) | ((with_reducible refine zC (f := 58) rfl ?_); refine goesL_ (some 44) rfl rfl Try.func58 (by kernel_rfl) rfl #[.agg #[.int .i64 ((rd_T70 l0 x30_1).f0.f0), .slice A241_1 ((rd_T70 l0 x30_1).f0.f1).length c241_1], .int .i64 a1] rfl (by (try simp only [List.map_toArray, List.map_cons, List.map_nil]); first | done | rfl | (simp only [List.length_drop, List.length_take]; rfl)) ?_; (with_reducible refine (shadow_rest.calls k1 ((rd_T70 l0 x30_1).f0.f0) _ _ ((rd_T70 l0 x30_1).f0.f1) a1 t244 t245 _ ?side1 ?side2 A16.out).mono ?_); (case side1 => repeat (first | exact (Kd.C_below HR241_1.out HB.out) | (with_reducible refine cA ?_ _) | (with_reducible refine cN ?_ _) | (with_reducible refine cD ?_))); (case side2 => exact HC241_1.out); rintro e w53 ⟨v246, rfl, ho0, hb⟩; refine ⟨_, rfl, ?_⟩; have HO247 := zK (Kd.R_lower ho0 (below_size (zo HB))); replace BK242 := zK (blk_below (g := gb242) (o := .cells #[.int .i64 ((rd_T70 l0 x30_1).f0.f0), .slice A241_1 ((rd_T70 l0 x30_1).f0.f1).length c241_1, .bool ((rd_T70 l0 x30_1).f1)] 70 (0, 0)) (zb BK242) hb); replace HB := zK (below_step (zo HB) hb); (try clear hb); (try clear hb2); (try clear hk); (try clear hi); (try clear ho0); obtain ⟨Ao54, co54, eo54⟩ := Kd.R_slice HO247.out; subst eo54) | ((with_reducible refine zC (f := 57) rfl ?_); refine goesL_ (some 46) rfl rfl Try.func57 (by kernel_rfl) rfl #[.agg #[.int .i64 t244, .slice Ao54 t245.length co54], .slice A2 l2.length c2] rfl (by (try simp only [List.map_toArray, List.map_cons, List.map_nil]); first | done | rfl | (simp only [List.length_drop, List.length_take]; rfl)) ?_; (with_reducible refine (lin_Eval.calls k1 t244 _ _ t245 _ _ l2 t248 t249 _ ?side1 ?side2 ?side3 ?side4 A17.out).mono ?_); (case side1 => repeat (first | exact (Kd.R_reads' HO247.out).2.2 | (with_reducible refine cA ?_ _) | (with_reducible refine cN ?_ _) | (with_reducible refine cD ?_))); (case side2 => exact (Kd.R_reads' HO247.out).2.1); (case side3 => repeat (first | exact (Kd.C_below HR2.out HB.out) | (with_reducible refine cA ?_ _) | (with_reducible refine cN ?_ _) | (with_reducible refine cD ?_))); (case side4 => exact HC2.out); rintro e w55 ⟨rfl, hb⟩; refine ⟨_, rfl, ?_⟩; replace HO247 := zK (Kd.R_below (zr HO247) hb); replace BK242 := zK (blk_below (g := gb242) (o := .cells #[.int .i64 ((rd_T70 l0 x30_1).f0.f0), .slice A241_1 ((rd_T70 l0 x30_1).f0.f1).length c241_1, .bool ((rd_T70 l0 x30_1).f1)] 70 (0, 0)) (zb BK242) hb); replace HB := zK (below_step (zo HB) hb); (try clear hb); (try clear hb2); (try clear hk); (try clear hi)) | ((with_reducible refine zC (f := 60) rfl ?_); refine goesL_ (some 68) rfl rfl Try.func60 (by kernel_rfl) rfl #[.int .i64 t248, .int .i64 t243] rfl (by (try simp only [List.map_toArray, List.map_cons, List.map_nil]); first | done | rfl | (simp only [List.length_drop, List.length_take]; rfl)) ?_; (with_reducible refine (num_Ceil.calls t248 t243 t251 t252 _ A44.out).mono ?_); rintro e w' ⟨rfl, ⟨nd, rfl⟩⟩; refine ⟨_, rfl, ?_⟩) | ((with_reducible refine zC (f := 61) rfl ?_); refine goesL_ (some 73) rfl rfl Try.func61 (by kernel_rfl) rfl #[.int .i64 t251] rfl (by (try simp only [List.map_toArray, List.map_cons, List.map_nil]); first | done | rfl | (simp only [List.length_drop, List.length_take]; rfl)) ?_; (with_reducible refine (num_Neg.calls t251 t253 true _ A45.out).mono ?_); rintro e w' ⟨rfl, ⟨nd, rfl⟩⟩; refine ⟨_, rfl, ?_⟩))
             go_roundg k1
             case measure => have := HK1.out; omega
             case rel => exact ⟨(x11_1), (t253), (x13_1), (true), (wrap64 (x30_1 + 1)), (by first | rfl | (simp; done) | (simp [*]; done)), (by first | rfl | (simp; done) | (simp [*]; done)), (by first | rfl | (simp; done) | (simp [*]; done)), (by first | rfl | (simp; done) | (simp [*]; done)), (by first | rfl | (simp; done) | (simp [*]; done)), H', ⟨by have := HK1.out; omega⟩, ⟨zo HB⟩⟩
            ·rw [if_neg c48] at H
             have c48b0 : decide (t253 < x12_1) = false := decide_eq_false c48; clear c48
             have H' := zK H; clear H
             have p241 : 0 ≤ (x30_1 : Int) := of_decide_eq_true (by first | (with_reducible assumption) | assumption)
             have q241 : x30_1 < (l0.length : Int) := of_decide_eq_true (by first | (with_reducible assumption) | assumption)
             obtain ⟨ad241, A241_1, c241_1, e241, hx241_0, hx241_1, hx241_2, hl241_1, hi241_1⟩ := at_T70 HR0.out x30_1 p241 q241
             cases e241
             replace hx241_0 := (HB.out.cell (World.block_lt_of_cell? w _ hx241_0)).trans hx241_0
             replace hx241_1 := (HB.out.cell (World.block_lt_of_cell? w _ hx241_1)).trans hx241_1
             replace hx241_2 := (HB.out.cell (World.block_lt_of_cell? w _ hx241_2)).trans hx241_2
             have HR241_1 := zK hi241_1
             have HC241_1 := zK hl241_1; clear hi241_1 hl241_1
             replace p241 := eq_true p241
             replace q241 := eq_true q241
             go_wp2_with (first | ((with_reducible refine gate_dst (N := 16) rfl ?_); refine box_event ?hg (N := 16) ?hd (cs := #[.int .i64 0, .slice none 0 0, .bool false]) (t := 70) ?hr ?_; (case hd => rfl); (case hg => rfl); (case hr => first | (go_simp; done) | (go_simp; rfl)); intro gb242 hg w56 hbox hb; have BK242 := zK (hbox); have GW242 := zK ((by rw [hg]; exact (below_size (zo HB)) : w.heap.size ≤ gb242)); have GE242 := zK ((by rw [hg]; exact (below_size (zo HB)) : w.heap.size ≤ gb242)); replace HB := zK (below_step (zo HB) hb); clear hb hbox hg; have hcz57_0 : w56.cell? ⟨gb242, 0, none⟩ = some (.int .i64 0) := (blk_cell BK242.out 0).trans rfl; have hcz57_1 : w56.cell? ⟨gb242, 1, none⟩ = some (.slice none 0 0) := (blk_cell BK242.out 1).trans rfl; have hcz57_2 : w56.cell? ⟨gb242, 2, none⟩ = some (.bool false) := (blk_cell BK242.out 2).trans rfl; have hfz57_0 := blk_frozen BK242.out 0; have hfz57_1 := blk_frozen BK242.out 1; have hfz57_2 := blk_frozen BK242.out 2) | ((with_reducible refine zC (f := 46) rfl ?_); refine goesL_ (some 37) rfl rfl Try.func46 (by kernel_rfl) rfl #[.agg #[.int .i64 ((rd_T70 l0 x30_1).f0.f0), .slice A241_1 ((rd_T70 l0 x30_1).f0.f1).length c241_1], .int .i64 a1] rfl (by (try simp only [List.map_toArray, List.map_cons, List.map_nil]); first | done | rfl | (simp only [List.length_drop, List.length_take]; rfl)) ?_; (with_reducible refine (lin_By.calls k1 ((rd_T70 l0 x30_1).f0.f0) _ _ ((rd_T70 l0 x30_1).f0.f1) a1 t243 _ ?side1 ?side2 A11.out).mono ?_); (case side1 => exact Kd.C_below HR241_1.out (zo HB)); (case side2 => exact HC241_1.out); rintro e w58 ⟨rfl, hb⟩; refine ⟨_, rfl, ?_⟩; replace BK242 := zK (blk_below (g := gb242) (o := .cells #[.int .i64 ((rd_T70 l0 x30_1).f0.f0), .slice A241_1 ((rd_T70 l0 x30_1).f0.f1).length c241_1, .bool ((rd_T70 l0 x30_1).f1)] 70 (0, 0)) (by refine zM ?_; refine blk_put (cs := #[.int .i64 ((rd_T70 l0 x30_1).f0.f0), .slice A241_1 ((rd_T70 l0 x30_1).f0.f1).length c241_1, .bool false]) ?_ 2 _ rfl; refine zM ?_; refine blk_put (cs := #[.int .i64 ((rd_T70 l0 x30_1).f0.f0), .slice none 0 0, .bool false]) ?_ 1 _ rfl; refine zM ?_; refine blk_put (cs := #[.int .i64 0, .slice none 0 0, .bool false]) ?_ 0 _ rfl; refine zM ?_; exact BK242.out) hb); replace HB := zK (below_step (zo HB) hb); (try clear hb); (try clear hb2); (try clear hk); (try clear hi); have hcz59_0 : w58.cell? ⟨gb242, 0, none⟩ = some (.int .i64 ((rd_T70 l0 x30_1).f0.f0)) := (blk_cell BK242.out 0).trans rfl; have hcz59_1 : w58.cell? ⟨gb242, 1, none⟩ = some (.slice A241_1 ((rd_T70 l0 x30_1).f0.f1).length c241_1) := (blk_cell BK242.out 1).trans rfl; have hcz59_2 : w58.cell? ⟨gb242, 2, none⟩ = some (.bool ((rd_T70 l0 x30_1).f1)) := (blk_cell BK242.out 2).trans rfl; have hfz59_0 := blk_frozen BK242.out 0; have hfz59_1 := blk_frozen BK242.out 1; have hfz59_2 := blk_frozen BK242.out 2) | ((with_reducible refine zC (f := 58) rfl ?_); refine goesL_ (some 44) rfl rfl Try.func58 (by kernel_rfl) rfl #[.agg #[.int .i64 ((rd_T70 l0 x30_1).f0.f0), .slice A241_1 ((rd_T70 l0 x30_1).f0.f1).length c241_1], .int .i64 a1] rfl (by (try simp only [List.map_toArray, List.map_cons, List.map_nil]); first | done | rfl | (simp only [List.length_drop, List.length_take]; rfl)) ?_; (with_reducible refine (shadow_rest.calls k1 ((rd_T70 l0 x30_1).f0.f0) _ _ ((rd_T70 l0 x30_1).f0.f1) a1 t244 t245 _ ?side1 ?side2 A16.out).mono ?_); (case side1 => repeat (first | exact (Kd.C_below HR241_1.out HB.out) | (with_reducible refine cA ?_ _) | (with_reducible refine cN ?_ _) | (with_reducible refine cD ?_))); (case side2 => exact HC241_1.out); rintro e w60 ⟨v246, rfl, ho0, hb⟩; refine ⟨_, rfl, ?_⟩; have HO247 := zK (Kd.R_lower ho0 (below_size (zo HB))); replace BK242 := zK (blk_below (g := gb242) (o := .cells #[.int .i64 ((rd_T70 l0 x30_1).f0.f0), .slice A241_1 ((rd_T70 l0 x30_1).f0.f1).length c241_1, .bool ((rd_T70 l0 x30_1).f1)] 70 (0, 0)) (zb BK242) hb); replace HB := zK (below_step (zo HB) hb); (try clear hb); (try clear hb2); (try clear hk); (try clear hi); (try clear ho0); obtain ⟨Ao61, co61, eo61⟩ := Kd.R_slice HO247.out; subst eo61) | ((with_reducible refine zC (f := 57) rfl ?_); refine goesL_ (some 46) rfl rfl Try.func57 (by kernel_rfl) rfl #[.agg #[.int .i64 t244, .slice Ao61 t245.length co61], .slice A2 l2.length c2] rfl (by (try simp only [List.map_toArray, List.map_cons, List.map_nil]); first | done | rfl | (simp only [List.length_drop, List.length_take]; rfl)) ?_; (with_reducible refine (lin_Eval.calls k1 t244 _ _ t245 _ _ l2 t248 t249 _ ?side1 ?side2 ?side3 ?side4 A17.out).mono ?_); (case side1 => repeat (first | exact (Kd.R_reads' HO247.out).2.2 | (with_reducible refine cA ?_ _) | (with_reducible refine cN ?_ _) | (with_reducible refine cD ?_))); (case side2 => exact (Kd.R_reads' HO247.out).2.1); (case side3 => repeat (first | exact (Kd.C_below HR2.out HB.out) | (with_reducible refine cA ?_ _) | (with_reducible refine cN ?_ _) | (with_reducible refine cD ?_))); (case side4 => exact HC2.out); rintro e w62 ⟨rfl, hb⟩; refine ⟨_, rfl, ?_⟩; replace HO247 := zK (Kd.R_below (zr HO247) hb); replace BK242 := zK (blk_below (g := gb242) (o := .cells #[.int .i64 ((rd_T70 l0 x30_1).f0.f0), .slice A241_1 ((rd_T70 l0 x30_1).f0.f1).length c241_1, .bool ((rd_T70 l0 x30_1).f1)] 70 (0, 0)) (zb BK242) hb); replace HB := zK (below_step (zo HB) hb); (try clear hb); (try clear hb2); (try clear hk); (try clear hi)) | ((with_reducible refine zC (f := 60) rfl ?_); refine goesL_ (some 68) rfl rfl Try.func60 (by kernel_rfl) rfl #[.int .i64 t248, .int .i64 t243] rfl (by (try simp only [List.map_toArray, List.map_cons, List.map_nil]); first | done | rfl | (simp only [List.length_drop, List.length_take]; rfl)) ?_; (with_reducible refine (num_Ceil.calls t248 t243 t251 t252 _ A44.out).mono ?_); rintro e w' ⟨rfl, ⟨nd, rfl⟩⟩; refine ⟨_, rfl, ?_⟩) | ((with_reducible refine zC (f := 61) rfl ?_); refine goesL_ (some 73) rfl rfl Try.func61 (by kernel_rfl) rfl #[.int .i64 t251] rfl (by (try simp only [List.map_toArray, List.map_cons, List.map_nil]); first | done | rfl | (simp only [List.length_drop, List.length_take]; rfl)) ?_; (with_reducible refine (num_Neg.calls t251 t253 true _ A45.out).mono ?_); rintro e w' ⟨rfl, ⟨nd, rfl⟩⟩; refine ⟨_, rfl, ?_⟩))
             go_roundg k1
             case measure => have := HK1.out; omega
             case rel => exact ⟨(x11_1), (x12_1), (x13_1), (true), (wrap64 (x30_1 + 1)), (by first | rfl | (simp; done) | (simp [*]; done)), (by first | rfl | (simp; done) | (simp [*]; done)), (by first | rfl | (simp; done) | (simp [*]; done)), (by first | rfl | (simp; done) | (simp [*]; done)), (by first | rfl | (simp; done) | (simp [*]; done)), H', ⟨by have := HK1.out; omega⟩, ⟨zo HB⟩⟩
           ·replace c47 := Bool.eq_false_iff.mpr c47
            subst c47
            have H1 : (shadow_Between.l0 k1 a1 l2 x11_1 t253 x13_1 true l0 (l0.length : Int) (wrap64 (x30_1 + 1))) = some (r1, r2, r3, r4, r5) := by rw [if_neg (show ¬ (false = true) by decide)] at H; exact H
            clear H; have H := H1; clear H1
            have H' := zK H; clear H
            have p241 : 0 ≤ (x30_1 : Int) := of_decide_eq_true (by first | (with_reducible assumption) | assumption)
            have q241 : x30_1 < (l0.length : Int) := of_decide_eq_true (by first | (with_reducible assumption) | assumption)
            obtain ⟨ad241, A241_1, c241_1, e241, hx241_0, hx241_1, hx241_2, hl241_1, hi241_1⟩ := at_T70 HR0.out x30_1 p241 q241
            cases e241
            replace hx241_0 := (HB.out.cell (World.block_lt_of_cell? w _ hx241_0)).trans hx241_0
            replace hx241_1 := (HB.out.cell (World.block_lt_of_cell? w _ hx241_1)).trans hx241_1
            replace hx241_2 := (HB.out.cell (World.block_lt_of_cell? w _ hx241_2)).trans hx241_2
            have HR241_1 := zK hi241_1
            have HC241_1 := zK hl241_1; clear hi241_1 hl241_1
            replace p241 := eq_true p241
            replace q241 := eq_true q241
            go_wp2_with (first | ((with_reducible refine gate_dst (N := 16) rfl ?_); refine box_event ?hg (N := 16) ?hd (cs := #[.int .i64 0, .slice none 0 0, .bool false]) (t := 70) ?hr ?_; (case hd => rfl); (case hg => rfl); (case hr => first | (go_simp; done) | (go_simp; rfl)); intro gb242 hg w63 hbox hb; have BK242 := zK (hbox); have GW242 := zK ((by rw [hg]; exact (below_size (zo HB)) : w.heap.size ≤ gb242)); have GE242 := zK ((by rw [hg]; exact (below_size (zo HB)) : w.heap.size ≤ gb242)); replace HB := zK (below_step (zo HB) hb); clear hb hbox hg; have hcz64_0 : w63.cell? ⟨gb242, 0, none⟩ = some (.int .i64 0) := (blk_cell BK242.out 0).trans rfl; have hcz64_1 : w63.cell? ⟨gb242, 1, none⟩ = some (.slice none 0 0) := (blk_cell BK242.out 1).trans rfl; have hcz64_2 : w63.cell? ⟨gb242, 2, none⟩ = some (.bool false) := (blk_cell BK242.out 2).trans rfl; have hfz64_0 := blk_frozen BK242.out 0; have hfz64_1 := blk_frozen BK242.out 1; have hfz64_2 := blk_frozen BK242.out 2) | ((with_reducible refine zC (f := 46) rfl ?_); refine goesL_ (some 37) rfl rfl Try.func46 (by kernel_rfl) rfl #[.agg #[.int .i64 ((rd_T70 l0 x30_1).f0.f0), .slice A241_1 ((rd_T70 l0 x30_1).f0.f1).length c241_1], .int .i64 a1] rfl (by (try simp only [List.map_toArray, List.map_cons, List.map_nil]); first | done | rfl | (simp only [List.length_drop, List.length_take]; rfl)) ?_; (with_reducible refine (lin_By.calls k1 ((rd_T70 l0 x30_1).f0.f0) _ _ ((rd_T70 l0 x30_1).f0.f1) a1 t243 _ ?side1 ?side2 A11.out).mono ?_); (case side1 => exact Kd.C_below HR241_1.out (zo HB)); (case side2 => exact HC241_1.out); rintro e w65 ⟨rfl, hb⟩; refine ⟨_, rfl, ?_⟩; replace BK242 := zK (blk_below (g := gb242) (o := .cells #[.int .i64 ((rd_T70 l0 x30_1).f0.f0), .slice A241_1 ((rd_T70 l0 x30_1).f0.f1).length c241_1, .bool ((rd_T70 l0 x30_1).f1)] 70 (0, 0)) (by refine zM ?_; refine blk_put (cs := #[.int .i64 ((rd_T70 l0 x30_1).f0.f0), .slice A241_1 ((rd_T70 l0 x30_1).f0.f1).length c241_1, .bool false]) ?_ 2 _ rfl; refine zM ?_; refine blk_put (cs := #[.int .i64 ((rd_T70 l0 x30_1).f0.f0), .slice none 0 0, .bool false]) ?_ 1 _ rfl; refine zM ?_; refine blk_put (cs := #[.int .i64 0, .slice none 0 0, .bool false]) ?_ 0 _ rfl; refine zM ?_; exact BK242.out) hb); replace HB := zK (below_step (zo HB) hb); (try clear hb); (try clear hb2); (try clear hk); (try clear hi); have hcz66_0 : w65.cell? ⟨gb242, 0, none⟩ = some (.int .i64 ((rd_T70 l0 x30_1).f0.f0)) := (blk_cell BK242.out 0).trans rfl; have hcz66_1 : w65.cell? ⟨gb242, 1, none⟩ = some (.slice A241_1 ((rd_T70 l0 x30_1).f0.f1).length c241_1) := (blk_cell BK242.out 1).trans rfl; have hcz66_2 : w65.cell? ⟨gb242, 2, none⟩ = some (.bool ((rd_T70 l0 x30_1).f1)) := (blk_cell BK242.out 2).trans rfl; have hfz66_0 := blk_frozen BK242.out 0; have hfz66_1 := blk_frozen BK242.out 1; have hfz66_2 := blk_frozen BK242.out 2) | ((with_reducible refine zC (f := 58) rfl ?_); refine goesL_ (some 44) rfl rfl Try.func58 (by kernel_rfl) rfl #[.agg #[.int .i64 ((rd_T70 l0 x30_1).f0.f0), .slice A241_1 ((rd_T70 l0 x30_1).f0.f1).length c241_1], .int .i64 a1] rfl (by (try simp only [List.map_toArray, List.map_cons, List.map_nil]); first | done | rfl | (simp only [List.length_drop, List.length_take]; rfl)) ?_; (with_reducible refine (shadow_rest.calls k1 ((rd_T70 l0 x30_1).f0.f0) _ _ ((rd_T70 l0 x30_1).f0.f1) a1 t244 t245 _ ?side1 ?side2 A16.out).mono ?_); (case side1 => repeat (first | exact (Kd.C_below HR241_1.out HB.out) | (with_reducible refine cA ?_ _) | (with_reducible refine cN ?_ _) | (with_reducible refine cD ?_))); (case side2 => exact HC241_1.out); rintro e w67 ⟨v246, rfl, ho0, hb⟩; refine ⟨_, rfl, ?_⟩; have HO247 := zK (Kd.R_lower ho0 (below_size (zo HB))); replace BK242 := zK (blk_below (g := gb242) (o := .cells #[.int .i64 ((rd_T70 l0 x30_1).f0.f0), .slice A241_1 ((rd_T70 l0 x30_1).f0.f1).length c241_1, .bool ((rd_T70 l0 x30_1).f1)] 70 (0, 0)) (zb BK242) hb); replace HB := zK (below_step (zo HB) hb); (try clear hb); (try clear hb2); (try clear hk); (try clear hi); (try clear ho0); obtain ⟨Ao68, co68, eo68⟩ := Kd.R_slice HO247.out; subst eo68) | ((with_reducible refine zC (f := 57) rfl ?_); refine goesL_ (some 46) rfl rfl Try.func57 (by kernel_rfl) rfl #[.agg #[.int .i64 t244, .slice Ao68 t245.length co68], .slice A2 l2.length c2] rfl (by (try simp only [List.map_toArray, List.map_cons, List.map_nil]); first | done | rfl | (simp only [List.length_drop, List.length_take]; rfl)) ?_; (with_reducible refine (lin_Eval.calls k1 t244 _ _ t245 _ _ l2 t248 t249 _ ?side1 ?side2 ?side3 ?side4 A17.out).mono ?_); (case side1 => repeat (first | exact (Kd.R_reads' HO247.out).2.2 | (with_reducible refine cA ?_ _) | (with_reducible refine cN ?_ _) | (with_reducible refine cD ?_))); (case side2 => exact (Kd.R_reads' HO247.out).2.1); (case side3 => repeat (first | exact (Kd.C_below HR2.out HB.out) | (with_reducible refine cA ?_ _) | (with_reducible refine cN ?_ _) | (with_reducible refine cD ?_))); (case side4 => exact HC2.out); rintro e w69 ⟨rfl, hb⟩; refine ⟨_, rfl, ?_⟩; replace HO247 := zK (Kd.R_below (zr HO247) hb); replace BK242 := zK (blk_below (g := gb242) (o := .cells #[.int .i64 ((rd_T70 l0 x30_1).f0.f0), .slice A241_1 ((rd_T70 l0 x30_1).f0.f1).length c241_1, .bool ((rd_T70 l0 x30_1).f1)] 70 (0, 0)) (zb BK242) hb); replace HB := zK (below_step (zo HB) hb); (try clear hb); (try clear hb2); (try clear hk); (try clear hi)) | ((with_reducible refine zC (f := 60) rfl ?_); refine goesL_ (some 68) rfl rfl Try.func60 (by kernel_rfl) rfl #[.int .i64 t248, .int .i64 t243] rfl (by (try simp only [List.map_toArray, List.map_cons, List.map_nil]); first | done | rfl | (simp only [List.length_drop, List.length_take]; rfl)) ?_; (with_reducible refine (num_Ceil.calls t248 t243 t251 t252 _ A44.out).mono ?_); rintro e w' ⟨rfl, ⟨nd, rfl⟩⟩; refine ⟨_, rfl, ?_⟩) | ((with_reducible refine zC (f := 61) rfl ?_); refine goesL_ (some 73) rfl rfl Try.func61 (by kernel_rfl) rfl #[.int .i64 t251] rfl (by (try simp only [List.map_toArray, List.map_cons, List.map_nil]); first | done | rfl | (simp only [List.length_drop, List.length_take]; rfl)) ?_; (with_reducible refine (num_Neg.calls t251 t253 true _ A45.out).mono ?_); rintro e w' ⟨rfl, ⟨nd, rfl⟩⟩; refine ⟨_, rfl, ?_⟩))
            go_roundg k1
            case measure => have := HK1.out; omega
            case rel => exact ⟨(x11_1), (t253), (x13_1), (true), (wrap64 (x30_1 + 1)), (by first | rfl | (simp; done) | (simp [*]; done)), (by first | rfl | (simp; done) | (simp [*]; done)), (by first | rfl | (simp; done) | (simp [*]; done)), (by first | rfl | (simp; done) | (simp [*]; done)), (by first | rfl | (simp; done) | (simp [*]; done)), H', ⟨by have := HK1.out; omega⟩, ⟨zo HB⟩⟩
          ·replace c46 := Bool.eq_false_iff.mpr c46
           subst c46
           have H1 : (some (0, 0, false, false, 5)) = some (r1, r2, r3, r4, r5) := by rw [if_neg (show ¬ (false = true) by decide)] at H; exact H
           clear H; have H := H1; clear H1
           simp only [Option.some.injEq, Prod.mk.injEq] at H
           obtain ⟨rfl, rfl, rfl, rfl, rfl⟩ := H
           have p241 : 0 ≤ (x30_1 : Int) := of_decide_eq_true (by first | (with_reducible assumption) | assumption)
           have q241 : x30_1 < (l0.length : Int) := of_decide_eq_true (by first | (with_reducible assumption) | assumption)
           obtain ⟨ad241, A241_1, c241_1, e241, hx241_0, hx241_1, hx241_2, hl241_1, hi241_1⟩ := at_T70 HR0.out x30_1 p241 q241
           cases e241
           replace hx241_0 := (HB.out.cell (World.block_lt_of_cell? w _ hx241_0)).trans hx241_0
           replace hx241_1 := (HB.out.cell (World.block_lt_of_cell? w _ hx241_1)).trans hx241_1
           replace hx241_2 := (HB.out.cell (World.block_lt_of_cell? w _ hx241_2)).trans hx241_2
           have HR241_1 := zK hi241_1
           have HC241_1 := zK hl241_1; clear hi241_1 hl241_1
           replace p241 := eq_true p241
           replace q241 := eq_true q241
           go_wp2_with (first | ((with_reducible refine gate_dst (N := 16) rfl ?_); refine box_event ?hg (N := 16) ?hd (cs := #[.int .i64 0, .slice none 0 0, .bool false]) (t := 70) ?hr ?_; (case hd => rfl); (case hg => rfl); (case hr => first | (go_simp; done) | (go_simp; rfl)); intro gb242 hg w70 hbox hb; have BK242 := zK (hbox); have GW242 := zK ((by rw [hg]; exact (below_size (zo HB)) : w.heap.size ≤ gb242)); have GE242 := zK ((by rw [hg]; exact (below_size (zo HB)) : w.heap.size ≤ gb242)); replace HB := zK (below_step (zo HB) hb); clear hb hbox hg; have hcz71_0 : w70.cell? ⟨gb242, 0, none⟩ = some (.int .i64 0) := (blk_cell BK242.out 0).trans rfl; have hcz71_1 : w70.cell? ⟨gb242, 1, none⟩ = some (.slice none 0 0) := (blk_cell BK242.out 1).trans rfl; have hcz71_2 : w70.cell? ⟨gb242, 2, none⟩ = some (.bool false) := (blk_cell BK242.out 2).trans rfl; have hfz71_0 := blk_frozen BK242.out 0; have hfz71_1 := blk_frozen BK242.out 1; have hfz71_2 := blk_frozen BK242.out 2) | ((with_reducible refine zC (f := 46) rfl ?_); refine goesL_ (some 37) rfl rfl Try.func46 (by kernel_rfl) rfl #[.agg #[.int .i64 ((rd_T70 l0 x30_1).f0.f0), .slice A241_1 ((rd_T70 l0 x30_1).f0.f1).length c241_1], .int .i64 a1] rfl (by (try simp only [List.map_toArray, List.map_cons, List.map_nil]); first | done | rfl | (simp only [List.length_drop, List.length_take]; rfl)) ?_; (with_reducible refine (lin_By.calls k1 ((rd_T70 l0 x30_1).f0.f0) _ _ ((rd_T70 l0 x30_1).f0.f1) a1 t243 _ ?side1 ?side2 A11.out).mono ?_); (case side1 => exact Kd.C_below HR241_1.out (zo HB)); (case side2 => exact HC241_1.out); rintro e w72 ⟨rfl, hb⟩; refine ⟨_, rfl, ?_⟩; replace BK242 := zK (blk_below (g := gb242) (o := .cells #[.int .i64 ((rd_T70 l0 x30_1).f0.f0), .slice A241_1 ((rd_T70 l0 x30_1).f0.f1).length c241_1, .bool ((rd_T70 l0 x30_1).f1)] 70 (0, 0)) (by refine zM ?_; refine blk_put (cs := #[.int .i64 ((rd_T70 l0 x30_1).f0.f0), .slice A241_1 ((rd_T70 l0 x30_1).f0.f1).length c241_1, .bool false]) ?_ 2 _ rfl; refine zM ?_; refine blk_put (cs := #[.int .i64 ((rd_T70 l0 x30_1).f0.f0), .slice none 0 0, .bool false]) ?_ 1 _ rfl; refine zM ?_; refine blk_put (cs := #[.int .i64 0, .slice none 0 0, .bool false]) ?_ 0 _ rfl; refine zM ?_; exact BK242.out) hb); replace HB := zK (below_step (zo HB) hb); (try clear hb); (try clear hb2); (try clear hk); (try clear hi); have hcz73_0 : w72.cell? ⟨gb242, 0, none⟩ = some (.int .i64 ((rd_T70 l0 x30_1).f0.f0)) := (blk_cell BK242.out 0).trans rfl; have hcz73_1 : w72.cell? ⟨gb242, 1, none⟩ = some (.slice A241_1 ((rd_T70 l0 x30_1).f0.f1).length c241_1) := (blk_cell BK242.out 1).trans rfl; have hcz73_2 : w72.cell? ⟨gb242, 2, none⟩ = some (.bool ((rd_T70 l0 x30_1).f1)) := (blk_cell BK242.out 2).trans rfl; have hfz73_0 := blk_frozen BK242.out 0; have hfz73_1 := blk_frozen BK242.out 1; have hfz73_2 := blk_frozen BK242.out 2) | ((with_reducible refine zC (f := 58) rfl ?_); refine goesL_ (some 44) rfl rfl Try.func58 (by kernel_rfl) rfl #[.agg #[.int .i64 ((rd_T70 l0 x30_1).f0.f0), .slice A241_1 ((rd_T70 l0 x30_1).f0.f1).length c241_1], .int .i64 a1] rfl (by (try simp only [List.map_toArray, List.map_cons, List.map_nil]); first | done | rfl | (simp only [List.length_drop, List.length_take]; rfl)) ?_; (with_reducible refine (shadow_rest.calls k1 ((rd_T70 l0 x30_1).f0.f0) _ _ ((rd_T70 l0 x30_1).f0.f1) a1 t244 t245 _ ?side1 ?side2 A16.out).mono ?_); (case side1 => repeat (first | exact (Kd.C_below HR241_1.out HB.out) | (with_reducible refine cA ?_ _) | (with_reducible refine cN ?_ _) | (with_reducible refine cD ?_))); (case side2 => exact HC241_1.out); rintro e w74 ⟨v246, rfl, ho0, hb⟩; refine ⟨_, rfl, ?_⟩; have HO247 := zK (Kd.R_lower ho0 (below_size (zo HB))); replace BK242 := zK (blk_below (g := gb242) (o := .cells #[.int .i64 ((rd_T70 l0 x30_1).f0.f0), .slice A241_1 ((rd_T70 l0 x30_1).f0.f1).length c241_1, .bool ((rd_T70 l0 x30_1).f1)] 70 (0, 0)) (zb BK242) hb); replace HB := zK (below_step (zo HB) hb); (try clear hb); (try clear hb2); (try clear hk); (try clear hi); (try clear ho0); obtain ⟨Ao75, co75, eo75⟩ := Kd.R_slice HO247.out; subst eo75) | ((with_reducible refine zC (f := 57) rfl ?_); refine goesL_ (some 46) rfl rfl Try.func57 (by kernel_rfl) rfl #[.agg #[.int .i64 t244, .slice Ao75 t245.length co75], .slice A2 l2.length c2] rfl (by (try simp only [List.map_toArray, List.map_cons, List.map_nil]); first | done | rfl | (simp only [List.length_drop, List.length_take]; rfl)) ?_; (with_reducible refine (lin_Eval.calls k1 t244 _ _ t245 _ _ l2 t248 t249 _ ?side1 ?side2 ?side3 ?side4 A17.out).mono ?_); (case side1 => repeat (first | exact (Kd.R_reads' HO247.out).2.2 | (with_reducible refine cA ?_ _) | (with_reducible refine cN ?_ _) | (with_reducible refine cD ?_))); (case side2 => exact (Kd.R_reads' HO247.out).2.1); (case side3 => repeat (first | exact (Kd.C_below HR2.out HB.out) | (with_reducible refine cA ?_ _) | (with_reducible refine cN ?_ _) | (with_reducible refine cD ?_))); (case side4 => exact HC2.out); rintro e w76 ⟨rfl, hb⟩; refine ⟨_, rfl, ?_⟩; replace HO247 := zK (Kd.R_below (zr HO247) hb); replace BK242 := zK (blk_below (g := gb242) (o := .cells #[.int .i64 ((rd_T70 l0 x30_1).f0.f0), .slice A241_1 ((rd_T70 l0 x30_1).f0.f1).length c241_1, .bool ((rd_T70 l0 x30_1).f1)] 70 (0, 0)) (zb BK242) hb); replace HB := zK (below_step (zo HB) hb); (try clear hb); (try clear hb2); (try clear hk); (try clear hi)) | ((with_reducible refine zC (f := 60) rfl ?_); refine goesL_ (some 68) rfl rfl Try.func60 (by kernel_rfl) rfl #[.int .i64 t248, .int .i64 t243] rfl (by (try simp only [List.map_toArray, List.map_cons, List.map_nil]); first | done | rfl | (simp only [List.length_drop, List.length_take]; rfl)) ?_; (with_reducible refine (num_Ceil.calls t248 t243 t251 t252 _ A44.out).mono ?_); rintro e w' ⟨rfl, ⟨nd, rfl⟩⟩; refine ⟨_, rfl, ?_⟩) | ((with_reducible refine zC (f := 61) rfl ?_); refine goesL_ (some 73) rfl rfl Try.func61 (by kernel_rfl) rfl #[.int .i64 t251] rfl (by (try simp only [List.map_toArray, List.map_cons, List.map_nil]); first | done | rfl | (simp only [List.length_drop, List.length_take]; rfl)) ?_; (with_reducible refine (num_Neg.calls t251 t253 false _ A45.out).mono ?_); rintro e w' ⟨rfl, ⟨nd, rfl⟩⟩; refine ⟨_, rfl, ?_⟩))
           refine bodyPost_ret (results_list (rs := [.tmp 6, .tmp 7, .tmp 8, .tmp 9, .tmp 10]) rfl (by simp) (.tmp (.tmp (.tmp (.tmp (.tmp .nil)))))) rfl ?_
           exact ⟨by first | rfl | (simp [errW_none, errW_some] <;> rfl) | (simp [*, errW_none, errW_some] <;> rfl), zo HB⟩
        ·rw [if_neg c18] at H
         have c18b0 : (t249 == 0) = false := beq_eq_false_iff_ne.mpr c18
         have c18b1 : (t249 != 0) = true := bne_iff_ne.mpr c18
         simp only [Option.some.injEq, Prod.mk.injEq] at H
         obtain ⟨rfl, rfl, rfl, rfl, rfl⟩ := H
         have p241 : 0 ≤ (x30_1 : Int) := of_decide_eq_true (by first | (with_reducible assumption) | assumption)
         have q241 : x30_1 < (l0.length : Int) := of_decide_eq_true (by first | (with_reducible assumption) | assumption)
         obtain ⟨ad241, A241_1, c241_1, e241, hx241_0, hx241_1, hx241_2, hl241_1, hi241_1⟩ := at_T70 HR0.out x30_1 p241 q241
         cases e241
         replace hx241_0 := (HB.out.cell (World.block_lt_of_cell? w _ hx241_0)).trans hx241_0
         replace hx241_1 := (HB.out.cell (World.block_lt_of_cell? w _ hx241_1)).trans hx241_1
         replace hx241_2 := (HB.out.cell (World.block_lt_of_cell? w _ hx241_2)).trans hx241_2
         have HR241_1 := zK hi241_1
         have HC241_1 := zK hl241_1; clear hi241_1 hl241_1
         replace p241 := eq_true p241
         replace q241 := eq_true q241
         go_wp2_with (first | ((with_reducible refine gate_dst (N := 16) rfl ?_); refine box_event ?hg (N := 16) ?hd (cs := #[.int .i64 0, .slice none 0 0, .bool false]) (t := 70) ?hr ?_; (case hd => rfl); (case hg => rfl); (case hr => first | (go_simp; done) | (go_simp; rfl)); intro gb242 hg w77 hbox hb; have BK242 := zK (hbox); have GW242 := zK ((by rw [hg]; exact (below_size (zo HB)) : w.heap.size ≤ gb242)); have GE242 := zK ((by rw [hg]; exact (below_size (zo HB)) : w.heap.size ≤ gb242)); replace HB := zK (below_step (zo HB) hb); clear hb hbox hg; have hcz78_0 : w77.cell? ⟨gb242, 0, none⟩ = some (.int .i64 0) := (blk_cell BK242.out 0).trans rfl; have hcz78_1 : w77.cell? ⟨gb242, 1, none⟩ = some (.slice none 0 0) := (blk_cell BK242.out 1).trans rfl; have hcz78_2 : w77.cell? ⟨gb242, 2, none⟩ = some (.bool false) := (blk_cell BK242.out 2).trans rfl; have hfz78_0 := blk_frozen BK242.out 0; have hfz78_1 := blk_frozen BK242.out 1; have hfz78_2 := blk_frozen BK242.out 2) | ((with_reducible refine zC (f := 46) rfl ?_); refine goesL_ (some 37) rfl rfl Try.func46 (by kernel_rfl) rfl #[.agg #[.int .i64 ((rd_T70 l0 x30_1).f0.f0), .slice A241_1 ((rd_T70 l0 x30_1).f0.f1).length c241_1], .int .i64 a1] rfl (by (try simp only [List.map_toArray, List.map_cons, List.map_nil]); first | done | rfl | (simp only [List.length_drop, List.length_take]; rfl)) ?_; (with_reducible refine (lin_By.calls k1 ((rd_T70 l0 x30_1).f0.f0) _ _ ((rd_T70 l0 x30_1).f0.f1) a1 t243 _ ?side1 ?side2 A11.out).mono ?_); (case side1 => exact Kd.C_below HR241_1.out (zo HB)); (case side2 => exact HC241_1.out); rintro e w79 ⟨rfl, hb⟩; refine ⟨_, rfl, ?_⟩; replace BK242 := zK (blk_below (g := gb242) (o := .cells #[.int .i64 ((rd_T70 l0 x30_1).f0.f0), .slice A241_1 ((rd_T70 l0 x30_1).f0.f1).length c241_1, .bool ((rd_T70 l0 x30_1).f1)] 70 (0, 0)) (by refine zM ?_; refine blk_put (cs := #[.int .i64 ((rd_T70 l0 x30_1).f0.f0), .slice A241_1 ((rd_T70 l0 x30_1).f0.f1).length c241_1, .bool false]) ?_ 2 _ rfl; refine zM ?_; refine blk_put (cs := #[.int .i64 ((rd_T70 l0 x30_1).f0.f0), .slice none 0 0, .bool false]) ?_ 1 _ rfl; refine zM ?_; refine blk_put (cs := #[.int .i64 0, .slice none 0 0, .bool false]) ?_ 0 _ rfl; refine zM ?_; exact BK242.out) hb); replace HB := zK (below_step (zo HB) hb); (try clear hb); (try clear hb2); (try clear hk); (try clear hi); have hcz80_0 : w79.cell? ⟨gb242, 0, none⟩ = some (.int .i64 ((rd_T70 l0 x30_1).f0.f0)) := (blk_cell BK242.out 0).trans rfl; have hcz80_1 : w79.cell? ⟨gb242, 1, none⟩ = some (.slice A241_1 ((rd_T70 l0 x30_1).f0.f1).length c241_1) := (blk_cell BK242.out 1).trans rfl; have hcz80_2 : w79.cell? ⟨gb242, 2, none⟩ = some (.bool ((rd_T70 l0 x30_1).f1)) := (blk_cell BK242.out 2).trans rfl; have hfz80_0 := blk_frozen BK242.out 0; have hfz80_1 := blk_frozen BK242.out 1; have hfz80_2 := blk_frozen BK242.out 2) | ((with_reducible refine zC (f := 58) rfl ?_); refine goesL_ (some 44) rfl rfl Try.func58 (by kernel_rfl) rfl #[.agg #[.int .i64 ((rd_T70 l0 x30_1).f0.f0), .slice A241_1 ((rd_T70 l0 x30_1).f0.f1).length c241_1], .int .i64 a1] rfl (by (try simp only [List.map_toArray, List.map_cons, List.map_nil]); first | done | rfl | (simp only [List.length_drop, List.length_take]; rfl)) ?_; (with_reducible refine (shadow_rest.calls k1 ((rd_T70 l0 x30_1).f0.f0) _ _ ((rd_T70 l0 x30_1).f0.f1) a1 t244 t245 _ ?side1 ?side2 A16.out).mono ?_); (case side1 => repeat (first | exact (Kd.C_below HR241_1.out HB.out) | (with_reducible refine cA ?_ _) | (with_reducible refine cN ?_ _) | (with_reducible refine cD ?_))); (case side2 => exact HC241_1.out); rintro e w81 ⟨v246, rfl, ho0, hb⟩; refine ⟨_, rfl, ?_⟩; have HO247 := zK (Kd.R_lower ho0 (below_size (zo HB))); replace BK242 := zK (blk_below (g := gb242) (o := .cells #[.int .i64 ((rd_T70 l0 x30_1).f0.f0), .slice A241_1 ((rd_T70 l0 x30_1).f0.f1).length c241_1, .bool ((rd_T70 l0 x30_1).f1)] 70 (0, 0)) (zb BK242) hb); replace HB := zK (below_step (zo HB) hb); (try clear hb); (try clear hb2); (try clear hk); (try clear hi); (try clear ho0); obtain ⟨Ao82, co82, eo82⟩ := Kd.R_slice HO247.out; subst eo82) | ((with_reducible refine zC (f := 57) rfl ?_); refine goesL_ (some 46) rfl rfl Try.func57 (by kernel_rfl) rfl #[.agg #[.int .i64 t244, .slice Ao82 t245.length co82], .slice A2 l2.length c2] rfl (by (try simp only [List.map_toArray, List.map_cons, List.map_nil]); first | done | rfl | (simp only [List.length_drop, List.length_take]; rfl)) ?_; (with_reducible refine (lin_Eval.calls k1 t244 _ _ t245 _ _ l2 t248 t249 _ ?side1 ?side2 ?side3 ?side4 A17.out).mono ?_); (case side1 => repeat (first | exact (Kd.R_reads' HO247.out).2.2 | (with_reducible refine cA ?_ _) | (with_reducible refine cN ?_ _) | (with_reducible refine cD ?_))); (case side2 => exact (Kd.R_reads' HO247.out).2.1); (case side3 => repeat (first | exact (Kd.C_below HR2.out HB.out) | (with_reducible refine cA ?_ _) | (with_reducible refine cN ?_ _) | (with_reducible refine cD ?_))); (case side4 => exact HC2.out); rintro e w83 ⟨rfl, hb⟩; refine ⟨_, rfl, ?_⟩; replace HO247 := zK (Kd.R_below (zr HO247) hb); replace BK242 := zK (blk_below (g := gb242) (o := .cells #[.int .i64 ((rd_T70 l0 x30_1).f0.f0), .slice A241_1 ((rd_T70 l0 x30_1).f0.f1).length c241_1, .bool ((rd_T70 l0 x30_1).f1)] 70 (0, 0)) (zb BK242) hb); replace HB := zK (below_step (zo HB) hb); (try clear hb); (try clear hb2); (try clear hk); (try clear hi)))
         refine bodyPost_ret (results_list (rs := [.tmp 6, .tmp 7, .tmp 8, .tmp 9, .tmp 10]) rfl (by simp) (.tmp (.tmp (.tmp (.tmp (.tmp .nil)))))) rfl ?_
         exact ⟨by first | rfl | (simp [errW_none, errW_some] <;> rfl) | (simp [*, errW_none, errW_some] <;> rfl), zo HB⟩
      ·rw [if_neg c10] at H
       exact absurd H (by simp)
     ·rw [if_neg c9] at H
      exact absurd H (by simp)
    ·rw [if_neg c8] at H
     have c8b0 : decide (x30_1 < (l0.length : Int)) = false := decide_eq_false c8
     clear c8
     simp only [Option.some.injEq, Prod.mk.injEq] at H
     obtain ⟨rfl, rfl, rfl, rfl, rfl⟩ := H
     go_wp2
     refine bodyPost_ret (results_list (rs := [.tmp 6, .tmp 7, .tmp 8, .tmp 9, .tmp 10]) rfl (by simp) (.tmp (.tmp (.tmp (.tmp (.tmp .nil)))))) rfl ?_
     exact ⟨by first | rfl | (simp [errW_none, errW_some] <;> rfl) | (simp [*, errW_none, errW_some] <;> rfl), zo HB⟩

/-! ### sequiturref30_Long: function 13 -/
def sequiturref30_Long.l0 : Nat → List (S70) → Int → Option (Bool)
 | 0, _, _ => none
 | k + 1, x0, x5 => if x5 < (x0.length : Int) then (if 0 ≤ x5 then (if (((rd_T70 x0 x5).f0.f1).length : Int) > 70 then (some true) else (sequiturref30_Long.l0 k x0 (wrap64 (x5 + 1)))) else (none)) else (some false)
def sequiturref30_Long.f (k : Nat) (l0 : List (S70)) (a1 : Int) : Option (Bool) := if (l0.length : Int) > a1 then (some true) else (sequiturref30_Long.l0 k l0 0)
theorem sequiturref30_Long.mono_l : ∀ k, (∀ y0 y1, LeO (sequiturref30_Long.l0 k y0 y1) (sequiturref30_Long.l0 (k + 1) y0 y1))
 | 0 => fun _ _ r h => by simp [sequiturref30_Long.l0] at h
 | k + 1 => by
  have ih0 := sequiturref30_Long.mono_l k
  ·intro y0 y1
   unfold sequiturref30_Long.l0
   repeat' first
   | (with_reducible exact ih0 _ _)
   | (with_reducible exact LeO.refl _)
   | (with_reducible exact LeO.none _)
   | (with_reducible refine LeO.ite ?_ ?_)
   | (with_reducible refine LeO.bind ?_ (fun _ => ?_))
   | exact ih0 _ _
   | exact LeO.none _
   | refine LeO.ite ?_ ?_
   | refine LeO.bind ?_ (fun _ => ?_)
theorem sequiturref30_Long.mono : ∀ a0 a1 k, LeO (sequiturref30_Long.f k a0 a1) (sequiturref30_Long.f (k + 1) a0 a1) := by
 intro a0 a1 k
 have ih0 := sequiturref30_Long.mono_l k
 unfold sequiturref30_Long.f
 repeat' first
   | (with_reducible exact ih0 _ _)
   | (with_reducible exact LeO.refl _)
   | (with_reducible exact LeO.none _)
   | (with_reducible refine LeO.ite ?_ ?_)
   | (with_reducible refine LeO.bind ?_ (fun _ => ?_))
   | exact ih0 _ _
   | exact LeO.none _
   | refine LeO.ite ?_ ?_
   | refine LeO.bind ?_ (fun _ => ?_)
set_option maxHeartbeats 8000000 in
set_option maxRecDepth 100000 in
theorem sequiturref30_Long.calls (k : Nat) (A0 : Option Addr) (c0 : Nat) (l0 : List (S70)) (a1 : Int) (r : Bool) (w : World) (hr0 : Kd.C k70 w A0 l0.length l0) (hc0 : l0.length ≤ c0) (h : sequiturref30_Long.f k l0 a1 = some r) :
  Calls Try.prog 13 #[.slice A0 l0.length c0, .int .i64 a1] w fun e w' => e = .returned (.bool r) ∧ Drawn0 w w' := by
 have HR0 := zK hr0
 have HC0 := zK hc0; clear hr0 hc0
 have H : (if (l0.length : Int) > a1 then (some true) else (sequiturref30_Long.l0 k l0 0)) = some r := h
 clear h
 by_cases c3 : (l0.length : Int) > a1
 ·rw [if_pos c3] at H
  have c3b0 : decide (a1 < (l0.length : Int)) = true := decide_eq_true c3
  clear c3
  obtain rfl := Option.some.inj H
  go_enter Try.func13, Try.ntmps13
  go_wp2
  go_ret
  exact ⟨by first | rfl | (simp; done) | (simp [*]; done), by repeat (first | exact Drawn0.refl _ | apply Drawn0.step)⟩
 ·rw [if_neg c3] at H
  have c3b0 : decide (a1 < (l0.length : Int)) = false := decide_eq_false c3
  clear c3
  have H' := zK H; clear H
  go_enter Try.func13, Try.ntmps13
  go_wp2
  go_loopg [5] k (fun kq v5 w' => ∃ (x5_1 : Int), v5 = .int .i64 x5_1 ∧ Aside0 (sequiturref30_Long.l0 kq l0 x5_1 = some r) ∧ Aside0 (kq ≤ k) ∧ Drawn0 w w')
  case atStart => exact ⟨(0), (by first | rfl | (simp; done) | (simp [*]; done)), H', ⟨Nat.le_refl _⟩, by repeat (first | exact Drawn0.refl _ | apply Drawn0.step)⟩
  case round =>
   clear H'; try clear c1; try clear p2; try clear c3; try clear c3b0
   obtain ⟨x5_1, rfl, HA, HK1, ⟨m1, rfl⟩⟩ := hrel
   cases gk with
   | zero => exact absurd HA.out (by simp [sequiturref30_Long.l0])
   | succ k1 =>
    have H := HA.out; clear HA
    simp only [sequiturref30_Long.l0] at H
    by_cases c4 : x5_1 < (l0.length : Int)
    ·rw [if_pos c4] at H
     have c4b0 : decide (x5_1 < (l0.length : Int)) = true := decide_eq_true c4
     clear c4
     by_cases c5 : 0 ≤ x5_1
     ·rw [if_pos c5] at H
      have c5b0 : decide (0 ≤ x5_1) = true := decide_eq_true c5; clear c5
      by_cases c6 : (((rd_T70 l0 x5_1).f0.f1).length : Int) > 70
      ·rw [if_pos c6] at H
       have c6b0 : decide (70 < (((rd_T70 l0 x5_1).f0.f1).length : Int)) = true := decide_eq_true c6
       have c6b1 : decide (70 < ((rd_T70 l0 x5_1).f0.f1).length) = true := decide_eq_true (by omega)
       clear c6
       obtain rfl := Option.some.inj H
       have p255 : 0 ≤ (x5_1 : Int) := of_decide_eq_true (by first | (with_reducible assumption) | assumption)
       have q255 : x5_1 < (l0.length : Int) := of_decide_eq_true (by first | (with_reducible assumption) | assumption)
       obtain ⟨ad255, A255_1, c255_1, e255, hx255_0, hx255_1, hx255_2, hl255_1, hi255_1⟩ := at_T70 HR0.out x5_1 p255 q255
       cases e255
       have HR255_1 := zK hi255_1
       have HC255_1 := zK hl255_1; clear hi255_1 hl255_1
       replace p255 := eq_true p255
       replace q255 := eq_true q255
       go_wp2
       go_ret
       exact ⟨by first | rfl | (simp; done) | (simp [*]; done), by repeat (first | exact Drawn0.refl _ | apply Drawn0.step)⟩
      ·rw [if_neg c6] at H
       have c6b0 : decide (70 < (((rd_T70 l0 x5_1).f0.f1).length : Int)) = false := decide_eq_false c6
       have c6b1 : decide (70 < ((rd_T70 l0 x5_1).f0.f1).length) = false := decide_eq_false (by omega)
       clear c6
       have H' := zK H; clear H
       have p255 : 0 ≤ (x5_1 : Int) := of_decide_eq_true (by first | (with_reducible assumption) | assumption)
       have q255 : x5_1 < (l0.length : Int) := of_decide_eq_true (by first | (with_reducible assumption) | assumption)
       obtain ⟨ad255, A255_1, c255_1, e255, hx255_0, hx255_1, hx255_2, hl255_1, hi255_1⟩ := at_T70 HR0.out x5_1 p255 q255
       cases e255
       have HR255_1 := zK hi255_1
       have HC255_1 := zK hl255_1; clear hi255_1 hl255_1
       replace p255 := eq_true p255
       replace q255 := eq_true q255
       go_wp2
       go_roundg k1
       case measure => have := HK1.out; omega
       case rel => exact ⟨(wrap64 (x5_1 + 1)), (by first | rfl | (simp; done) | (simp [*]; done)), H', ⟨by have := HK1.out; omega⟩, by repeat (first | exact Drawn0.refl _ | apply Drawn0.step)⟩
     ·rw [if_neg c5] at H
      exact absurd H (by simp)
    ·rw [if_neg c4] at H
     have c4b0 : decide (x5_1 < (l0.length : Int)) = false := decide_eq_false c4
     clear c4
     obtain rfl := Option.some.inj H
     go_wp2
     go_ret
     exact ⟨by first | rfl | (simp; done) | (simp [*]; done), by repeat (first | exact Drawn0.refl _ | apply Drawn0.step)⟩

/-! ### sequiturref27_Right: function 70 -/
def sequiturref27_Right.l0 : Nat → Int → Int → Int → List (S68) → Option (Int)
 | 0, _, _, _, _ => none
 | k + 1, x3, x4, x257000, x257001 => if x4 < (x257001.length : Int) then (if 0 ≤ x4 then (if ((rd_T68 x257001 x4).f0) ≤ x3 then (some 1) else (if ((rd_T68 x257001 x4).f0) ≥ 64 then (some 1) else (if ((rd_T68 x257001 x4).f1) = 0 then (some 1) else (sequiturref27_Right.l0 k ((rd_T68 x257001 x4).f0) (wrap64 (x4 + 1)) x257000 x257001)))) else (none)) else (some 0)
def sequiturref27_Right.f (k : Nat) (a0_0 : Int) (l0_1 : List (S68)) : Option (Int) := sequiturref27_Right.l0 k (-1) 0 a0_0 l0_1
theorem sequiturref27_Right.mono_l : ∀ k, (∀ y0 y1 y2 y3, LeO (sequiturref27_Right.l0 k y0 y1 y2 y3) (sequiturref27_Right.l0 (k + 1) y0 y1 y2 y3))
 | 0 => fun _ _ _ _ r h => by simp [sequiturref27_Right.l0] at h
 | k + 1 => by
  have ih0 := sequiturref27_Right.mono_l k
  ·intro y0 y1 y2 y3
   unfold sequiturref27_Right.l0
   repeat' first
   | (with_reducible exact ih0 _ _ _ _)
   | (with_reducible exact LeO.refl _)
   | (with_reducible exact LeO.none _)
   | (with_reducible refine LeO.ite ?_ ?_)
   | (with_reducible refine LeO.bind ?_ (fun _ => ?_))
   | exact ih0 _ _ _ _
   | exact LeO.none _
   | refine LeO.ite ?_ ?_
   | refine LeO.bind ?_ (fun _ => ?_)
theorem sequiturref27_Right.mono : ∀ a0 a1 k, LeO (sequiturref27_Right.f k a0 a1) (sequiturref27_Right.f (k + 1) a0 a1) := by
 intro a0 a1 k
 have ih0 := sequiturref27_Right.mono_l k
 unfold sequiturref27_Right.f
 repeat' first
   | (with_reducible exact ih0 _ _ _ _)
   | (with_reducible exact LeO.refl _)
   | (with_reducible exact LeO.none _)
   | (with_reducible refine LeO.ite ?_ ?_)
   | (with_reducible refine LeO.bind ?_ (fun _ => ?_))
   | exact ih0 _ _ _ _
   | exact LeO.none _
   | refine LeO.ite ?_ ?_
   | refine LeO.bind ?_ (fun _ => ?_)
set_option maxHeartbeats 8000000 in
set_option maxRecDepth 100000 in
theorem sequiturref27_Right.calls (k : Nat) (a0_0 : Int) (A0_1 : Option Addr) (c0_1 : Nat) (l0_1 : List (S68)) (r : Int) (w : World) (hr0_1 : Kd.C k68 w A0_1 l0_1.length l0_1) (hc0_1 : l0_1.length ≤ c0_1) (h : sequiturref27_Right.f k a0_0 l0_1 = some r) :
  Calls Try.prog 70 #[.agg #[.int .i64 a0_0, .slice A0_1 l0_1.length c0_1]] w fun e w' => e = .returned (.int .i64 r) ∧ Below w.heap.size w w' := by
 have hu62 := Try.underlying62
 have HR0_1 := zK hr0_1
 have HC0_1 := zK hc0_1; clear hr0_1 hc0_1
 have HB := zK (Below.refl w.heap.size w)
 have H : (sequiturref27_Right.l0 k (-1) 0 a0_0 l0_1) = some r := h
 clear h
 have H' := zK H; clear H
 go_enter Try.func70, Try.ntmps70
 go_wp2_with (first | ((with_reducible refine gate_dst (N := 1) rfl ?_); refine box_event ?hg (N := 1) ?hd (cs := #[.int .i64 a0_0, .slice A0_1 l0_1.length c0_1]) (t := 62) ?hr ?_; (case hd => rfl); (case hg => rfl); (case hr => first | (go_simp; done) | (go_simp; rfl)); intro gb256 hg w2 hbox hb; have BK256 := zK (hbox); have GW256 := zK ((by rw [hg]; exact (below_size (zo HB)) : w.heap.size ≤ gb256)); have GE256 := zK ((by rw [hg]; exact (below_size (zo HB)) : w.heap.size ≤ gb256)); replace HB := zK (below_step (zo HB) hb); clear hb hbox hg))
 go_loopg [3, 4] k (fun kq v3 v4 w' => ∃ (x3_1 : Int) (x4_1 : Int), v3 = .int .i64 x3_1 ∧ v4 = .int .i64 x4_1 ∧ Aside0 (sequiturref27_Right.l0 kq x3_1 x4_1 a0_0 l0_1 = some r) ∧ Aside0 (kq ≤ k) ∧ Aside0 (w'.heap[gb256]? = some (.cells #[.int .i64 a0_0, (.slice A0_1 l0_1.length c0_1)] 62 (0, 0))) ∧ Aside0 (Below w.heap.size w w'))
 case atStart => exact ⟨((-1)), (0), (by first | rfl | (simp; done) | (simp [*]; done)), (by first | rfl | (simp; done) | (simp [*]; done)), H', ⟨Nat.le_refl _⟩, ⟨zb BK256⟩, ⟨zo HB⟩⟩
 case round =>
  clear H'; try clear p2
  obtain ⟨x3_1, x4_1, rfl, rfl, HA, HK1, BK256, HB⟩ := hrel
  cases gk with
  | zero => exact absurd HA.out (by simp [sequiturref27_Right.l0])
  | succ k1 =>
   have H := HA.out; clear HA
   simp only [sequiturref27_Right.l0] at H
   by_cases c3 : x4_1 < (l0_1.length : Int)
   ·rw [if_pos c3] at H
    have c3b0 : decide (x4_1 < (l0_1.length : Int)) = true := decide_eq_true c3
    clear c3
    by_cases c4 : 0 ≤ x4_1
    ·rw [if_pos c4] at H
     have c4b0 : decide (0 ≤ x4_1) = true := decide_eq_true c4; clear c4
     by_cases c5 : ((rd_T68 l0_1 x4_1).f0) ≤ x3_1
     ·rw [if_pos c5] at H
      have c5b0 : decide (((rd_T68 l0_1 x4_1).f0) ≤ x3_1) = true := decide_eq_true c5
      clear c5
      obtain rfl := Option.some.inj H
      have hcz6_0 : wr.cell? ⟨gb256, 0, none⟩ = some (.int .i64 a0_0) := (blk_cell BK256.out 0).trans rfl
      have hcz6_1 : wr.cell? ⟨gb256, 1, none⟩ = some (.slice A0_1 l0_1.length c0_1) := (blk_cell BK256.out 1).trans rfl
      have hfz6_0 := blk_frozen BK256.out 0
      have hfz6_1 := blk_frozen BK256.out 1
      have p257 : 0 ≤ (x4_1 : Int) := of_decide_eq_true (by first | (with_reducible assumption) | assumption)
      have q257 : x4_1 < (l0_1.length : Int) := of_decide_eq_true (by first | (with_reducible assumption) | assumption)
      obtain ⟨ad257, e257, hx257_0, hx257_1⟩ := at_T68 HR0_1.out x4_1 p257 q257
      cases e257
      replace hx257_0 := (HB.out.cell (World.block_lt_of_cell? w _ hx257_0)).trans hx257_0
      replace hx257_1 := (HB.out.cell (World.block_lt_of_cell? w _ hx257_1)).trans hx257_1
      replace p257 := eq_true p257
      replace q257 := eq_true q257
      go_wp2
      go_ret
      exact ⟨by first | rfl | (simp [errW_none, errW_some] <;> rfl) | (simp [*, errW_none, errW_some] <;> rfl), zo HB⟩
     ·rw [if_neg c5] at H
      have c5b0 : decide (((rd_T68 l0_1 x4_1).f0) ≤ x3_1) = false := decide_eq_false c5
      clear c5
      by_cases c7 : ((rd_T68 l0_1 x4_1).f0) ≥ 64
      ·rw [if_pos c7] at H
       have c7b0 : decide (64 ≤ ((rd_T68 l0_1 x4_1).f0)) = true := decide_eq_true c7
       clear c7
       obtain rfl := Option.some.inj H
       have hcz8_0 : wr.cell? ⟨gb256, 0, none⟩ = some (.int .i64 a0_0) := (blk_cell BK256.out 0).trans rfl
       have hcz8_1 : wr.cell? ⟨gb256, 1, none⟩ = some (.slice A0_1 l0_1.length c0_1) := (blk_cell BK256.out 1).trans rfl
       have hfz8_0 := blk_frozen BK256.out 0
       have hfz8_1 := blk_frozen BK256.out 1
       have p257 : 0 ≤ (x4_1 : Int) := of_decide_eq_true (by first | (with_reducible assumption) | assumption)
       have q257 : x4_1 < (l0_1.length : Int) := of_decide_eq_true (by first | (with_reducible assumption) | assumption)
       obtain ⟨ad257, e257, hx257_0, hx257_1⟩ := at_T68 HR0_1.out x4_1 p257 q257
       cases e257
       replace hx257_0 := (HB.out.cell (World.block_lt_of_cell? w _ hx257_0)).trans hx257_0
       replace hx257_1 := (HB.out.cell (World.block_lt_of_cell? w _ hx257_1)).trans hx257_1
       replace p257 := eq_true p257
       replace q257 := eq_true q257
       have p258 : 0 ≤ (x4_1 : Int) := of_decide_eq_true (by first | (with_reducible assumption) | assumption)
       have q258 : x4_1 < (l0_1.length : Int) := of_decide_eq_true (by first | (with_reducible assumption) | assumption)
       obtain ⟨ad258, e258, hx258_0, hx258_1⟩ := at_T68 HR0_1.out x4_1 p258 q258
       obtain rfl : ad257 = ad258 := (by injection e258)
       replace hx258_0 := (HB.out.cell (World.block_lt_of_cell? w _ hx258_0)).trans hx258_0
       replace hx258_1 := (HB.out.cell (World.block_lt_of_cell? w _ hx258_1)).trans hx258_1
       replace p258 := eq_true p258
       replace q258 := eq_true q258
       go_wp2
       go_ret
       exact ⟨by first | rfl | (simp [errW_none, errW_some] <;> rfl) | (simp [*, errW_none, errW_some] <;> rfl), zo HB⟩
      ·rw [if_neg c7] at H
       have c7b0 : decide (64 ≤ ((rd_T68 l0_1 x4_1).f0)) = false := decide_eq_false c7
       clear c7
       by_cases c9 : ((rd_T68 l0_1 x4_1).f1) = 0
       ·rw [if_pos c9] at H
        have c9b0 : (((rd_T68 l0_1 x4_1).f1) == 0) = true := beq_iff_eq.mpr c9
        have c9b1 : (((rd_T68 l0_1 x4_1).f1) != 0) = false := bne_eq_false_iff_eq.mpr c9
        clear c9
        obtain rfl := Option.some.inj H
        have hcz10_0 : wr.cell? ⟨gb256, 0, none⟩ = some (.int .i64 a0_0) := (blk_cell BK256.out 0).trans rfl
        have hcz10_1 : wr.cell? ⟨gb256, 1, none⟩ = some (.slice A0_1 l0_1.length c0_1) := (blk_cell BK256.out 1).trans rfl
        have hfz10_0 := blk_frozen BK256.out 0
        have hfz10_1 := blk_frozen BK256.out 1
        have p257 : 0 ≤ (x4_1 : Int) := of_decide_eq_true (by first | (with_reducible assumption) | assumption)
        have q257 : x4_1 < (l0_1.length : Int) := of_decide_eq_true (by first | (with_reducible assumption) | assumption)
        obtain ⟨ad257, e257, hx257_0, hx257_1⟩ := at_T68 HR0_1.out x4_1 p257 q257
        cases e257
        replace hx257_0 := (HB.out.cell (World.block_lt_of_cell? w _ hx257_0)).trans hx257_0
        replace hx257_1 := (HB.out.cell (World.block_lt_of_cell? w _ hx257_1)).trans hx257_1
        replace p257 := eq_true p257
        replace q257 := eq_true q257
        have p258 : 0 ≤ (x4_1 : Int) := of_decide_eq_true (by first | (with_reducible assumption) | assumption)
        have q258 : x4_1 < (l0_1.length : Int) := of_decide_eq_true (by first | (with_reducible assumption) | assumption)
        obtain ⟨ad258, e258, hx258_0, hx258_1⟩ := at_T68 HR0_1.out x4_1 p258 q258
        obtain rfl : ad257 = ad258 := (by injection e258)
        replace hx258_0 := (HB.out.cell (World.block_lt_of_cell? w _ hx258_0)).trans hx258_0
        replace hx258_1 := (HB.out.cell (World.block_lt_of_cell? w _ hx258_1)).trans hx258_1
        replace p258 := eq_true p258
        replace q258 := eq_true q258
        have p259 : 0 ≤ (x4_1 : Int) := of_decide_eq_true (by first | (with_reducible assumption) | assumption)
        have q259 : x4_1 < (l0_1.length : Int) := of_decide_eq_true (by first | (with_reducible assumption) | assumption)
        obtain ⟨ad259, e259, hx259_0, hx259_1⟩ := at_T68 HR0_1.out x4_1 p259 q259
        obtain rfl : ad257 = ad259 := (by injection e259)
        replace hx259_0 := (HB.out.cell (World.block_lt_of_cell? w _ hx259_0)).trans hx259_0
        replace hx259_1 := (HB.out.cell (World.block_lt_of_cell? w _ hx259_1)).trans hx259_1
        replace p259 := eq_true p259
        replace q259 := eq_true q259
        go_wp2
        go_ret
        exact ⟨by first | rfl | (simp [errW_none, errW_some] <;> rfl) | (simp [*, errW_none, errW_some] <;> rfl), zo HB⟩
       ·rw [if_neg c9] at H
        have c9b0 : (((rd_T68 l0_1 x4_1).f1) == 0) = false := beq_eq_false_iff_ne.mpr c9
        have c9b1 : (((rd_T68 l0_1 x4_1).f1) != 0) = true := bne_iff_ne.mpr c9
        have H' := zK H; clear H
        have hcz11_0 : wr.cell? ⟨gb256, 0, none⟩ = some (.int .i64 a0_0) := (blk_cell BK256.out 0).trans rfl
        have hcz11_1 : wr.cell? ⟨gb256, 1, none⟩ = some (.slice A0_1 l0_1.length c0_1) := (blk_cell BK256.out 1).trans rfl
        have hfz11_0 := blk_frozen BK256.out 0
        have hfz11_1 := blk_frozen BK256.out 1
        have p257 : 0 ≤ (x4_1 : Int) := of_decide_eq_true (by first | (with_reducible assumption) | assumption)
        have q257 : x4_1 < (l0_1.length : Int) := of_decide_eq_true (by first | (with_reducible assumption) | assumption)
        obtain ⟨ad257, e257, hx257_0, hx257_1⟩ := at_T68 HR0_1.out x4_1 p257 q257
        cases e257
        replace hx257_0 := (HB.out.cell (World.block_lt_of_cell? w _ hx257_0)).trans hx257_0
        replace hx257_1 := (HB.out.cell (World.block_lt_of_cell? w _ hx257_1)).trans hx257_1
        replace p257 := eq_true p257
        replace q257 := eq_true q257
        have p258 : 0 ≤ (x4_1 : Int) := of_decide_eq_true (by first | (with_reducible assumption) | assumption)
        have q258 : x4_1 < (l0_1.length : Int) := of_decide_eq_true (by first | (with_reducible assumption) | assumption)
        obtain ⟨ad258, e258, hx258_0, hx258_1⟩ := at_T68 HR0_1.out x4_1 p258 q258
        obtain rfl : ad257 = ad258 := (by injection e258)
        replace hx258_0 := (HB.out.cell (World.block_lt_of_cell? w _ hx258_0)).trans hx258_0
        replace hx258_1 := (HB.out.cell (World.block_lt_of_cell? w _ hx258_1)).trans hx258_1
        replace p258 := eq_true p258
        replace q258 := eq_true q258
        have p259 : 0 ≤ (x4_1 : Int) := of_decide_eq_true (by first | (with_reducible assumption) | assumption)
        have q259 : x4_1 < (l0_1.length : Int) := of_decide_eq_true (by first | (with_reducible assumption) | assumption)
        obtain ⟨ad259, e259, hx259_0, hx259_1⟩ := at_T68 HR0_1.out x4_1 p259 q259
        obtain rfl : ad257 = ad259 := (by injection e259)
        replace hx259_0 := (HB.out.cell (World.block_lt_of_cell? w _ hx259_0)).trans hx259_0
        replace hx259_1 := (HB.out.cell (World.block_lt_of_cell? w _ hx259_1)).trans hx259_1
        replace p259 := eq_true p259
        replace q259 := eq_true q259
        have p260 : 0 ≤ (x4_1 : Int) := of_decide_eq_true (by first | (with_reducible assumption) | assumption)
        have q260 : x4_1 < (l0_1.length : Int) := of_decide_eq_true (by first | (with_reducible assumption) | assumption)
        obtain ⟨ad260, e260, hx260_0, hx260_1⟩ := at_T68 HR0_1.out x4_1 p260 q260
        obtain rfl : ad257 = ad260 := (by injection e260)
        replace hx260_0 := (HB.out.cell (World.block_lt_of_cell? w _ hx260_0)).trans hx260_0
        replace hx260_1 := (HB.out.cell (World.block_lt_of_cell? w _ hx260_1)).trans hx260_1
        replace p260 := eq_true p260
        replace q260 := eq_true q260
        go_wp2
        go_roundg k1
        case measure => have := HK1.out; omega
        case rel => exact ⟨((rd_T68 l0_1 x4_1).f0), (wrap64 (x4_1 + 1)), (by first | rfl | (simp; done) | (simp [*]; done)), (by first | rfl | (simp; done) | (simp [*]; done)), H', ⟨by have := HK1.out; omega⟩, ⟨zb BK256⟩, ⟨zo HB⟩⟩
    ·rw [if_neg c4] at H
     exact absurd H (by simp)
   ·rw [if_neg c3] at H
    have c3b0 : decide (x4_1 < (l0_1.length : Int)) = false := decide_eq_false c3
    clear c3
    obtain rfl := Option.some.inj H
    have hcz12_0 : wr.cell? ⟨gb256, 0, none⟩ = some (.int .i64 a0_0) := (blk_cell BK256.out 0).trans rfl
    have hcz12_1 : wr.cell? ⟨gb256, 1, none⟩ = some (.slice A0_1 l0_1.length c0_1) := (blk_cell BK256.out 1).trans rfl
    have hfz12_0 := blk_frozen BK256.out 0
    have hfz12_1 := blk_frozen BK256.out 1
    go_wp2
    go_ret
    exact ⟨by first | rfl | (simp [errW_none, errW_some] <;> rfl) | (simp [*, errW_none, errW_some] <;> rfl), zo HB⟩

end Go.Proofs.Ytkfbfgkdabljiaa.PShadowDark
