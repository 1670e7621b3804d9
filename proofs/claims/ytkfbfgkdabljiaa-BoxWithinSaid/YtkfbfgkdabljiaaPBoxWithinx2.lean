/- What the call of each function that the law reaches comes to: it answers as the plain function of the same name does, wherever that one answers; and the law itself out of its plain form. Written by a program of this session (an extended copy of the printer); no condition but what stands in each theorem. -/
import Derived.Test.YtkfbfgkdabljiaaPBoxWithinx0
import Derived.Test.YtkfbfgkdabljiaaPBoxWithinx1
namespace Go.Proofs.Ytkfbfgkdabljiaa.PBoxWithin
open Go.RowKit Go.Proofs.YtkfbfgkdabljiaaW.PrintWords Go.Proofs.YtkfbfgkdabljiaaW.PrintLast Go.Proofs.YtkfbfgkdabljiaaW.PrintMore
open Go.Proofs.YtkfbfgkdabljiaaW.PrintWords renaming below_alloc → yA, pw_below_drewN → yN, below_drew1 → yD, below_set → yS, gate_callee → zC
open Go.Proofs.YtkfbfgkdabljiaaW.PrintWords.Kd renaming C_alloc → cA, C_drewN → cN, C_drew → cD
open Go.Proofs.YtkfbfgkdabljiaaW.PrintWords.Aside0 renaming mk → zK
attribute [local go_sem] max2_int min2_int max_two min_two max_three min_three max_four min_four   -- for this text's walks alone
set_option linter.unusedVariables false
set_option linter.unusedSimpArgs false

/-! ### api_Lin_117: function 117 -/
def api_Lin_117.l0 : Nat → List (S62) → Int → Int → Option (Int)
 | 0, _, _, _ => none
 | k + 1, x0, x7, x8 => if x8 < x7 then (if 0 ≤ x8 then (if x8 < (x0.length : Int) then ((lin_right_1.f k ((rd_T62 x0 x8).f0) ((rd_T62 x0 x8).f1)).bind fun t113 => (if t113 = true then (some x8) else (api_Lin_117.l0 k x0 x7 (wrap64 (x8 + 1))))) else (none)) else (none)) else (some (-1))
def api_Lin_117.f (k : Nat) (l0 : List (S62))  : Option (Int) := api_Lin_117.l0 k l0 (l0.length : Int) 0
theorem api_Lin_117.mono_l : ∀ k, (∀ y0 y1 y2, LeO (api_Lin_117.l0 k y0 y1 y2) (api_Lin_117.l0 (k + 1) y0 y1 y2))
 | 0 => fun _ _ _ r h => by simp [api_Lin_117.l0] at h
 | k + 1 => by
  have ih0 := api_Lin_117.mono_l k
  ·intro y0 y1 y2
   unfold api_Lin_117.l0
   repeat' first
   | (with_reducible exact ih0 _ _ _)
   | (with_reducible exact lin_right_1.mono _ _ _)
   | (with_reducible exact LeO.refl _)
   | (with_reducible exact LeO.none _)
   | (with_reducible refine LeO.ite ?_ ?_)
   | (with_reducible refine LeO.bind ?_ (fun _ => ?_))
   | exact ih0 _ _ _
   | exact lin_right_1.mono _ _ _
   | exact LeO.none _
   | refine LeO.ite ?_ ?_
   | refine LeO.bind ?_ (fun _ => ?_)
theorem api_Lin_117.mono : ∀ a0 k, LeO (api_Lin_117.f k a0) (api_Lin_117.f (k + 1) a0) := by
 intro a0 k
 have ih0 := api_Lin_117.mono_l k
 unfold api_Lin_117.f
 repeat' first
   | (with_reducible exact ih0 _ _ _)
   | (with_reducible exact lin_right_1.mono _ _ _)
   | (with_reducible exact LeO.refl _)
   | (with_reducible exact LeO.none _)
   | (with_reducible refine LeO.ite ?_ ?_)
   | (with_reducible refine LeO.bind ?_ (fun _ => ?_))
   | exact ih0 _ _ _
   | exact lin_right_1.mono _ _ _
   | exact LeO.none _
   | refine LeO.ite ?_ ?_
   | refine LeO.bind ?_ (fun _ => ?_)
set_option maxHeartbeats 8000000 in
set_option maxRecDepth 100000 in
theorem api_Lin_117.calls (k : Nat) (A0 : Option Addr) (c0 : Nat) (l0 : List (S62))  (r : Int) (w : World) (hr0 : Kd.C k62 w A0 l0.length l0) (hc0 : l0.length ≤ c0) (h : api_Lin_117.f k l0 = some r) :
  Calls Try.prog 117 #[.slice A0 l0.length c0, .func (.func 106) #[] #[]] w fun e w' => e = .returned (.int .i64 r) ∧ Below w.heap.size w w' := by
 have hu62 := Try.underlying62
 have HR0 := zK hr0
 have HC0 := zK hc0; clear hr0 hc0
 have HB := zK (Below.refl w.heap.size w)
 have H : (api_Lin_117.l0 k l0 (l0.length : Int) 0) = some r := h; clear h
 have H' := zK H; clear H
 go_enter Try.func117, Try.ntmps117
 go_wp2
 go_loopg [8] k (fun kq v8 w' => ∃ (x8_1 : Int), v8 = .int .i64 x8_1 ∧ Aside0 (api_Lin_117.l0 kq l0 (l0.length : Int) x8_1 = some r) ∧ Aside0 (kq ≤ k) ∧ Aside0 (Below w.heap.size w w'))
 case atStart => exact ⟨(0), (by first | rfl | (simp; done) | (simp [*]; done)), H', ⟨Nat.le_refl _⟩, ⟨zo HB⟩⟩
 case round =>
  clear H'; try clear c1; try clear p2
  obtain ⟨x8_1, rfl, HA, HK1, HB⟩ := hrel
  cases gk with
  | zero => exact absurd HA.out (by simp [api_Lin_117.l0])
  | succ k1 =>
   have H := HA.out; clear HA
   simp only [api_Lin_117.l0] at H
   by_cases c3 : x8_1 < (l0.length : Int)
   ·rw [if_pos c3] at H
    have c3b0 : decide (x8_1 < (l0.length : Int)) = true := decide_eq_true c3
    clear c3
    by_cases c4 : 0 ≤ x8_1
    ·rw [if_pos c4] at H
     have c4b0 : decide (0 ≤ x8_1) = true := decide_eq_true c4; clear c4
     by_cases c5 : x8_1 < (l0.length : Int)
     ·rw [if_pos c5] at H
      have c5b0 : decide (x8_1 < (l0.length : Int)) = true := decide_eq_true c5
      clear c5; replace H := Option.bind_eq_some_iff.mp H
      obtain ⟨t113, A60, H⟩ := H
      replace H : (if t113 = true then (some x8_1) else (api_Lin_117.l0 k1 l0 (l0.length : Int) (wrap64 (x8_1 + 1)))) = some r := H
      have A6 := zK A60; clear A60
      by_cases c7 : t113 = true
      ·subst c7
       have H1 : (some x8_1) = some r := by rw [if_pos rfl] at H; exact H
       clear H; have H := H1; clear H1
       obtain rfl := Option.some.inj H
       have p112 : 0 ≤ (x8_1 : Int) := of_decide_eq_true (by first | (with_reducible assumption) | assumption)
       have q112 : x8_1 < (l0.length : Int) := of_decide_eq_true (by first | (with_reducible assumption) | assumption)
       obtain ⟨ad112, A112_1, c112_1, e112, hx112_0, hx112_1, hl112_1, hi112_1⟩ := at_T62 HR0.out x8_1 p112 q112
       cases e112
       replace hx112_0 := (HB.out.cell (World.block_lt_of_cell? w _ hx112_0)).trans hx112_0
       replace hx112_1 := (HB.out.cell (World.block_lt_of_cell? w _ hx112_1)).trans hx112_1
       have HR112_1 := zK hi112_1
       have HC112_1 := zK hl112_1; clear hi112_1 hl112_1
       replace p112 := eq_true p112
       replace q112 := eq_true q112
       go_wp2_with (first | (go_at_call 106; (with_reducible refine (lin_right_1.calls k1 ((rd_T62 l0 x8_1).f0) _ _ ((rd_T62 l0 x8_1).f1) true _ ?side1 ?side2 A6.out).mono ?_); (case side1 => repeat (first | exact (Kd.C_below HR112_1.out HB.out) | (with_reducible refine cA ?_ _) | (with_reducible refine cN ?_ _) | (with_reducible refine cD ?_))); (case side2 => exact HC112_1.out); rintro e w8 ⟨rfl, hb⟩; replace HB := zK (below_step (zo HB) hb); (try clear hb); (try clear hb2); (try clear hk); (try clear hi)))
       go_ret
       exact ⟨by first | rfl | (simp [errW_none, errW_some] <;> rfl) | (simp [*, errW_none, errW_some] <;> rfl), zo HB⟩
      ·replace c7 := Bool.eq_false_iff.mpr c7
       subst c7
       have H1 : (api_Lin_117.l0 k1 l0 (l0.length : Int) (wrap64 (x8_1 + 1))) = some r := by rw [if_neg (show ¬ (false = true) by decide)] at H; exact H
       clear H; have H := H1; clear H1
       have H' := zK H; clear H
       have p112 : 0 ≤ (x8_1 : Int) := of_decide_eq_true (by first | (with_reducible assumption) | assumption)
       have q112 : x8_1 < (l0.length : Int) := of_decide_eq_true (by first | (with_reducible assumption) | assumption)
       obtain ⟨ad112, A112_1, c112_1, e112, hx112_0, hx112_1, hl112_1, hi112_1⟩ := at_T62 HR0.out x8_1 p112 q112
       cases e112
       replace hx112_0 := (HB.out.cell (World.block_lt_of_cell? w _ hx112_0)).trans hx112_0
       replace hx112_1 := (HB.out.cell (World.block_lt_of_cell? w _ hx112_1)).trans hx112_1
       have HR112_1 := zK hi112_1
       have HC112_1 := zK hl112_1; clear hi112_1 hl112_1
       replace p112 := eq_true p112
       replace q112 := eq_true q112
       go_wp2_with (first | (go_at_call 106; (with_reducible refine (lin_right_1.calls k1 ((rd_T62 l0 x8_1).f0) _ _ ((rd_T62 l0 x8_1).f1) false _ ?side1 ?side2 A6.out).mono ?_); (case side1 => repeat (first | exact (Kd.C_below HR112_1.out HB.out) | (with_reducible refine cA ?_ _) | (with_reducible refine cN ?_ _) | (with_reducible refine cD ?_))); (case side2 => exact HC112_1.out); rintro e w9 ⟨rfl, hb⟩; replace HB := zK (below_step (zo HB) hb); (try clear hb); (try clear hb2); (try clear hk); (try clear hi)))
       go_roundg k1
       case measure => have := HK1.out; omega
       case rel => exact ⟨(wrap64 (x8_1 + 1)), (by first | rfl | (simp; done) | (simp [*]; done)), H', ⟨by have := HK1.out; omega⟩, ⟨zo HB⟩⟩
     ·rw [if_neg c5] at H
      exact absurd H (by simp)
    ·rw [if_neg c4] at H
     exact absurd H (by simp)
   ·rw [if_neg c3] at H
    have c3b0 : decide (x8_1 < (l0.length : Int)) = false := decide_eq_false c3
    clear c3
    obtain rfl := Option.some.inj H
    go_wp2
    go_ret
    exact ⟨by first | rfl | (simp [errW_none, errW_some] <;> rfl) | (simp [*, errW_none, errW_some] <;> rfl), zo HB⟩

/-! ### api_Lin_105: function 105 -/
def api_Lin_105.f (k : Nat) (l0 : List (S62))  : Option (Bool) := (api_Lin_117.f k l0).bind fun t114 => (some (decide (t114 ≥ 0)))
theorem api_Lin_105.mono : ∀ a0 k, LeO (api_Lin_105.f k a0) (api_Lin_105.f (k + 1) a0) := by
 intro a0 k
 unfold api_Lin_105.f
 repeat' first
   | (with_reducible exact api_Lin_117.mono _ _)
   | (with_reducible exact LeO.refl _)
   | (with_reducible exact LeO.none _)
   | (with_reducible refine LeO.ite ?_ ?_)
   | (with_reducible refine LeO.bind ?_ (fun _ => ?_))
   | exact api_Lin_117.mono _ _
   | exact LeO.none _
   | refine LeO.ite ?_ ?_
   | refine LeO.bind ?_ (fun _ => ?_)
set_option maxHeartbeats 8000000 in
set_option maxRecDepth 100000 in
theorem api_Lin_105.calls (k : Nat) (A0 : Option Addr) (c0 : Nat) (l0 : List (S62))  (r : Bool) (w : World) (hr0 : Kd.C k62 w A0 l0.length l0) (hc0 : l0.length ≤ c0) (h : api_Lin_105.f k l0 = some r) :
  Calls Try.prog 105 #[.slice A0 l0.length c0, .func (.func 106) #[] #[]] w fun e w' => e = .returned (.bool r) ∧ Below w.heap.size w w' := by
 have HR0 := zK hr0
 have HC0 := zK hc0; clear hr0 hc0
 have HB := zK (Below.refl w.heap.size w)
 have H : ((api_Lin_117.f k l0).bind fun t114 => (some (decide (t114 ≥ 0)))) = some r := h
 clear h; replace H := Option.bind_eq_some_iff.mp H
 obtain ⟨t114, A30, H⟩ := H
 replace H : (some (decide (t114 ≥ 0))) = some r := H
 have A3 := zK A30; clear A30
 obtain rfl := Option.some.inj H
 go_enter Try.func105, Try.ntmps105
 go_wp2_with (first | (go_at_call 117; (with_reducible refine (api_Lin_117.calls k _ _ l0 t114 _ ?side1 ?side2 A3.out).mono ?_); (case side1 => repeat (first | exact HR0.out | (with_reducible refine cA ?_ _) | (with_reducible refine cN ?_ _) | (with_reducible refine cD ?_))); (case side2 => exact HC0.out); rintro e w4 ⟨rfl, hb⟩; replace HB := zK (below_step (zo HB) hb); (try clear hb); (try clear hb2); (try clear hk); (try clear hi)))
 go_ret
 exact ⟨by first | rfl | (simp [errW_none, errW_some] <;> rfl) | (simp [*, errW_none, errW_some] <;> rfl), zo HB⟩

/-! ### lin_right: function 87 -/
def lin_right.f (k : Nat) (l0 : List (S62)) : Option (Bool) := (api_Lin_105.f k l0).bind fun t115 => (some (!t115))
theorem lin_right.mono : ∀ a0 k, LeO (lin_right.f k a0) (lin_right.f (k + 1) a0) := by
 intro a0 k
 unfold lin_right.f
 repeat' first
   | (with_reducible exact api_Lin_105.mono _ _)
   | (with_reducible exact LeO.refl _)
   | (with_reducible exact LeO.none _)
   | (with_reducible refine LeO.ite ?_ ?_)
   | (with_reducible refine LeO.bind ?_ (fun _ => ?_))
   | exact api_Lin_105.mono _ _
   | exact LeO.none _
   | refine LeO.ite ?_ ?_
   | refine LeO.bind ?_ (fun _ => ?_)
set_option maxHeartbeats 8000000 in
set_option maxRecDepth 100000 in
theorem lin_right.calls (k : Nat) (A0 : Option Addr) (c0 : Nat) (l0 : List (S62)) (r : Bool) (w : World) (hr0 : Kd.C k62 w A0 l0.length l0) (hc0 : l0.length ≤ c0) (h : lin_right.f k l0 = some r) :
  Calls Try.prog 87 #[.slice A0 l0.length c0] w fun e w' => e = .returned (.bool r) ∧ Below w.heap.size w w' := by
 have HR0 := zK hr0
 have HC0 := zK hc0; clear hr0 hc0
 have HB := zK (Below.refl w.heap.size w)
 have H : ((api_Lin_105.f k l0).bind fun t115 => (some (!t115))) = some r := h
 clear h; replace H := Option.bind_eq_some_iff.mp H
 obtain ⟨t115, A20, H⟩ := H; replace H : (some (!t115)) = some r := H
 have A2 := zK A20; clear A20
 obtain rfl := Option.some.inj H
 go_enter Try.func87, Try.ntmps87
 go_wp2_with (first | (go_at_call 105; (with_reducible refine (api_Lin_105.calls k _ _ l0 t115 _ ?side1 ?side2 A2.out).mono ?_); (case side1 => repeat (first | exact HR0.out | (with_reducible refine cA ?_ _) | (with_reducible refine cN ?_ _) | (with_reducible refine cD ?_))); (case side2 => exact HC0.out); rintro e w3 ⟨rfl, hb⟩; replace HB := zK (below_step (zo HB) hb); (try clear hb); (try clear hb2); (try clear hk); (try clear hi)))
 go_ret
 exact ⟨by first | rfl | (simp [errW_none, errW_some] <;> rfl) | (simp [*, errW_none, errW_some] <;> rfl), zo HB⟩

/-! ### bits_Mul64: function 118 -/
def bits_Mul64.f (a0 : Int) (a1 : Int) : Option (Int × Int) := some (IntKind.u64.wrap ((IntKind.u64.wrap ((IntKind.u64.wrap ((a0 / 4294967296) * (a1 / 4294967296))) + ((IntKind.u64.wrap ((IntKind.u64.wrap ((a0 / 4294967296) * (Go.bits .and .u64 a1 4294967295))) + ((IntKind.u64.wrap ((Go.bits .and .u64 a0 4294967295) * (Go.bits .and .u64 a1 4294967295))) / 4294967296))) / 4294967296))) + ((IntKind.u64.wrap ((Go.bits .and .u64 (IntKind.u64.wrap ((IntKind.u64.wrap ((a0 / 4294967296) * (Go.bits .and .u64 a1 4294967295))) + ((IntKind.u64.wrap ((Go.bits .and .u64 a0 4294967295) * (Go.bits .and .u64 a1 4294967295))) / 4294967296))) 4294967295) + (IntKind.u64.wrap ((Go.bits .and .u64 a0 4294967295) * (a1 / 4294967296))))) / 4294967296)), IntKind.u64.wrap (a0 * a1))
set_option maxHeartbeats 8000000 in
set_option maxRecDepth 100000 in
theorem bits_Mul64.calls (a0 : Int) (a1 : Int) (r1 : Int) (r2 : Int) (w : World) (h : bits_Mul64.f a0 a1 = some (r1, r2)) :
  Calls Try.prog 118 #[.int .u64 a0, .int .u64 a1] w fun e w' => e = .returned (.tuple #[.int .u64 r1, .int .u64 r2]) ∧ Drawn0 w w' := by
 have H : (some (IntKind.u64.wrap ((IntKind.u64.wrap ((IntKind.u64.wrap ((a0 / 4294967296) * (a1 / 4294967296))) + ((IntKind.u64.wrap ((IntKind.u64.wrap ((a0 / 4294967296) * (Go.bits .and .u64 a1 4294967295))) + ((IntKind.u64.wrap ((Go.bits .and .u64 a0 4294967295) * (Go.bits .and .u64 a1 4294967295))) / 4294967296))) / 4294967296))) + ((IntKind.u64.wrap ((Go.bits .and .u64 (IntKind.u64.wrap ((IntKind.u64.wrap ((a0 / 4294967296) * (Go.bits .and .u64 a1 4294967295))) + ((IntKind.u64.wrap ((Go.bits .and .u64 a0 4294967295) * (Go.bits .and .u64 a1 4294967295))) / 4294967296))) 4294967295) + (IntKind.u64.wrap ((Go.bits .and .u64 a0 4294967295) * (a1 / 4294967296))))) / 4294967296)), IntKind.u64.wrap (a0 * a1))) = some (r1, r2) := h
 clear h
 simp only [Option.some.injEq, Prod.mk.injEq] at H
 obtain ⟨rfl, rfl⟩ := H
 go_enter Try.func118, Try.ntmps118
 go_wp2
 go_ret2
 exact ⟨by first | rfl | (simp; done) | (simp [*]; done), by repeat (first | exact Drawn0.refl _ | apply Drawn0.step)⟩

/-! ### exact_product: function 107 -/
def exact_product.f (a0 : Int) (a1 : Int) : Option (Int × Int) := (bits_Mul64.f (IntKind.u64.wrap (a0)) (IntKind.u64.wrap (a1))).bind fun bt116 => (if a0 < 0 then (if a1 < 0 then (some (IntKind.u64.wrap ((IntKind.u64.wrap (bt116.1 - (IntKind.u64.wrap (a1)))) - (IntKind.u64.wrap (a0))), bt116.2)) else (some (IntKind.u64.wrap (bt116.1 - (IntKind.u64.wrap (a1))), bt116.2))) else (if a1 < 0 then (some (IntKind.u64.wrap (bt116.1 - (IntKind.u64.wrap (a0))), bt116.2)) else (some (bt116.1, bt116.2))))
set_option maxHeartbeats 8000000 in
set_option maxRecDepth 100000 in
theorem exact_product.calls (a0 : Int) (a1 : Int) (r1 : Int) (r2 : Int) (w : World) (h : exact_product.f a0 a1 = some (r1, r2)) :
  Calls Try.prog 107 #[.int .i64 a0, .int .i64 a1] w fun e w' => e = .returned (.tuple #[.int .u64 r1, .int .u64 r2]) ∧ Drawn0 w w' := by
 have H : ((bits_Mul64.f (IntKind.u64.wrap (a0)) (IntKind.u64.wrap (a1))).bind fun bt116 => (if a0 < 0 then (if a1 < 0 then (some (IntKind.u64.wrap ((IntKind.u64.wrap (bt116.1 - (IntKind.u64.wrap (a1)))) - (IntKind.u64.wrap (a0))), bt116.2)) else (some (IntKind.u64.wrap (bt116.1 - (IntKind.u64.wrap (a1))), bt116.2))) else (if a1 < 0 then (some (IntKind.u64.wrap (bt116.1 - (IntKind.u64.wrap (a0))), bt116.2)) else (some (bt116.1, bt116.2))))) = some (r1, r2) := h
 clear h; replace H := Option.bind_eq_some_iff.mp H
 obtain ⟨⟨t116, t117⟩, A30, H⟩ := H
 replace H : (if a0 < 0 then (if a1 < 0 then (some (IntKind.u64.wrap ((IntKind.u64.wrap (t116 - (IntKind.u64.wrap (a1)))) - (IntKind.u64.wrap (a0))), t117)) else (some (IntKind.u64.wrap (t116 - (IntKind.u64.wrap (a1))), t117))) else (if a1 < 0 then (some (IntKind.u64.wrap (t116 - (IntKind.u64.wrap (a0))), t117)) else (some (t116, t117)))) = some (r1, r2) := H
 have A3 := zK A30; clear A30
 by_cases c4 : a0 < 0
 ·rw [if_pos c4] at H
  have c4b0 : decide (a0 < 0) = true := decide_eq_true c4; clear c4
  by_cases c5 : a1 < 0
  ·rw [if_pos c5] at H
   have c5b0 : decide (a1 < 0) = true := decide_eq_true c5; clear c5
   simp only [Option.some.injEq, Prod.mk.injEq] at H
   obtain ⟨rfl, rfl⟩ := H
   go_enter Try.func107, Try.ntmps107
   go_wp2_with (first | ((with_reducible refine zC (f := 118) rfl ?_); refine goesL_ (some 13) rfl rfl Try.func118 (by kernel_rfl) rfl #[.int .u64 (IntKind.u64.wrap (a0)), .int .u64 (IntKind.u64.wrap (a1))] rfl (by (try simp only [List.map_toArray, List.map_cons, List.map_nil]); first | done | rfl | (simp only [List.length_drop, List.length_take]; rfl)) ?_; (with_reducible refine (bits_Mul64.calls (IntKind.u64.wrap (a0)) (IntKind.u64.wrap (a1)) t116 t117 _ A3.out).mono ?_); rintro e w' ⟨rfl, ⟨nd, rfl⟩⟩; refine ⟨_, rfl, ?_⟩))
   go_ret2
   exact ⟨by first | rfl | (simp; done) | (simp [*]; done), by repeat (first | exact Drawn0.refl _ | apply Drawn0.step)⟩
  ·rw [if_neg c5] at H
   have c5b0 : decide (a1 < 0) = false := decide_eq_false c5; clear c5
   simp only [Option.some.injEq, Prod.mk.injEq] at H
   obtain ⟨rfl, rfl⟩ := H
   go_enter Try.func107, Try.ntmps107
   go_wp2_with (first | ((with_reducible refine zC (f := 118) rfl ?_); refine goesL_ (some 13) rfl rfl Try.func118 (by kernel_rfl) rfl #[.int .u64 (IntKind.u64.wrap (a0)), .int .u64 (IntKind.u64.wrap (a1))] rfl (by (try simp only [List.map_toArray, List.map_cons, List.map_nil]); first | done | rfl | (simp only [List.length_drop, List.length_take]; rfl)) ?_; (with_reducible refine (bits_Mul64.calls (IntKind.u64.wrap (a0)) (IntKind.u64.wrap (a1)) t116 t117 _ A3.out).mono ?_); rintro e w' ⟨rfl, ⟨nd, rfl⟩⟩; refine ⟨_, rfl, ?_⟩))
   go_ret2
   exact ⟨by first | rfl | (simp; done) | (simp [*]; done), by repeat (first | exact Drawn0.refl _ | apply Drawn0.step)⟩
 ·rw [if_neg c4] at H
  have c4b0 : decide (a0 < 0) = false := decide_eq_false c4; clear c4
  by_cases c6 : a1 < 0
  ·rw [if_pos c6] at H
   have c6b0 : decide (a1 < 0) = true := decide_eq_true c6; clear c6
   simp only [Option.some.injEq, Prod.mk.injEq] at H
   obtain ⟨rfl, rfl⟩ := H
   go_enter Try.func107, Try.ntmps107
   go_wp2_with (first | ((with_reducible refine zC (f := 118) rfl ?_); refine goesL_ (some 13) rfl rfl Try.func118 (by kernel_rfl) rfl #[.int .u64 (IntKind.u64.wrap (a0)), .int .u64 (IntKind.u64.wrap (a1))] rfl (by (try simp only [List.map_toArray, List.map_cons, List.map_nil]); first | done | rfl | (simp only [List.length_drop, List.length_take]; rfl)) ?_; (with_reducible refine (bits_Mul64.calls (IntKind.u64.wrap (a0)) (IntKind.u64.wrap (a1)) t116 t117 _ A3.out).mono ?_); rintro e w' ⟨rfl, ⟨nd, rfl⟩⟩; refine ⟨_, rfl, ?_⟩))
   go_ret2
   exact ⟨by first | rfl | (simp; done) | (simp [*]; done), by repeat (first | exact Drawn0.refl _ | apply Drawn0.step)⟩
  ·rw [if_neg c6] at H
   have c6b0 : decide (a1 < 0) = false := decide_eq_false c6; clear c6
   simp only [Option.some.injEq, Prod.mk.injEq] at H
   obtain ⟨rfl, rfl⟩ := H
   go_enter Try.func107, Try.ntmps107
   go_wp2_with (first | ((with_reducible refine zC (f := 118) rfl ?_); refine goesL_ (some 13) rfl rfl Try.func118 (by kernel_rfl) rfl #[.int .u64 (IntKind.u64.wrap (a0)), .int .u64 (IntKind.u64.wrap (a1))] rfl (by (try simp only [List.map_toArray, List.map_cons, List.map_nil]); first | done | rfl | (simp only [List.length_drop, List.length_take]; rfl)) ?_; (with_reducible refine (bits_Mul64.calls (IntKind.u64.wrap (a0)) (IntKind.u64.wrap (a1)) t116 t117 _ A3.out).mono ?_); rintro e w' ⟨rfl, ⟨nd, rfl⟩⟩; refine ⟨_, rfl, ?_⟩))
   go_ret2
   exact ⟨by first | rfl | (simp; done) | (simp [*]; done), by repeat (first | exact Drawn0.refl _ | apply Drawn0.step)⟩

-- NOT PRINTED: function 108 (bits_Add64)

/-! ### exact_sign: function 109 -/
def exact_sign.f (a0 : Int) : Option (Int) := some (IntKind.u64.wrap ((wrap64 (a0)) / 9223372036854775808))
set_option maxHeartbeats 8000000 in
set_option maxRecDepth 100000 in
theorem exact_sign.calls (a0 : Int) (r : Int) (w : World) (h : exact_sign.f a0 = some r) :
  Calls Try.prog 109 #[.int .u64 a0] w fun e w' => e = .returned (.int .u64 r) ∧ Drawn0 w w' := by
 have H : (some (IntKind.u64.wrap ((wrap64 (a0)) / 9223372036854775808))) = some r := h
 clear h
 obtain rfl := Option.some.inj H
 go_enter Try.func109, Try.ntmps109
 go_wp2
 go_ret
 exact ⟨by first | rfl | (simp; done) | (simp [*]; done), by repeat (first | exact Drawn0.refl _ | apply Drawn0.step)⟩

/-! ### math/bits.Add64, without a body -/
theorem run_Add64 (x y c : Int) (hx : 0 ≤ x) (hy : 0 ≤ y) (hc0 : 0 ≤ c) (hc : c ≤ 1) (w : World) :
  (callFunc 108 #[.int .u64 x, .int .u64 y, .int .u64 c]).run Try.prog w = .ok (.value (.tuple #[.int .u64 ((x + y + c) % 18446744073709551616), .int .u64 ((x + y + c) / 18446744073709551616)])) w := by
 rw [run_callFunc_extern (P := Try.prog) (f := 108) (fn := Try.f108) (e := add64Entry) Try.func108 (by kernel_rfl) (by kernel_rfl) (by kernel_rfl) (by kernel_rfl), run_add64 x y c hx hy hc0 hc w]
 rfl

/-- One block has changed, and no other; none is new. -/
structure SameBut (w w' : World) (g : Nat) : Prop where
 os : w'.os = w.os
 tape : w'.tape = w.tape
 output : w'.output = w.output
 size : w'.heap.size = w.heap.size
 block : ∀ i, i ≠ g → w'.heap[i]? = w.heap[i]?
theorem SameBut.refl (w : World) (g : Nat) : SameBut w w g := ⟨rfl, rfl, rfl, rfl, fun _ _ => rfl⟩
theorem SameBut.drewN {w w' : World} {g : Nat} (h : SameBut w w' g) (n : Nat) : SameBut w (w'.drewN n) g := ⟨h.os, h.tape, h.output, h.size, h.block⟩
theorem SameBut.drew {w w' : World} {g : Nat} (h : SameBut w w' g) : SameBut w w'.drew g := ⟨h.os, h.tape, h.output, h.size, h.block⟩
theorem SameBut.set {w w' : World} {g : Nat} (h : SameBut w w' g) (j : Nat) (u : Value) : SameBut w (w'.setCell ⟨g, j, none⟩ u) g :=
 ⟨h.os, h.tape, h.output, by rw [← h.size]; simp [World.setCell], fun i hi => (Below.heap_setCell w' ⟨g, j, none⟩ u i hi).trans (h.block i hi)⟩
theorem SameBut.below {w w' : World} {g B : Nat} (h : SameBut w w' g) (hg : B ≤ g) : Below B w w' :=
 ⟨h.os, h.tape, h.output, Nat.le_of_eq h.size.symm, fun k hk => h.block k (by omega)⟩

/-- The three words of a number of 192 bits. -/
def limb0 (s : Int) : Int := s % 18446744073709551616
def limb1 (s : Int) : Int := s / 18446744073709551616 % 18446744073709551616
def limb2 (s : Int) : Int := s / 18446744073709551616 / 18446744073709551616 % 18446744073709551616
/-- A number of 192 bits, if it fits into 64. -/
def fit64 (n : Int) : Int × Bool := if -9223372036854775808 ≤ n ∧ n ≤ 9223372036854775807 then (n, true) else (0, false)
def wrap192 (s : Int) : Int := (s + 3138550867693340381917894711603833208051177722232017256448) % 6277101735386680763835789423207666416102355444464034512896 - 3138550867693340381917894711603833208051177722232017256448
def fit192 (s : Int) : Int × Bool := fit64 (wrap192 s)

theorem ex_u64w (n : Int) : IntKind.u64.wrap n = n % 18446744073709551616 := by
 simp [IntKind.wrap, IntKind.bits, IntKind.signed]
theorem ex_and_low (x : Nat) (h : x < 18446744073709551616) : Go.bits .and .u64 (x:Int) 4294967295 = ((x % 4294967296 : Nat) : Int) := by
 refine Eq.trans (u64_and_nat x 4294967295 h (by decide)) ?_
 congr 1
 exact Nat.and_two_pow_sub_one_eq_mod x 32
theorem ex_mul64 (a b : Nat) (ha : a < 18446744073709551616) (hb : b < 18446744073709551616) :
  ((a / 4294967296) * (b / 4294967296) +
   ((a / 4294967296) * (b % 4294967296) + ((a % 4294967296) * (b % 4294967296)) / 4294967296) / 4294967296 +
   ((((a / 4294967296) * (b % 4294967296) + ((a % 4294967296) * (b % 4294967296)) / 4294967296) % 4294967296) + (a % 4294967296) * (b / 4294967296)) / 4294967296) = a * b / 18446744073709551616 := by
 have hab : a * b = (a / 4294967296) * (b / 4294967296) * 18446744073709551616 + ((a / 4294967296) * (b % 4294967296) + (a % 4294967296) * (b / 4294967296)) * 4294967296 + (a % 4294967296) * (b % 4294967296) := by
  have e1 : a = (a / 4294967296) * 4294967296 + a % 4294967296 := by omega
  have e2 : b = (b / 4294967296) * 4294967296 + b % 4294967296 := by omega
  generalize a / 4294967296 = x at *
  generalize a % 4294967296 = y at *
  generalize b / 4294967296 = u at *
  generalize b % 4294967296 = v at *
  subst e1 e2
  simp only [Nat.add_mul, Nat.mul_add]
  have : x * 4294967296 * (u * 4294967296) = x * u * 18446744073709551616 := by rw [Nat.mul_mul_mul_comm]
  have h2 : x * 4294967296 * v = x * v * 4294967296 := by rw [Nat.mul_right_comm]
  have h3 : y * (u * 4294967296) = y * u * 4294967296 := by rw [Nat.mul_assoc]
  omega
 rw [hab]
 generalize (a / 4294967296) * (b / 4294967296) = p
 generalize (a / 4294967296) * (b % 4294967296) = q
 generalize (a % 4294967296) * (b / 4294967296) = r
 generalize (a % 4294967296) * (b % 4294967296) = s
 omega
theorem ex_Mul64 (a b : Nat) (ha : a < 18446744073709551616) (hb : b < 18446744073709551616) :
  bits_Mul64.f a b = some (((a * b / 18446744073709551616 : Nat) : Int), ((a * b % 18446744073709551616 : Nat) : Int)) := by
 have h := ex_mul64 a b ha hb
 have hA : a / 4294967296 < 4294967296 := by omega
 have hB : b / 4294967296 < 4294967296 := by omega
 have hA' : a % 4294967296 < 4294967296 := by omega
 have hB' : b % 4294967296 < 4294967296 := by omega
 have m : ∀ x y : Nat, x < 4294967296 → y < 4294967296 → x * y ≤ 18446744065119617025 := fun x y h1 h2 => Nat.le_trans (Nat.mul_le_mul (Nat.le_of_lt_succ h1) (Nat.le_of_lt_succ h2)) (by decide)
 have h1 := m _ _ hA hB
 have h2 := m _ _ hA hB'
 have h3 := m _ _ hA' hB
 have h4 := m _ _ hA' hB'
 unfold bits_Mul64.f
 simp only [ex_and_low a ha, ex_and_low b hb, ex_u64w]
 rw [show (a:Int) / 4294967296 = ((a / 4294967296 : Nat) : Int) by omega, show (b:Int) / 4294967296 = ((b / 4294967296 : Nat) : Int) by omega]
 generalize a / 4294967296 = x at *
 generalize a % 4294967296 = y at *
 generalize b / 4294967296 = u at *
 generalize b % 4294967296 = v at *
 simp only [← Int.natCast_mul]
 generalize x * u = p at *
 generalize x * v = q at *
 generalize y * u = r at *
 generalize y * v = s at *
 have e1 : ((q:Int) % 18446744073709551616 + (s:Int) % 18446744073709551616 / 4294967296) % 18446744073709551616 = ((q + s / 4294967296 : Nat) : Int) := by omega
 rw [e1, ex_and_low _ (by omega)]
 congr 2
 omega

theorem ex_bound {a b : Int} (h1 : -9223372036854775808 ≤ a) (h2 : a ≤ 9223372036854775807) (h3 : -9223372036854775808 ≤ b) (h4 : b ≤ 9223372036854775807) : -85070591730234615865843651857942052864 ≤ a * b ∧ a * b ≤ 85070591730234615865843651857942052864 := by
 have h : a.natAbs * b.natAbs ≤ 85070591730234615865843651857942052864 :=
  Nat.le_trans (Nat.mul_le_mul (show a.natAbs ≤ 9223372036854775808 by omega) (show b.natAbs ≤ 9223372036854775808 by omega)) (by decide)
 rw [← Int.natAbs_mul] at h
 omega
theorem ex_product {a b : Int} (h1 : -9223372036854775808 ≤ a) (h2 : a ≤ 9223372036854775807) (h3 : -9223372036854775808 ≤ b) (h4 : b ≤ 9223372036854775807) :
  exact_product.f a b = some (limb1 (a * b), limb0 (a * b)) := by
 have hm := ex_bound h1 h2 h3 h4
 obtain ⟨A, hA⟩ := Int.eq_ofNat_of_zero_le (show 0 ≤ a % 18446744073709551616 by omega)
 obtain ⟨B, hB⟩ := Int.eq_ofNat_of_zero_le (show 0 ≤ b % 18446744073709551616 by omega)
 have hp : ((A * B : Nat) : Int) = a * b + 18446744073709551616 * ((if a < 0 then b else 0) + (if b < 0 then a else 0) + (if a < 0 ∧ b < 0 then 18446744073709551616 else 0)) := by
  have hA' : (A : Int) = a + (if a < 0 then 18446744073709551616 else 0) := by split <;> omega
  have hB' : (B : Int) = b + (if b < 0 then 18446744073709551616 else 0) := by split <;> omega
  rw [Int.natCast_mul, hA', hB']
  by_cases ha : a < 0 <;> by_cases hb : b < 0 <;> simp only [ha, hb, if_true, if_false, and_self, and_true, and_false, false_and, true_and] <;> simp only [Int.add_mul, Int.mul_add] <;> omega
 unfold exact_product.f
 simp only [ex_u64w]
 rw [hA, hB, ex_Mul64 A B (by omega) (by omega)]
 simp only [Option.bind_some]
 unfold limb0 limb1
 rw [Int.natCast_ediv, Int.natCast_emod, hp]
 generalize a * b = p at *
 repeat' split
 all_goals (congr 2 <;> omega)
theorem ex_sign {n : Int} (h1 : 0 ≤ n) (h2 : n < 18446744073709551616) : exact_sign.f n = some (if n < 9223372036854775808 then 0 else 18446744073709551615) := by
 unfold exact_sign.f
 simp only [ex_u64w]
 unfold wrap64
 congr 1
 split <;> omega
theorem ex_sum (s p : Int) (hp : -85070591730234615865843651857942052864 ≤ p ∧ p ≤ 85070591730234615865843651857942052864) :
  (limb0 s + limb0 p + 0) % 18446744073709551616 = limb0 (s + p) ∧
  (limb1 s + limb1 p + (limb0 s + limb0 p + 0) / 18446744073709551616) % 18446744073709551616 = limb1 (s + p) ∧
  (limb2 s + (if limb1 p < 9223372036854775808 then 0 else 18446744073709551615) + (limb1 s + limb1 p + (limb0 s + limb0 p + 0) / 18446744073709551616) / 18446744073709551616) % 18446744073709551616 = limb2 (s + p) := by
 unfold limb0 limb1 limb2
 refine ⟨?_, ?_, ?_⟩
 ·omega
 ·omega
 ·split <;> omega

theorem ex_fits (s : Int) : (if limb1 s = (if limb0 s < 9223372036854775808 then 0 else 18446744073709551615) ∧ limb2 s = (if limb0 s < 9223372036854775808 then 0 else 18446744073709551615) then (wrap64 (limb0 s), true) else (0, false)) = fit192 s := by
 unfold fit192 fit64 wrap192 limb0 limb1 limb2 wrap64
 repeat' split
 all_goals first | rfl | (exfalso; omega) | (congr 1; omega)
/-- A block's cells with a number of 192 bits put at a place. -/
def put3 (cs : Array Value) (off : Nat) (s : Int) : Array Value := ((cs.setIfInBounds off (.int .u64 (limb0 s))).setIfInBounds (off + 1) (.int .u64 (limb1 s))).setIfInBounds (off + 2) (.int .u64 (limb2 s))
/-- A number of 192 bits stands at a place. -/
def At3 (cs : Array Value) (off : Nat) (s : Int) : Prop := cs[off]? = some (.int .u64 (limb0 s)) ∧ cs[off + 1]? = some (.int .u64 (limb1 s)) ∧ cs[off + 2]? = some (.int .u64 (limb2 s))

set_option maxHeartbeats 8000000 in
set_option maxRecDepth 100000 in
theorem Add_walk (g off : Nat) (s0 s1 s2 a b hi lo sg r0 c0 r1 c1 r2 c2 : Int) (W : World) (t : TypeId) (cs : Array Value) (hp : exact_product.f a b = some (hi, lo)) (hsg : exact_sign.f hi = some sg)
  (hA0 : ∀ w, (callFunc 108 #[.int .u64 s0, .int .u64 lo, .int .u64 0]).run Try.prog w = .ok (.value (.tuple #[.int .u64 r0, .int .u64 c0])) w)
  (hA1 : ∀ w, (callFunc 108 #[.int .u64 s1, .int .u64 hi, .int .u64 c0]).run Try.prog w = .ok (.value (.tuple #[.int .u64 r1, .int .u64 c1])) w)
  (hA2 : ∀ w, (callFunc 108 #[.int .u64 s2, .int .u64 sg, .int .u64 c1]).run Try.prog w = .ok (.value (.tuple #[.int .u64 r2, .int .u64 c2])) w)
  (hblk : Aside0 (W.heap[g]? = some (.cells cs t (0, 0))))
  (h0 : W.cell? ⟨g, off, none⟩ = some (.int .u64 s0)) (h1 : W.cell? ⟨g, off + 1, none⟩ = some (.int .u64 s1)) (h2 : W.cell? ⟨g, off + 2, none⟩ = some (.int .u64 s2))
  (f0 : W.frozen? ⟨g, off, none⟩ = false) (f1 : W.frozen? ⟨g, off + 1, none⟩ = false) (f2 : W.frozen? ⟨g, off + 2, none⟩ = false) :
  Calls Try.prog 88 #[.pointer (some ⟨g, off, none⟩), .int .i64 a, .int .i64 b] W fun e W' => e = .returned (.tuple #[]) ∧
   W'.heap[g]? = some (.cells (((cs.setIfInBounds off (.int .u64 r0)).setIfInBounds (off + 1) (.int .u64 r1)).setIfInBounds (off + 2) (.int .u64 r2)) t (0, 0)) ∧ SameBut W W' g := by
 go_enter Try.func88, Try.ntmps88
 go_wp2_with (first | (go_at_call 107; (with_reducible refine (exact_product.calls a b hi lo _ hp).mono ?_); rintro e w' ⟨rfl, ⟨nd, rfl⟩⟩))
 go_region_with (go_at_call 109; (with_reducible refine (exact_sign.calls hi sg _ hsg).mono ?_); rintro e w' ⟨rfl, ⟨nd2, rfl⟩⟩)
 all_goals
  go_end0
  refine ⟨rfl, ?_, ?_⟩
  ·have hb := blk_set (blk_set (blk_set hblk.out off (.int .u64 r0)) (off + 1) (.int .u64 r1)) (off + 2) (.int .u64 r2)
   exact hb
  ·repeat (first | exact SameBut.refl _ _ | apply SameBut.drewN | apply SameBut.drew | apply SameBut.set)

theorem exact_Add (g off : Nat) (s a b : Int) (W : World) (t : TypeId) (cs : Array Value) (ha1 : -9223372036854775808 ≤ a) (ha2 : a ≤ 9223372036854775807) (hb1 : -9223372036854775808 ≤ b) (hb2 : b ≤ 9223372036854775807)
  (hblk : W.heap[g]? = some (.cells cs t (0, 0))) (h3 : At3 cs off s) :
  Calls Try.prog 88 #[.pointer (some ⟨g, off, none⟩), .int .i64 a, .int .i64 b] W fun e W' => e = .returned (.tuple #[]) ∧
   W'.heap[g]? = some (.cells (put3 cs off (s + a * b)) t (0, 0)) ∧ SameBut W W' g := by
 have hp := ex_product ha1 ha2 hb1 hb2
 have hbd := ex_bound ha1 ha2 hb1 hb2
 have l0 : ∀ x : Int, 0 ≤ limb0 x ∧ limb0 x < 18446744073709551616 := fun x => by unfold limb0; omega
 have l1 : ∀ x : Int, 0 ≤ limb1 x ∧ limb1 x < 18446744073709551616 := fun x => by unfold limb1; omega
 have l2 : ∀ x : Int, 0 ≤ limb2 x ∧ limb2 x < 18446744073709551616 := fun x => by unfold limb2; omega
 have hsg := ex_sign (l1 (a * b)).1 (l1 (a * b)).2
 obtain ⟨e0, e1, e2⟩ := ex_sum s (a * b) hbd
 have a0 := l0 s
 have a1 := l0 (a * b)
 have a2 := l1 s
 have a3 := l1 (a * b)
 have a4 := l2 s
 unfold put3
 rw [← e0, ← e1, ← e2]
 exact Add_walk g off (limb0 s) (limb1 s) (limb2 s) a b _ _ _ _ _ _ _ _ _ W t cs hp hsg
  (run_Add64 _ _ _ a0.1 a1.1 (by omega) (by omega))
  (run_Add64 _ _ _ a2.1 a3.1 (by omega) (by omega))
  (run_Add64 _ _ _ a4.1 (by split <;> omega) (by omega) (by omega))
  ⟨hblk⟩ ((blk_cell hblk off).trans h3.1) ((blk_cell hblk (off + 1)).trans h3.2.1) ((blk_cell hblk (off + 2)).trans h3.2.2)
  (blk_frozen hblk _) (blk_frozen hblk _) (blk_frozen hblk _)

set_option maxHeartbeats 8000000 in
set_option maxRecDepth 100000 in
theorem Fits_walk (g off : Nat) (s0 s1 s2 sg : Int) (W : World) (hsg : exact_sign.f s0 = some sg)
  (h0 : W.cell? ⟨g, off, none⟩ = some (.int .u64 s0)) (h1 : W.cell? ⟨g, off + 1, none⟩ = some (.int .u64 s1)) (h2 : W.cell? ⟨g, off + 2, none⟩ = some (.int .u64 s2)) :
  Calls Try.prog 89 #[.pointer (some ⟨g, off, none⟩)] W fun e W' => e = .returned (if s1 = sg ∧ s2 = sg then .tuple #[.int .i64 (wrap64 s0), .bool true] else .tuple #[.int .i64 0, .bool false]) ∧ Drawn0 W W' := by
 by_cases e1 : s1 = sg
 ·have e1a : (s1 == sg) = true := beq_iff_eq.2 e1
  have e1b : (s1 != sg) = false := bne_eq_false_iff_eq.2 e1
  by_cases e2 : s2 = sg
  ·have e2a : (s2 == sg) = true := beq_iff_eq.2 e2
   have e2b : (s2 != sg) = false := bne_eq_false_iff_eq.2 e2
   rw [if_pos ⟨e1, e2⟩]; clear e1 e2
   go_enter Try.func89, Try.ntmps89
   go_wp2_with (first | (go_at_call 109; (with_reducible refine (exact_sign.calls s0 sg _ hsg).mono ?_); rintro e w' ⟨rfl, ⟨nd, rfl⟩⟩))
   go_ret2
   exact ⟨rfl, by repeat (first | exact Drawn0.refl _ | apply Drawn0.step)⟩
  ·have e2a : (s2 == sg) = false := beq_eq_false_iff_ne.2 e2
   have e2b : (s2 != sg) = true := bne_iff_ne.2 e2
   rw [if_neg (fun h => e2 h.2)]; clear e1 e2
   go_enter Try.func89, Try.ntmps89
   go_wp2_with (first | (go_at_call 109; (with_reducible refine (exact_sign.calls s0 sg _ hsg).mono ?_); rintro e w' ⟨rfl, ⟨nd, rfl⟩⟩))
   go_ret2
   exact ⟨rfl, by repeat (first | exact Drawn0.refl _ | apply Drawn0.step)⟩
 ·have e1a : (s1 == sg) = false := beq_eq_false_iff_ne.2 e1
  have e1b : (s1 != sg) = true := bne_iff_ne.2 e1
  rw [if_neg (fun h => e1 h.1)]; clear e1
  go_enter Try.func89, Try.ntmps89
  go_wp2_with (first | (go_at_call 109; (with_reducible refine (exact_sign.calls s0 sg _ hsg).mono ?_); rintro e w' ⟨rfl, ⟨nd, rfl⟩⟩))
  go_ret2
  exact ⟨rfl, by repeat (first | exact Drawn0.refl _ | apply Drawn0.step)⟩

theorem exact_Fits (g off : Nat) (s : Int) (W : World) (t : TypeId) (cs : Array Value) (hblk : W.heap[g]? = some (.cells cs t (0, 0))) (h3 : At3 cs off s) :
  Calls Try.prog 89 #[.pointer (some ⟨g, off, none⟩)] W fun e W' => e = .returned (.tuple #[.int .i64 (fit192 s).1, .bool (fit192 s).2]) ∧ Drawn0 W W' := by
 have hsg := ex_sign (n := limb0 s) (by unfold limb0; omega) (by unfold limb0; omega)
 refine (Fits_walk g off (limb0 s) (limb1 s) (limb2 s) _ W hsg ((blk_cell hblk off).trans h3.1) ((blk_cell hblk (off + 1)).trans h3.2.1) ((blk_cell hblk (off + 2)).trans h3.2.2)).mono ?_
 rintro e W' ⟨he, hw⟩
 refine ⟨?_, hw⟩
 rw [he, ← ex_fits s]
 generalize (if limb0 s < 9223372036854775808 then (0 : Int) else 18446744073709551615) = z
 by_cases hz : limb1 s = z ∧ limb2 s = z
 ·rw [if_pos hz, if_pos hz]
 ·rw [if_neg hz, if_neg hz]

/-- A state of type 128 at block g of W; what its slices lead to came in by w0. -/
def IsS128 (w0 W : World) (g : Nat) (f0 : Int) (f1 : Int) (f2 : Int) : Prop := W.heap[g]? = some (.cells #[.int .u64 f0, .int .u64 f1, .int .u64 f2] 128 (0, 0)) ∧ w0.heap.size ≤ g
theorem IsS128.grown {w0 W : World} {g : Nat} {f0 : Int} {f1 : Int} {f2 : Int} {W1 : World} {row : Option Nat} (h : IsS128 w0 W g f0 f1 f2) (hw : W.grownBy W1 row) (hne : some g ≠ row) : IsS128 w0 W1 g f0 f1 f2 := by
 obtain ⟨hb, hg⟩ := h
 exact ⟨blk_grown hb hw hne, hg⟩
theorem IsS128.own_neN {w0 W : World} {g : Nat} {f0 : Int} {f1 : Int} {f2 : Int} {α : Type} {d : Kd α} {e : Nat} {base : Nat} {ok : Nat → Prop} {v : Value} {xs : List α} (h : IsS128 w0 W g f0 f1 f2) (ho : Kd.N d e W base ok v xs) (ht : e ≠ 128) : some g ≠ v.ownBlock := by
 obtain ⟨hb, hg⟩ := h
 exact Kd.N_ne ho hb ht
theorem IsS128.fresh {w0 W : World} {g : Nat} {f0 : Int} {f1 : Int} {f2 : Int} (h : IsS128 w0 W g f0 f1 f2) : ∀ k, W.heap.size ≤ k → k ≠ g := by
 obtain ⟨hb, hg⟩ := h
 exact Kd.freshB hb
theorem IsS128.kept {w0 W : World} {g : Nat} {f0 : Int} {f1 : Int} {f2 : Int} {W1 : World} {S : Nat → Prop} (h : IsS128 w0 W g f0 f1 f2) (hk : Kept W W1 S) (hne : ¬ S g) : IsS128 w0 W1 g f0 f1 f2 := by
 obtain ⟨hb, hg⟩ := h
 exact ⟨blk_kept hb hk hne, hg⟩
theorem IsS128.below {w0 W : World} {g : Nat} {f0 : Int} {f1 : Int} {f2 : Int} {W1 : World} (h : IsS128 w0 W g f0 f1 f2) (hw : Below W.heap.size W W1) : IsS128 w0 W1 g f0 f1 f2 := h.grown (grown_of_below hw none) (by simp)
theorem IsS128.alloc {w0 W : World} {g : Nat} {f0 : Int} {f1 : Int} {f2 : Int} (h : IsS128 w0 W g f0 f1 f2) (o : Obj) : IsS128 w0 (W.alloc o) g f0 f1 f2 := h.below (yA (Below.refl _ _) o)
theorem IsS128.drewN {w0 W : World} {g : Nat} {f0 : Int} {f1 : Int} {f2 : Int} (h : IsS128 w0 W g f0 f1 f2) (m : Nat) : IsS128 w0 (W.drewN m) g f0 f1 f2 := h
theorem IsS128.drew {w0 W : World} {g : Nat} {f0 : Int} {f1 : Int} {f2 : Int} (h : IsS128 w0 W g f0 f1 f2) : IsS128 w0 W.drew g f0 f1 f2 := h
theorem IsS128.at_ {w0 W : World} {g : Nat} {f0 : Int} {f1 : Int} {f2 : Int} {w' : World} {m : Nat} (hq : W.drewN m = w') (h : IsS128 w0 W g f0 f1 f2) : IsS128 w0 w' g f0 f1 f2 := by subst hq; exact IsS128.drewN h m
theorem IsS128.apart {w0 W : World} {g : Nat} {f0 : Int} {f1 : Int} {f2 : Int} {α : Type} {d : Kd α} {e : Nat} {base : Nat} {ok : Nat → Prop} {v : Value} {xs : List α} (h : IsS128 w0 W g f0 f1 f2) (ho : d.R e W base ok v xs) (ht : ∀ q, q ∈ e :: d.E → q ≠ 128) : d.R e W base (fun k => ok k ∧ k ≠ g) v xs := by
 obtain ⟨hb, hg⟩ := h
 exact Kd.R_types ho hb ht
theorem IsS128.own_ne {w0 W : World} {g : Nat} {f0 : Int} {f1 : Int} {f2 : Int} {α : Type} {d : Kd α} {e : Nat} {base : Nat} {ok : Nat → Prop} {v : Value} {xs : List α} (h : IsS128 w0 W g f0 f1 f2) (ho : d.R e W base ok v xs) (ht : e ≠ 128) : some g ≠ v.ownBlock := by
 obtain ⟨hb, hg⟩ := h
 exact Kd.R_ne ho hb ht
theorem IsS128.apartQ {w0 W : World} {g : Nat} {f0 : Int} {f1 : Int} {f2 : Int} {α : Type} {d : Kd α} {e : Nat} {base : Nat} {ok : Nat → Prop} {v : Value} {xs : List α} (h : IsS128 w0 W g f0 f1 f2) (ho : d.Q e W base ok v xs) (ht : ∀ q, q ∈ e :: d.E → q ≠ 128) : d.Q e W base (fun k => ok k ∧ k ≠ g) v xs := by
 obtain ⟨hb, hg⟩ := h
 exact Kd.Q_types ho hb ht
theorem IsS128.own_neQ {w0 W : World} {g : Nat} {f0 : Int} {f1 : Int} {f2 : Int} {α : Type} {d : Kd α} {e : Nat} {base : Nat} {ok : Nat → Prop} {v : Value} {xs : List α} (h : IsS128 w0 W g f0 f1 f2) (ho : d.Q e W base ok v xs) (ht : e ≠ 128) : some g ≠ v.ownBlock := by
 obtain ⟨hb, hg⟩ := h
 exact Kd.Q_ne ho hb ht
theorem IsS128.apartS {w0 W : World} {g : Nat} {f0 : Int} {f1 : Int} {f2 : Int} {α : Type} {d : Kd α} {e : Nat} {base : Nat} {ok : Nat → Prop} {v : Value} {xs : List α} (h : IsS128 w0 W g f0 f1 f2) (ho : d.S e W base ok v xs) (ht : ∀ q, q ∈ e :: d.E → q ≠ 128) : d.S e W base (fun k => ok k ∧ k ≠ g) v xs := by
 obtain ⟨hb, hg⟩ := h
 exact Kd.S_types ho hb ht
theorem IsS128.own_neS {w0 W : World} {g : Nat} {f0 : Int} {f1 : Int} {f2 : Int} {α : Type} {d : Kd α} {e : Nat} {base : Nat} {ok : Nat → Prop} {v : Value} {xs : List α} (h : IsS128 w0 W g f0 f1 f2) (ho : d.S e W base ok v xs) (ht : e ≠ 128) : some g ≠ v.ownBlock := by
 obtain ⟨hb, hg⟩ := h
 exact Kd.S_ne ho hb ht
theorem IsS128.lt {w0 W : World} {g : Nat} {f0 : Int} {f1 : Int} {f2 : Int} (h : IsS128 w0 W g f0 f1 f2) : g < W.heap.size := by
 obtain ⟨hb, hg⟩ := h
 exact blk_lt hb
theorem IsS128.ge {w0 W : World} {g : Nat} {f0 : Int} {f1 : Int} {f2 : Int} (h : IsS128 w0 W g f0 f1 f2) : w0.heap.size ≤ g := by
 obtain ⟨hb, hg⟩ := h
 exact hg
theorem IsS128.ne_blk {w0 W : World} {g : Nat} {f0 : Int} {f1 : Int} {f2 : Int} {a : Nat} {cs : Array Value} {t : TypeId} {fr : Nat × Nat} (h : IsS128 w0 W g f0 f1 f2) (hb2 : W.heap[a]? = some (.cells cs t fr)) (ht : t ≠ 128) : g ≠ a := by
 obtain ⟨hb, hg⟩ := h
 rintro rfl
 rw [hb] at hb2
 injection hb2 with hb2
 injection hb2 with _ ht2
 exact ht ht2.symm
theorem IsS128.far {w0 W : World} {g : Nat} {f0 : Int} {f1 : Int} {f2 : Int} {p : Addr} (h : IsS128 w0 W g f0 f1 f2) (hne : g ≠ p.block) (u : Value) : IsS128 w0 (W.setCell p u) g f0 f1 f2 := by
 obtain ⟨hb, hg⟩ := h
 exact ⟨blk_far hb hne u, hg⟩
theorem cellS128_0 {W : World} {g : Nat} {f0 : Int} {f1 : Int} {f2 : Int} (h : W.heap[g]? = some (.cells #[.int .u64 f0, .int .u64 f1, .int .u64 f2] 128 (0, 0))) : W.cell? ⟨g, 0, none⟩ = some (.int .u64 f0) := (blk_cell h 0).trans rfl
theorem IsS128.set_0 {w0 W : World} {g : Nat} {f0 : Int} {f1 : Int} {f2 : Int} (h : IsS128 w0 W g f0 f1 f2) (x : Int) : IsS128 w0 (W.setCell ⟨g, 0, none⟩ (.int .u64 x)) g x f1 f2 := by
 obtain ⟨hb, hg⟩ := h
 exact ⟨by simpa using blk_set hb 0 (.int .u64 x), hg⟩
theorem cellS128_1 {W : World} {g : Nat} {f0 : Int} {f1 : Int} {f2 : Int} (h : W.heap[g]? = some (.cells #[.int .u64 f0, .int .u64 f1, .int .u64 f2] 128 (0, 0))) : W.cell? ⟨g, 1, none⟩ = some (.int .u64 f1) := (blk_cell h 1).trans rfl
theorem IsS128.set_1 {w0 W : World} {g : Nat} {f0 : Int} {f1 : Int} {f2 : Int} (h : IsS128 w0 W g f0 f1 f2) (x : Int) : IsS128 w0 (W.setCell ⟨g, 1, none⟩ (.int .u64 x)) g f0 x f2 := by
 obtain ⟨hb, hg⟩ := h
 exact ⟨by simpa using blk_set hb 1 (.int .u64 x), hg⟩
theorem cellS128_2 {W : World} {g : Nat} {f0 : Int} {f1 : Int} {f2 : Int} (h : W.heap[g]? = some (.cells #[.int .u64 f0, .int .u64 f1, .int .u64 f2] 128 (0, 0))) : W.cell? ⟨g, 2, none⟩ = some (.int .u64 f2) := (blk_cell h 2).trans rfl
theorem IsS128.set_2 {w0 W : World} {g : Nat} {f0 : Int} {f1 : Int} {f2 : Int} (h : IsS128 w0 W g f0 f1 f2) (x : Int) : IsS128 w0 (W.setCell ⟨g, 2, none⟩ (.int .u64 x)) g f0 f1 x := by
 obtain ⟨hb, hg⟩ := h
 exact ⟨by simpa using blk_set hb 2 (.int .u64 x), hg⟩
theorem IsS128.new (w0 W : World) (f0 : Int) (f1 : Int) (f2 : Int) (hB : Below w0.heap.size w0 W) : IsS128 w0 (W.alloc (.cells #[.int .u64 f0, .int .u64 f1, .int .u64 f2] 128)) W.heap.size f0 f1 f2 := ⟨by simpa using heap_alloc_new W _, hB.size⟩

/-! ### exact_Sum_Add: function 88, by hand -/
def exact_Sum_Add.f (s0_0 : Int) (s0_1 : Int) (s0_2 : Int) (a1 : Int) (a2 : Int) : Option (Int × Int × Int) :=
 if -9223372036854775808 ≤ a1 ∧ a1 ≤ 9223372036854775807 ∧ -9223372036854775808 ≤ a2 ∧ a2 ≤ 9223372036854775807 ∧ 0 ≤ s0_0 ∧ s0_0 < 18446744073709551616 ∧ 0 ≤ s0_1 ∧ s0_1 < 18446744073709551616 ∧ 0 ≤ s0_2 ∧ s0_2 < 18446744073709551616 then
  some (limb0 (s0_0 + s0_1 * 18446744073709551616 + s0_2 * 340282366920938463463374607431768211456 + a1 * a2), limb1 (s0_0 + s0_1 * 18446744073709551616 + s0_2 * 340282366920938463463374607431768211456 + a1 * a2), limb2 (s0_0 + s0_1 * 18446744073709551616 + s0_2 * 340282366920938463463374607431768211456 + a1 * a2))
 else none
theorem exact_Sum_Add.calls (g : Nat) (s0_0 : Int) (s0_1 : Int) (s0_2 : Int) (a1 : Int) (a2 : Int) (r1 : Int) (r2 : Int) (r3 : Int) (w0 w : World) (hI : IsS128 w0 w g s0_0 s0_1 s0_2) (hB : Below w0.heap.size w0 w) (h : exact_Sum_Add.f s0_0 s0_1 s0_2 a1 a2 = some (r1, r2, r3)) :
  Calls Try.prog 88 #[.pointer (some ⟨g, 0, none⟩), .int .i64 a1, .int .i64 a2] w fun e w' => e = .returned (.tuple #[]) ∧ IsS128 w0 w' g r1 r2 r3 ∧ Below w0.heap.size w0 w' ∧ KeepBut w w' g none := by
 unfold exact_Sum_Add.f at h
 split at h
 ·rename_i hc
  obtain ⟨c1, c2, c3, c4, c5, c6, c7, c8, c9, c10⟩ := hc
  obtain ⟨hb, hg⟩ := hI
  simp only [Option.some.injEq, Prod.mk.injEq] at h
  obtain ⟨rfl, rfl, rfl⟩ := h
  have h3 : At3 #[.int .u64 s0_0, .int .u64 s0_1, .int .u64 s0_2] 0 (s0_0 + s0_1 * 18446744073709551616 + s0_2 * 340282366920938463463374607431768211456) := by
   have e0 : limb0 (s0_0 + s0_1 * 18446744073709551616 + s0_2 * 340282366920938463463374607431768211456) = s0_0 := by unfold limb0; omega
   have e1 : limb1 (s0_0 + s0_1 * 18446744073709551616 + s0_2 * 340282366920938463463374607431768211456) = s0_1 := by unfold limb1; omega
   have e2 : limb2 (s0_0 + s0_1 * 18446744073709551616 + s0_2 * 340282366920938463463374607431768211456) = s0_2 := by unfold limb2; omega
   unfold At3
   rw [e0, e1, e2]
   exact ⟨rfl, rfl, rfl⟩
  refine (exact_Add g 0 _ a1 a2 w _ _ c1 c2 c3 c4 hb h3).mono ?_
  rintro e w' ⟨he, hb', hs⟩
  exact ⟨he, ⟨hb', hg⟩, hB.trans (hs.below hg), ⟨Nat.le_of_eq hs.size.symm, fun i _ hi _ => hs.block i hi⟩⟩
 ·cases h

/-! ### exact_Sum_Fits: function 89 -/
def exact_Sum_Fits.f (s0_0 : Int) (s0_1 : Int) (s0_2 : Int) : Option (Int × Bool × Int × Int × Int) := (exact_sign.f s0_0).bind fun t118 => (if s0_1 = t118 then (if s0_2 = t118 then (some (wrap64 (s0_0), true, s0_0, s0_1, s0_2)) else (some (0, false, s0_0, s0_1, s0_2))) else (some (0, false, s0_0, s0_1, s0_2)))
set_option maxHeartbeats 8000000 in
set_option maxRecDepth 100000 in
theorem exact_Sum_Fits.calls (g : Nat) (s0_0 : Int) (s0_1 : Int) (s0_2 : Int) (r1 : Int) (r2 : Bool) (r3 : Int) (r4 : Int) (r5 : Int) (w0 w : World) (hI : IsS128 w0 w g s0_0 s0_1 s0_2) (hB : Below w0.heap.size w0 w) (h : exact_Sum_Fits.f s0_0 s0_1 s0_2 = some (r1, r2, r3, r4, r5)) :
  Calls Try.prog 89 #[.pointer (some ⟨g, 0, none⟩)] w fun e w' => e = .returned (.tuple #[.int .i64 r1, .bool r2]) ∧ IsS128 w0 w' g r3 r4 r5 ∧ Below w0.heap.size w0 w' ∧ KeepBut w w' g none := by
 have HI0 := zK hI
 have HK := zK (KeepBut.refl w g none)
 have HL := zK hB.size; clear hI
 have HW0 := zK hB.size
 have HB := zK hB; clear hB
 have H : ((exact_sign.f s0_0).bind fun t118 => (if s0_1 = t118 then (if s0_2 = t118 then (some (wrap64 (s0_0), true, s0_0, s0_1, s0_2)) else (some (0, false, s0_0, s0_1, s0_2))) else (some (0, false, s0_0, s0_1, s0_2)))) = some (r1, r2, r3, r4, r5) := h
 clear h; replace H := Option.bind_eq_some_iff.mp H
 obtain ⟨t118, A20, H⟩ := H
 replace H : (if s0_1 = t118 then (if s0_2 = t118 then (some (wrap64 (s0_0), true, s0_0, s0_1, s0_2)) else (some (0, false, s0_0, s0_1, s0_2))) else (some (0, false, s0_0, s0_1, s0_2))) = some (r1, r2, r3, r4, r5) := H
 have A2 := zK A20; clear A20
 by_cases c3 : s0_1 = t118
 ·rw [if_pos c3] at H
  have c3b0 : (s0_1 == t118) = true := beq_iff_eq.mpr c3
  have c3b1 : (s0_1 != t118) = false := bne_eq_false_iff_eq.mpr c3; clear c3
  by_cases c4 : s0_2 = t118
  ·rw [if_pos c4] at H
   have c4b0 : (s0_2 == t118) = true := beq_iff_eq.mpr c4
   have c4b1 : (s0_2 != t118) = false := bne_eq_false_iff_eq.mpr c4; clear c4
   simp only [Option.some.injEq, Prod.mk.injEq] at H
   obtain ⟨rfl, rfl, rfl, rfl, rfl⟩ := H
   obtain ⟨HGz5, hgz5⟩ := HI0.out
   have hcz5_0 := cellS128_0 HGz5
   have hcz5_1 := cellS128_1 HGz5
   have hcz5_2 := cellS128_2 HGz5
   have hfz5_0 := blk_frozen HGz5 0
   have hfz5_1 := blk_frozen HGz5 1
   have hfz5_2 := blk_frozen HGz5 2; clear HGz5 hgz5
   go_enter Try.func89, Try.ntmps89
   go_wp2_with (first | ((with_reducible refine zC (f := 109) rfl ?_); refine goesL_ (some 9) rfl rfl Try.func109 (by kernel_rfl) rfl #[.int .u64 s0_0] rfl (by (try simp only [List.map_toArray, List.map_cons, List.map_nil]); first | done | rfl | (simp only [List.length_drop, List.length_take]; rfl)) ?_; (with_reducible refine (exact_sign.calls s0_0 t118 _ A2.out).mono ?_); rintro e w' ⟨rfl, ⟨nd, rfl⟩⟩; refine ⟨_, rfl, ?_⟩))
   go_ret2
   exact ⟨by first | rfl | (simp [errW_none, errW_some] <;> rfl) | (simp [*, errW_none, errW_some] <;> rfl), by repeat (first | (with_reducible first | exact HI0.out | apply IsS128.alloc | apply IsS128.drewN | apply IsS128.drew | apply IsS128.set_0 | apply IsS128.set_1 | apply IsS128.set_2) | exact HI0.out), by repeat (first | (with_reducible first | exact HB.out | apply yA | apply yN | apply yD | refine yS ?_ (IsS128.ge HI0.out)) | exact HB.out), by repeat (first | (with_reducible first | exact HK.out | apply KeepBut.set_ | apply keep_drewN | apply keep_drew | apply keep_alloc) | exact HK.out)⟩
  ·rw [if_neg c4] at H
   have c4b0 : (s0_2 == t118) = false := beq_eq_false_iff_ne.mpr c4
   have c4b1 : (s0_2 != t118) = true := bne_iff_ne.mpr c4
   simp only [Option.some.injEq, Prod.mk.injEq] at H
   obtain ⟨rfl, rfl, rfl, rfl, rfl⟩ := H
   obtain ⟨HGz6, hgz6⟩ := HI0.out
   have hcz6_0 := cellS128_0 HGz6
   have hcz6_1 := cellS128_1 HGz6
   have hcz6_2 := cellS128_2 HGz6
   have hfz6_0 := blk_frozen HGz6 0
   have hfz6_1 := blk_frozen HGz6 1
   have hfz6_2 := blk_frozen HGz6 2; clear HGz6 hgz6
   go_enter Try.func89, Try.ntmps89
   go_wp2_with (first | ((with_reducible refine zC (f := 109) rfl ?_); refine goesL_ (some 9) rfl rfl Try.func109 (by kernel_rfl) rfl #[.int .u64 s0_0] rfl (by (try simp only [List.map_toArray, List.map_cons, List.map_nil]); first | done | rfl | (simp only [List.length_drop, List.length_take]; rfl)) ?_; (with_reducible refine (exact_sign.calls s0_0 t118 _ A2.out).mono ?_); rintro e w' ⟨rfl, ⟨nd, rfl⟩⟩; refine ⟨_, rfl, ?_⟩))
   go_ret2
   exact ⟨by first | rfl | (simp [errW_none, errW_some] <;> rfl) | (simp [*, errW_none, errW_some] <;> rfl), by repeat (first | (with_reducible first | exact HI0.out | apply IsS128.alloc | apply IsS128.drewN | apply IsS128.drew | apply IsS128.set_0 | apply IsS128.set_1 | apply IsS128.set_2) | exact HI0.out), by repeat (first | (with_reducible first | exact HB.out | apply yA | apply yN | apply yD | refine yS ?_ (IsS128.ge HI0.out)) | exact HB.out), by repeat (first | (with_reducible first | exact HK.out | apply KeepBut.set_ | apply keep_drewN | apply keep_drew | apply keep_alloc) | exact HK.out)⟩
 ·rw [if_neg c3] at H
  have c3b0 : (s0_1 == t118) = false := beq_eq_false_iff_ne.mpr c3
  have c3b1 : (s0_1 != t118) = true := bne_iff_ne.mpr c3
  simp only [Option.some.injEq, Prod.mk.injEq] at H
  obtain ⟨rfl, rfl, rfl, rfl, rfl⟩ := H
  obtain ⟨HGz7, hgz7⟩ := HI0.out
  have hcz7_0 := cellS128_0 HGz7
  have hcz7_1 := cellS128_1 HGz7
  have hcz7_2 := cellS128_2 HGz7
  have hfz7_0 := blk_frozen HGz7 0
  have hfz7_1 := blk_frozen HGz7 1
  have hfz7_2 := blk_frozen HGz7 2; clear HGz7 hgz7
  go_enter Try.func89, Try.ntmps89
  go_wp2_with (first | ((with_reducible refine zC (f := 109) rfl ?_); refine goesL_ (some 9) rfl rfl Try.func109 (by kernel_rfl) rfl #[.int .u64 s0_0] rfl (by (try simp only [List.map_toArray, List.map_cons, List.map_nil]); first | done | rfl | (simp only [List.length_drop, List.length_take]; rfl)) ?_; (with_reducible refine (exact_sign.calls s0_0 t118 _ A2.out).mono ?_); rintro e w' ⟨rfl, ⟨nd, rfl⟩⟩; refine ⟨_, rfl, ?_⟩))
  go_ret2
  exact ⟨by first | rfl | (simp [errW_none, errW_some] <;> rfl) | (simp [*, errW_none, errW_some] <;> rfl), by repeat (first | (with_reducible first | exact HI0.out | apply IsS128.alloc | apply IsS128.drewN | apply IsS128.drew | apply IsS128.set_0 | apply IsS128.set_1 | apply IsS128.set_2) | exact HI0.out), by repeat (first | (with_reducible first | exact HB.out | apply yA | apply yN | apply yD | refine yS ?_ (IsS128.ge HI0.out)) | exact HB.out), by repeat (first | (with_reducible first | exact HK.out | apply KeepBut.set_ | apply keep_drewN | apply keep_drew | apply keep_alloc) | exact HK.out)⟩

/-! ### sequitur/lin.sum: what it comes to -/
def addM (by_ : Int) (acc : List Int) (m : S68) : List Int := acc.set m.f0.toNat (acc.getD m.f0.toNat 0 + m.f1 * by_)
def addF (acc : List Int) (x : S158) : List Int := x.f0.f1.foldl (addM x.f1) acc
def accs (l : List S158) : List Int := l.foldl addF (List.replicate 64 0)
def ksum (l : List S158) : Int := l.foldl (fun s x => s + x.f0.f0 * x.f1) 0
def in64 (n : Int) : Bool := decide (-9223372036854775808 ≤ n) && decide (n ≤ 9223372036854775807)
def goodM (m : S68) : Bool := decide (0 ≤ m.f0) && decide (m.f0 < 64) && in64 m.f1
def goodF (x : S158) : Bool := in64 x.f0.f0 && in64 x.f1 && x.f0.f1.all goodM
def sumOut (acc : List Int) (v : Nat) : List S68 := (List.range v).filterMap fun i => if (fit192 (acc.getD i 0)).1 = 0 then none else some ⟨(i : Int), (fit192 (acc.getD i 0)).1⟩
def sumOk (acc : List Int) (b : Bool) (v : Nat) : Bool := b && (List.range v).all fun i => (fit192 (acc.getD i 0)).2
def lin_sum.f (l0 : List S158) : Option (Int × List S68 × Int) :=
 if l0.all goodF = true then some (if sumOk (accs l0) (fit192 (ksum l0)).2 64 = true then ((fit192 (ksum l0)).1, sumOut (accs l0) 64, 0) else (0, [], 5)) else none

theorem in64_iff {n : Int} (h : in64 n = true) : -9223372036854775808 ≤ n ∧ n ≤ 9223372036854775807 := by
 simpa [in64] using h
theorem addM_length (b : Int) (acc : List Int) (m : S68) : (addM b acc m).length = acc.length := by simp [addM]
theorem foldM_length (b : Int) (l : List S68) : ∀ acc : List Int, (l.foldl (addM b) acc).length = acc.length := by
 induction l with
 | nil => intro acc; rfl
 | cons m l ih => intro acc; rw [List.foldl_cons, ih, addM_length]
theorem addF_length (acc : List Int) (x : S158) : (addF acc x).length = acc.length := foldM_length _ _ _
theorem foldF_length (l : List S158) : ∀ acc : List Int, (l.foldl addF acc).length = acc.length := by
 induction l with
 | nil => intro acc; rfl
 | cons m l ih => intro acc; rw [List.foldl_cons, ih, addF_length]

/-! a block of numbers of 192 bits -/
def cells3 (s : Int) : List Value := [.int .u64 (limb0 s), .int .u64 (limb1 s), .int .u64 (limb2 s)]
def accCells (acc : List Int) : Array Value := (acc.flatMap cells3).toArray
theorem cells3_length (s : Int) : (cells3 s).length = 3 := rfl
theorem accCells_get (acc : List Int) : ∀ (v : Nat), v < acc.length → ∀ j, j < 3 → (acc.flatMap cells3)[3 * v + j]? = (cells3 (acc.getD v 0))[j]? := by
 induction acc with
 | nil => intro v hv; simp at hv
 | cons s acc ih =>
  intro v hv j hj
  rw [List.flatMap_cons]
  cases v with
  | zero => rw [List.getElem?_append_left (by rw [cells3_length]; omega)]; simp
  | succ v =>
   rw [List.getElem?_append_right (by rw [cells3_length]; omega), cells3_length, show 3 * (v + 1) + j - 3 = 3 * v + j by omega, ih v (by simpa using hv) j hj]
   simp
theorem accCells_at (acc : List Int) (v : Nat) (hv : v < acc.length) : At3 (accCells acc) (3 * v) (acc.getD v 0) := by
 have h := accCells_get acc v hv
 unfold At3 accCells
 simp only [List.getElem?_toArray]
 refine ⟨?_, ?_, ?_⟩
 ·have := h 0 (by omega); rw [Nat.add_zero] at this; rw [this]; rfl
 ·rw [h 1 (by omega)]; rfl
 ·rw [h 2 (by omega)]; rfl
theorem accCells_set (acc : List Int) : ∀ (v : Nat) (s : Int), v < acc.length →
  (((acc.flatMap cells3).set (3 * v) (.int .u64 (limb0 s))).set (3 * v + 1) (.int .u64 (limb1 s))).set (3 * v + 2) (.int .u64 (limb2 s)) = (acc.set v s).flatMap cells3 := by
 induction acc with
 | nil => intro v s hv; simp at hv
 | cons t acc ih =>
  intro v s hv
  cases v with
  | zero => simp [cells3, List.flatMap_cons]
  | succ v =>
   have := ih v s (by simpa using hv)
   rw [List.set_cons_succ, List.flatMap_cons, List.flatMap_cons, ← this]
   have e : ∀ (k : Nat) (u : Value) (L : List Value), (cells3 t ++ L).set (k + 3) u = cells3 t ++ L.set k u := by
    intro k u L
    rw [List.set_append_right _ _ (by rw [cells3_length]; omega), cells3_length]; congr 2
   rw [show 3 * (v + 1) = 3 * v + 3 by omega, show 3 * v + 3 + 1 = (3 * v + 1) + 3 by omega, show 3 * v + 3 + 2 = (3 * v + 2) + 3 by omega, e, e, e]
theorem accCells_put (acc : List Int) (v : Nat) (s : Int) (hv : v < acc.length) : put3 (accCells acc) (3 * v) s = accCells (acc.set v s) := by
 unfold put3 accCells
 rw [← accCells_set acc v s hv]
 simp
theorem accs_take (l : List S158) (i : Nat) (h : i < l.length) : accs (l.take (i + 1)) = addF (accs (l.take i)) l[i] := by
 unfold accs
 rw [List.take_succ_eq_append_getElem h, List.foldl_append]; rfl
theorem ksum_take (l : List S158) (i : Nat) (h : i < l.length) : ksum (l.take (i + 1)) = ksum (l.take i) + l[i].f0.f0 * l[i].f1 := by
 unfold ksum
 rw [List.take_succ_eq_append_getElem h, List.foldl_append]; rfl
theorem accs_length (l : List S158) : (accs l).length = 64 := by
 unfold accs; rw [foldF_length]; simp
theorem sumOut_succ (acc : List Int) (v : Nat) : sumOut acc (v + 1) = sumOut acc v ++ (if (fit192 (acc.getD v 0)).1 = 0 then [] else [⟨(v : Int), (fit192 (acc.getD v 0)).1⟩]) := by
 unfold sumOut
 rw [List.range_succ, List.filterMap_append]
 congr 1
 simp only [List.filterMap_cons, List.filterMap_nil]
 split <;> split <;> simp_all
theorem sumOk_succ (acc : List Int) (b : Bool) (v : Nat) : sumOk acc b (v + 1) = (sumOk acc b v && (fit192 (acc.getD v 0)).2) := by
 unfold sumOk
 rw [List.range_succ, List.all_append, ← Bool.and_assoc]
 simp
theorem sumOut_length (acc : List Int) (v : Nat) : (sumOut acc v).length ≤ v := by
 have := List.length_filterMap_le (fun i => if (fit192 (acc.getD i 0)).1 = 0 then none else some (⟨(i : Int), (fit192 (acc.getD i 0)).1⟩ : S68)) (List.range v)
 rwa [List.length_range] at this

end Go.Proofs.Ytkfbfgkdabljiaa.PBoxWithin
