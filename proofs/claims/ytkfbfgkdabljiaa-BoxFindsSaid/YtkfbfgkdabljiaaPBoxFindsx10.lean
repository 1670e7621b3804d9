/- What the call of each function that the law reaches comes to: it answers as the plain function of the same name does, wherever that one answers; and the law itself out of its plain form. Written by a program of this session (an extended copy of the printer); no condition but what stands in each theorem. -/
import Derived.Test.YtkfbfgkdabljiaaPBoxFindsx0
import Derived.Test.YtkfbfgkdabljiaaPBoxFindsx1
import Derived.Test.YtkfbfgkdabljiaaPBoxFindsx4
import Derived.Test.YtkfbfgkdabljiaaPBoxFindsx5
import Derived.Test.YtkfbfgkdabljiaaPBoxFindsx6
import Derived.Test.YtkfbfgkdabljiaaPBoxFindsx7
import Derived.Test.YtkfbfgkdabljiaaPBoxFindsx9
namespace Go.Proofs.Ytkfbfgkdabljiaa.PBoxFinds
open Go.RowKit Go.Proofs.YtkfbfgkdabljiaaW.PrintWords Go.Proofs.YtkfbfgkdabljiaaW.PrintLast Go.Proofs.YtkfbfgkdabljiaaW.PrintMore
open Go.Proofs.YtkfbfgkdabljiaaW.PrintWords renaming below_alloc → yA, pw_below_drewN → yN, below_drew1 → yD, gate_callee → zC, gate_guard → zG
open Go.Proofs.YtkfbfgkdabljiaaW.PrintWords.Kd renaming V_alloc → vA, V_drewN → vN, V_drew → vD, N_alloc → nA, N_drewN → nN, N_drew → nD, C_alloc → cA, C_drewN → cN, C_drew → cD, V_mono → vM
open Go.Proofs.YtkfbfgkdabljiaaW.PrintWords.Aside0 renaming mk → zK
attribute [local go_sem] max2_int min2_int max_two min_two max_three min_three max_four min_four   -- for this text's walks alone
set_option linter.unusedVariables false
set_option linter.unusedSimpArgs false

/-! ### sequiturref32_Find: function 23 -/
mutual
def sequiturref32_Find.l0 : Nat → List (S70) → Int → List (List Int) → List (List Int) → Int → Option ((List (List Int)) × Int)
 | 0, _, _, _, _, _ => none
 | k + 1, x0, x3, x11, x12, x13 => if x13 < (x11.length : Int) then (sequiturref32_Find.j1 k x0 x3 x11 x12 x13 (decide ((x12.length : Int) < x3))) else (sequiturref32_Find.j1 k x0 x3 x11 x12 x13 false)
def sequiturref32_Find.j1 : Nat → List (S70) → Int → List (List Int) → List (List Int) → Int → Bool → Option ((List (List Int)) × Int)
 | 0, _, _, _, _, _, _ => none
 | k + 1, x0, x3, x11, x12, x13, x35 => if x35 = true then (if 0 ≤ x13 then (if x13 < (x11.length : Int) then ((sequiturref28_All.f k x0 (rd_L6 x11 x13)).bind fun bt267 => (if bt267.2 = 0 then (if bt267.1 < 0 then (if x12.length < 5864062014805 then (sequiturref32_Find.l0 k x0 x3 x11 (x12 ++ [rd_L6 x11 x13]) (wrap64 (x13 + 1))) else (none)) else (sequiturref32_Find.l0 k x0 x3 x11 x12 (wrap64 (x13 + 1)))) else (some (([] : List (List Int)), bt267.2)))) else (none)) else (none)) else (some (x12, 0))
end
def sequiturref32_Find.f (k : Nat) (l0 : List (S70)) (l1 : List Int) (l2 : List Int) (a3 : Int) : Option ((List (List Int)) × Int) := (sequiturref32_wrong.f k l0 l1 l2).bind fun t262 => (if t262 = 0 then ((sequiturref32_Points.f k l1 l2).bind fun t263 => (sequiturref32_Find.l0 k l0 a3 t263 ([] : List (List Int)) 0)) else (some (([] : List (List Int)), t262)))
theorem sequiturref32_Find.mono_l : ∀ k, (∀ y0 y1 y2 y3 y4, LeO (sequiturref32_Find.l0 k y0 y1 y2 y3 y4) (sequiturref32_Find.l0 (k + 1) y0 y1 y2 y3 y4)) ∧ (∀ y0 y1 y2 y3 y4 y5, LeO (sequiturref32_Find.j1 k y0 y1 y2 y3 y4 y5) (sequiturref32_Find.j1 (k + 1) y0 y1 y2 y3 y4 y5))
 | 0 => ⟨fun _ _ _ _ _ r h => by simp [sequiturref32_Find.l0] at h, fun _ _ _ _ _ _ r h => by simp [sequiturref32_Find.j1] at h⟩
 | k + 1 => by
  obtain ⟨ih0, ih1⟩ := sequiturref32_Find.mono_l k
  refine ⟨?_, ?_⟩
  ·intro y0 y1 y2 y3 y4
   unfold sequiturref32_Find.l0
   repeat' first
   | (with_reducible exact ih0 _ _ _ _ _)
   | (with_reducible exact ih1 _ _ _ _ _ _)
   | (with_reducible exact sequiturref28_All.mono _ _ _)
   | (with_reducible exact sequiturref32_Points.mono _ _ _)
   | (with_reducible exact sequiturref32_wrong.mono _ _ _ _)
   | (with_reducible exact LeO.refl _)
   | (with_reducible exact LeO.none _)
   | (with_reducible refine LeO.ite ?_ ?_)
   | (with_reducible refine LeO.bind ?_ (fun _ => ?_))
   | exact ih0 _ _ _ _ _
   | exact ih1 _ _ _ _ _ _
   | exact sequiturref28_All.mono _ _ _
   | exact sequiturref32_Points.mono _ _ _
   | exact sequiturref32_wrong.mono _ _ _ _
   | exact LeO.none _
   | refine LeO.ite ?_ ?_
   | refine LeO.bind ?_ (fun _ => ?_)
  ·intro y0 y1 y2 y3 y4 y5
   unfold sequiturref32_Find.j1
   repeat' first
   | (with_reducible exact ih0 _ _ _ _ _)
   | (with_reducible exact ih1 _ _ _ _ _ _)
   | (with_reducible exact sequiturref28_All.mono _ _ _)
   | (with_reducible exact sequiturref32_Points.mono _ _ _)
   | (with_reducible exact sequiturref32_wrong.mono _ _ _ _)
   | (with_reducible exact LeO.refl _)
   | (with_reducible exact LeO.none _)
   | (with_reducible refine LeO.ite ?_ ?_)
   | (with_reducible refine LeO.bind ?_ (fun _ => ?_))
   | exact ih0 _ _ _ _ _
   | exact ih1 _ _ _ _ _ _
   | exact sequiturref28_All.mono _ _ _
   | exact sequiturref32_Points.mono _ _ _
   | exact sequiturref32_wrong.mono _ _ _ _
   | exact LeO.none _
   | refine LeO.ite ?_ ?_
   | refine LeO.bind ?_ (fun _ => ?_)
theorem sequiturref32_Find.mono : ∀ a0 a1 a2 a3 k, LeO (sequiturref32_Find.f k a0 a1 a2 a3) (sequiturref32_Find.f (k + 1) a0 a1 a2 a3) := by
 intro a0 a1 a2 a3 k
 obtain ⟨ih0, ih1⟩ := sequiturref32_Find.mono_l k
 unfold sequiturref32_Find.f
 repeat' first
   | (with_reducible exact ih0 _ _ _ _ _)
   | (with_reducible exact ih1 _ _ _ _ _ _)
   | (with_reducible exact sequiturref28_All.mono _ _ _)
   | (with_reducible exact sequiturref32_Points.mono _ _ _)
   | (with_reducible exact sequiturref32_wrong.mono _ _ _ _)
   | (with_reducible exact LeO.refl _)
   | (with_reducible exact LeO.none _)
   | (with_reducible refine LeO.ite ?_ ?_)
   | (with_reducible refine LeO.bind ?_ (fun _ => ?_))
   | exact ih0 _ _ _ _ _
   | exact ih1 _ _ _ _ _ _
   | exact sequiturref28_All.mono _ _ _
   | exact sequiturref32_Points.mono _ _ _
   | exact sequiturref32_wrong.mono _ _ _ _
   | exact LeO.none _
   | refine LeO.ite ?_ ?_
   | refine LeO.bind ?_ (fun _ => ?_)
set_option maxHeartbeats 8000000 in
set_option maxRecDepth 100000 in
theorem sequiturref32_Find.calls (k : Nat) (A0 : Option Addr) (c0 : Nat) (l0 : List (S70)) (P1_ : Nat → Prop) (A1 : Option Addr) (c1 : Nat) (l1 : List Int) (A2 : Option Addr) (c2 : Nat) (l2 : List Int) (a3 : Int) (r1 : List (List Int)) (r2 : Int) (w : World) (hr0 : Kd.C k70 w A0 l0.length l0) (hc0 : l0.length ≤ c0) (hs1 : Kd.V (Kd.int .i64) 2 w w.heap.size (fun k_ => P1_ k_) (.slice A1 l1.length c1) l1) (hr2 : Kd.C (Kd.int .i64) w A2 l2.length l2) (hc2 : l2.length ≤ c2) (h : sequiturref32_Find.f k l0 l1 l2 a3 = some (r1, r2)) :
  Calls Try.prog 23 #[.slice A0 l0.length c0, .slice A1 l1.length c1, .slice A2 l2.length c2, .int .i64 a3] w fun e w' => ∃ v0_ : Value, e = .returned (.tuple #[v0_, .int .i64 r2]) ∧ Kd.N (Kd.slice 2 (Kd.int .i64)) 33 w' w.heap.size (fun k_ => (P1_ k_ ∨ w.heap.size ≤ k_)) v0_ r1 ∧ Below w.heap.size w w' := by
 have HR0 := zK hr0
 have HC0 := zK hc0; clear hr0 hc0
 have HO1 := zK (show Kd.V (Kd.int .i64) 2 w w.heap.size (fun k_ => (P1_ k_ ∨ w.heap.size ≤ k_)) (.slice A1 l1.length c1) l1 from vM hs1 (fun k_ hk => .inl hk))
 have HR2 := zK hr2
 have HC2 := zK hc2; clear hr2 hc2
 have HB := zK (Below.refl w.heap.size w)
 have H : ((sequiturref32_wrong.f k l0 l1 l2).bind fun t262 => (if t262 = 0 then ((sequiturref32_Points.f k l1 l2).bind fun t263 => (sequiturref32_Find.l0 k l0 a3 t263 ([] : List (List Int)) 0)) else (some (([] : List (List Int)), t262)))) = some (r1, r2) := h
 clear h; replace H := Option.bind_eq_some_iff.mp H
 obtain ⟨t262, A50, H⟩ := H
 replace H : (if t262 = 0 then ((sequiturref32_Points.f k l1 l2).bind fun t263 => (sequiturref32_Find.l0 k l0 a3 t263 ([] : List (List Int)) 0)) else (some (([] : List (List Int)), t262))) = some (r1, r2) := H
 have A5 := zK A50; clear A50
 by_cases c6 : t262 = 0
 ·rw [if_pos c6] at H
  have c6b0 : (t262 == 0) = true := beq_iff_eq.mpr c6
  have c6b1 : (t262 != 0) = false := bne_eq_false_iff_eq.mpr c6; clear c6
  replace H := Option.bind_eq_some_iff.mp H
  obtain ⟨t263, A70, H⟩ := H
  replace H : (sequiturref32_Find.l0 k l0 a3 t263 ([] : List (List Int)) 0) = some (r1, r2) := H
  have A7 := zK A70; clear A70
  have H' := zK H; clear H
  go_enter Try.func23, Try.ntmps23
  go_wp2_with (first | ((with_reducible refine zC (f := 48) rfl ?_); refine goesL_ (some 19) rfl rfl Try.func48 (by kernel_rfl) rfl #[.slice A0 l0.length c0, .slice A1 l1.length c1, .slice A2 l2.length c2] rfl (by (try simp only [List.map_toArray, List.map_cons, List.map_nil]); first | done | rfl | (simp only [List.length_drop, List.length_take]; rfl)) ?_; (with_reducible refine (sequiturref32_wrong.calls k _ _ l0 _ _ l1 _ _ l2 t262 _ ?side1 ?side2 ?side3 ?side4 ?side5 ?side6 A5.out).mono ?_); (case side1 => repeat (first | exact HR0.out | (with_reducible refine cA ?_ _) | (with_reducible refine cN ?_ _) | (with_reducible refine cD ?_))); (case side2 => exact HC0.out); (case side3 => repeat (first | exact (Kd.V_reads' HO1.out).2.2 | (with_reducible refine cA ?_ _) | (with_reducible refine cN ?_ _) | (with_reducible refine cD ?_))); (case side4 => exact (Kd.V_reads' HO1.out).2.1); (case side5 => repeat (first | exact HR2.out | (with_reducible refine cA ?_ _) | (with_reducible refine cN ?_ _) | (with_reducible refine cD ?_))); (case side6 => exact HC2.out); rintro e w8 ⟨rfl, hb⟩; refine ⟨_, rfl, ?_⟩; replace HO1 := zK (Kd.V_below (zv HO1) hb); replace HB := zK (below_step (zo HB) hb); (try clear hb); (try clear hb2); (try clear hk); (try clear hi)) | ((with_reducible refine zC (f := 26) rfl ?_); refine goesL_ (some 25) rfl rfl Try.func26 (by kernel_rfl) rfl #[.slice A1 l1.length c1, .slice A2 l2.length c2] rfl (by (try simp only [List.map_toArray, List.map_cons, List.map_nil]); first | done | rfl | (simp only [List.length_drop, List.length_take]; rfl)) ?_; (with_reducible refine (sequiturref32_Points.calls k (fun k_ => (P1_ k_ ∨ w.heap.size ≤ k_)) _ _ l1 _ _ l2 t263 _ ?side1 ?side2 ?side3 A7.out).mono ?_); (case side1 => exact HO1.out); (case side2 => repeat (first | exact (Kd.C_below HR2.out HB.out) | (with_reducible refine cA ?_ _) | (with_reducible refine cN ?_ _) | (with_reducible refine cD ?_))); (case side3 => exact HC2.out); rintro e w9 ⟨v264, rfl, ho0, hb⟩; refine ⟨_, rfl, ?_⟩; replace HO1 := zK (Kd.V_elder' (zv HO1) (Kd.N_base ho0) hb); have HO265 := zK (Kd.N_lower (Kd.N_mono (ok' := fun k_ => (P1_ k_ ∨ w.heap.size ≤ k_)) ho0 (fun k_ hk_ => Or.elim hk_ (fun hs_ => hs_) (fun hn_ => (.inr (Nat.le_trans (below_size (zo HB)) hn_))))) (below_size (zo HB))); replace HB := zK (below_step (zo HB) hb); (try clear hb); (try clear hb2); (try clear hk); (try clear hi); (try clear ho0)))
  go_loopg [12, 13] k (fun kq v12 v13 w' => ∃ (x12_1 : List (List Int)) (x13_1 : Int), v13 = .int .i64 x13_1 ∧ Aside0 (sequiturref32_Find.l0 kq l0 a3 t263 x12_1 x13_1 = some (r1, r2)) ∧ Aside0 (kq ≤ k) ∧ Aside0 (Kd.N (Kd.slice 2 (Kd.int .i64)) 33 w' w.heap.size (fun k_ => (P1_ k_ ∨ w.heap.size ≤ k_) ∧ some k_ ≠ (v12 : Value).ownBlock) v264 t263) ∧ Aside0 (Kd.N (Kd.slice 2 (Kd.int .i64)) 33 w' w.heap.size (fun k_ => (P1_ k_ ∨ w.heap.size ≤ k_) ∧ some k_ ≠ (v264 : Value).ownBlock) v12 x12_1) ∧ Aside0 (Below w.heap.size w w'))
  case atStart => exact ⟨(([] : List (List Int))), (0), (by first | rfl | (simp; done) | (simp [*]; done)), H', ⟨Nat.le_refl _⟩, ⟨by (with_reducible repeat (first | apply nA | apply nN | apply nD)); exact Kd.N_mono HO265.out (fun _ hk => ⟨hk, (by simp [Value.ownBlock])⟩)⟩, ⟨by first | exact Kd.S_nil _ _ _ _ _ | exact Kd.N_nil _ _ _ _ _ | exact Kd.V_nil _ _ _ _ _ | exact Kd.Q_nil _ _ _ _ _ | exact Kd.R_nil _ _ _ _ _⟩, ⟨zo HB⟩⟩
  case round =>
   clear H'; try clear c1; try clear c2; try clear p2
   try clear c4; try clear c6; try clear c6b0; try clear c6b1
   obtain ⟨x12_1, x13_1, rfl, HA, HK1, HO_11, HO_12, HB⟩ := hrel
   cases gk with
   | zero => exact absurd HA.out (by simp [sequiturref32_Find.l0])
   | succ k1 =>
    have H := HA.out; clear HA
    simp only [sequiturref32_Find.l0] at H
    have HC10 := zK H; clear H
    go_upto_region 7 with (fail)
    go_cut [35] (fun v35 wc => ∃ (kq : Nat) (x35_9 : Bool), v35 = .bool x35_9 ∧ Aside0 (sequiturref32_Find.j1 kq l0 a3 t263 x12_1 x13_1 x35_9 = some (r1, r2)) ∧ Aside0 (kq ≤ k1) ∧ Aside0 (Kd.N (Kd.slice 2 (Kd.int .i64)) 33 wc w.heap.size (fun k_ => (P1_ k_ ∨ w.heap.size ≤ k_) ∧ some k_ ≠ (u12 : Value).ownBlock) v264 t263) ∧ Aside0 (Kd.N (Kd.slice 2 (Kd.int .i64)) 33 wc w.heap.size (fun k_ => (P1_ k_ ∨ w.heap.size ≤ k_) ∧ some k_ ≠ (v264 : Value).ownBlock) u12 x12_1) ∧ Aside0 (Below w.heap.size w wc))
    case first =>
     have H := HC10.out; clear HC10
     by_cases c11 : x13_1 < (t263.length : Int)
     ·rw [if_pos c11] at H
      have c11b0 : decide (x13_1 < (t263.length : Int)) = true := decide_eq_true c11
      clear c11
      (first | rw [c11b0] | (simp only [i64_w, i32_w]; rw [c11b0]) | skip)
      have H' := zK H; clear H
      obtain ⟨Ao12, co12, eo12⟩ := Kd.N_slice HO_11.out
      subst eo12
      obtain ⟨Ao13, co13, eo13⟩ := Kd.N_slice HO_12.out
      subst eo13
      go_wp2
      go_meet
      case rel => exact ⟨_, (decide ((x12_1.length : Int) < a3)), (by first | rfl | (simp; done) | (simp [*]; done)), H', ⟨by have := HK1.out; first | omega | exact Nat.le_refl _⟩, ⟨zn HO_11⟩, ⟨zn HO_12⟩, ⟨zo HB⟩⟩
     ·rw [if_neg c11] at H
      have c11b0 : decide (x13_1 < (t263.length : Int)) = false := decide_eq_false c11
      clear c11
      (first | rw [c11b0] | (simp only [i64_w, i32_w]; rw [c11b0]) | skip)
      have H' := zK H; clear H
      obtain ⟨Ao14, co14, eo14⟩ := Kd.N_slice HO_11.out
      subst eo14
      go_wp2
      go_meet
      case rel => exact ⟨_, (false), (by first | rfl | (simp; done) | (simp [*]; done)), H', ⟨by have := HK1.out; first | omega | exact Nat.le_refl _⟩, ⟨zn HO_11⟩, ⟨zn HO_12⟩, ⟨zo HB⟩⟩
    case rest =>
     clear HC10; try clear c1; try clear c2; try clear p2
     try clear c4; try clear c6; try clear c6b0; try clear c6b1; try clear c11; try clear c11b0; try clear p2
     obtain ⟨kq, x35_9, rfl, HA, HJ9, HO_11, HO_12, HB⟩ := hcut
     cases kq with
     | zero => exact absurd HA.out (by simp [sequiturref32_Find.j1])
     | succ kj9 =>
      have H := HA.out; clear HA
      simp only [sequiturref32_Find.j1] at H
      by_cases c15 : x35_9 = true
      ·subst c15
       have H1 : (if 0 ≤ x13_1 then (if x13_1 < (t263.length : Int) then ((sequiturref28_All.f kj9 l0 (rd_L6 t263 x13_1)).bind fun bt267 => (if bt267.2 = 0 then (if bt267.1 < 0 then (if x12_1.length < 5864062014805 then (sequiturref32_Find.l0 kj9 l0 a3 t263 (x12_1 ++ [rd_L6 t263 x13_1]) (wrap64 (x13_1 + 1))) else (none)) else (sequiturref32_Find.l0 kj9 l0 a3 t263 x12_1 (wrap64 (x13_1 + 1)))) else (some (([] : List (List Int)), bt267.2)))) else (none)) else (none)) = some (r1, r2) := by rw [if_pos rfl] at H; exact H
       clear H; have H := H1; clear H1
       by_cases c16 : 0 ≤ x13_1
       ·rw [if_pos c16] at H
        have c16b0 : decide (0 ≤ x13_1) = true := decide_eq_true c16; clear c16
        by_cases c17 : x13_1 < (t263.length : Int)
        ·rw [if_pos c17] at H
         have c17b0 : decide (x13_1 < (t263.length : Int)) = true := decide_eq_true c17
         clear c17; replace H := Option.bind_eq_some_iff.mp H
         obtain ⟨⟨t267, t268⟩, A180, H⟩ := H
         replace H : (if t268 = 0 then (if t267 < 0 then (if x12_1.length < 5864062014805 then (sequiturref32_Find.l0 kj9 l0 a3 t263 (x12_1 ++ [rd_L6 t263 x13_1]) (wrap64 (x13_1 + 1))) else (none)) else (sequiturref32_Find.l0 kj9 l0 a3 t263 x12_1 (wrap64 (x13_1 + 1)))) else (some (([] : List (List Int)), t268))) = some (r1, r2) := H
         have A18 := zK A180; clear A180
         by_cases c19 : t268 = 0
         ·rw [if_pos c19] at H
          have c19b0 : (t268 == 0) = true := beq_iff_eq.mpr c19
          have c19b1 : (t268 != 0) = false := bne_eq_false_iff_eq.mpr c19; clear c19
          by_cases c20 : t267 < 0
          ·rw [if_pos c20] at H
           have c20b0 : decide (t267 < 0) = true := decide_eq_true c20; clear c20
           by_cases c21 : x12_1.length < 5864062014805
           ·rw [if_pos c21] at H
            have LMc21 := zK c21; clear c21
            obtain ⟨y270, hy270⟩ : ∃ y_ : List (List Int), y_ = (x12_1 ++ [rd_L6 t263 x13_1]) := ⟨_, rfl⟩
            replace H : (sequiturref32_Find.l0 kj9 l0 a3 t263 y270 (wrap64 (x13_1 + 1))) = some (r1, r2) := by first | (rw [hy270]; with_reducible exact H) | (have H2_ := (Option.bind_some _ _).symm.trans H; rw [hy270]; with_reducible exact H2_) | (have H2_ := (Option.bind_some _ _).symm.trans H; with_reducible exact H2_) | with_reducible exact H | (rw [hy270]; exact H) | exact H
            have Ny270 := zK hy270; clear hy270
            have H' := zK H; clear H
            obtain ⟨Ao22, co22, eo22⟩ := Kd.N_slice HO_11.out
            subst eo22
            have p266 : 0 ≤ (x13_1 : Int) := of_decide_eq_true (by first | (with_reducible assumption) | assumption)
            have q266 : x13_1 < (t263.length : Int) := of_decide_eq_true (by first | (with_reducible assumption) | assumption)
            obtain ⟨ad266, A266_0, c266_0, e266, hx266_0, hl266_0, hi266_0⟩ := at_L6 (Kd.N_reads' HO_11.out).2.2 x13_1 p266 q266
            cases e266
            obtain ⟨ce266, hce266, hMe266, hcc266⟩ := Kd.N_get HO_11.out [] x13_1 p266 (by first | exact q266 | exact of_decide_eq_true (by first | (with_reducible assumption) | assumption) | (have e_ := (Kd.N_reads' HO_11.out).1; omega))
            obtain ⟨ua266_0, uc266_0, rfl, ul266_0, ge266_0⟩ := Kd.FK_slice_open hMe266
            have hv266_0 := hcc266 0 _ rfl
            rw [Nat.add_zero, show ((Kd.slice 2 (Kd.int .i64))).sz = 1 from rfl, Nat.mul_one] at hv266_0
            replace hv266_0 := Option.some.inj (hv266_0.symm.trans hx266_0)
            injection hv266_0 with hva_ hvn_ hvc_
            rw [hva_] at ge266_0
            rw [hvc_] at ul266_0
            have HL266_0 := zK (show Kd.V (Kd.int .i64) 2 _ w.heap.size _ _ (rd_L6 t263 x13_1) from Kd.V_mk ul266_0 ge266_0)
            clear hva_ hvn_ hvc_ ge266_0 ul266_0 hcc266 hce266
            have HR266_0 := zK hi266_0
            have HC266_0 := zK hl266_0; clear hi266_0 hl266_0
            replace p266 := eq_true p266
            replace q266 := eq_true q266
            go_wp2_with (first | ((with_reducible refine zC (f := 49) rfl ?_); refine goesL_ (some 44) rfl rfl Try.func49 (by kernel_rfl) rfl #[.slice A0 l0.length c0, .slice A266_0 (rd_L6 t263 x13_1).length c266_0] rfl (by (try simp only [List.map_toArray, List.map_cons, List.map_nil]); first | done | rfl | (simp only [List.length_drop, List.length_take]; rfl)) ?_; (with_reducible refine (sequiturref28_All.calls kj9 _ _ l0 _ _ (rd_L6 t263 x13_1) t267 t268 _ ?side1 ?side2 ?side3 ?side4 A18.out).mono ?_); (case side1 => repeat (first | exact (Kd.C_below HR0.out HB.out) | (with_reducible refine cA ?_ _) | (with_reducible refine cN ?_ _) | (with_reducible refine cD ?_))); (case side2 => exact HC0.out); (case side3 => repeat (first | exact (by repeat (first | (with_reducible exact HR266_0.out) | (with_reducible refine cA ?_ _) | (with_reducible refine cN ?_ _) | (with_reducible refine cD ?_) | exact HR266_0.out)) | (with_reducible refine cA ?_ _) | (with_reducible refine cN ?_ _) | (with_reducible refine cD ?_))); (case side4 => exact HC266_0.out); rintro e w23 ⟨rfl, hb⟩; refine ⟨_, rfl, ?_⟩; replace HO_11 := zK (Kd.N_below (zn HO_11) hb); replace HO_12 := zK (Kd.N_below (zn HO_12) hb); replace HL266_0 := zK (Kd.V_below (zv HL266_0) hb); replace HR266_0 := zK (Kd.C_below (by repeat (first | (with_reducible exact HR266_0.out) | (with_reducible refine cA ?_ _) | (with_reducible refine cN ?_ _) | (with_reducible refine cD ?_) | exact HR266_0.out)) hb); replace HB := zK (below_step (zo HB) hb); (try clear hb); (try clear hb2); (try clear hk); (try clear hi); have p269 : 0 ≤ (x13_1 : Int) := of_decide_eq_true (by first | (with_reducible assumption) | assumption); have q269 : x13_1 < (t263.length : Int) := of_decide_eq_true (by first | (with_reducible assumption) | assumption); obtain ⟨ad269, A269_0, c269_0, e269, hx269_0, hl269_0, hi269_0⟩ := at_L6 (Kd.N_reads' HO_11.out).2.2 x13_1 p269 q269; obtain rfl : ad266 = ad269 := (by injection e269); obtain ⟨ce269, hce269, hMe269, hcc269⟩ := Kd.N_get HO_11.out [] x13_1 p269 (by first | exact q269 | exact of_decide_eq_true (by first | (with_reducible assumption) | assumption) | (have e_ := (Kd.N_reads' HO_11.out).1; omega)); obtain ⟨ua269_0, uc269_0, rfl, ul269_0, ge269_0⟩ := Kd.FK_slice_open hMe269; have hv269_0 := hcc269 0 _ rfl; rw [Nat.add_zero, show ((Kd.slice 2 (Kd.int .i64))).sz = 1 from rfl, Nat.mul_one] at hv269_0; replace hv269_0 := Option.some.inj (hv269_0.symm.trans hx269_0); injection hv269_0 with hva_ hvn_ hvc_; rw [hva_] at ge269_0; rw [hvc_] at ul269_0; have HL269_0 := zK (show Kd.V (Kd.int .i64) 2 _ w.heap.size _ _ (rd_L6 t263 x13_1) from Kd.V_mk ul269_0 ge269_0); clear hva_ hvn_ hvc_ ge269_0 ul269_0 hcc269 hce269; have HR269_0 := zK hi269_0; have HC269_0 := zK hl269_0; clear hi269_0 hl269_0; replace p269 := eq_true p269; replace q269 := eq_true q269) | ((with_reducible refine gate_builtin (b := .append) (xs := #[.tmp 52, .tmp 57]) rfl ?_); (try (refine zG (by rfl) ?_; dsimp only)); at_builtin; refine Kd.N_append (Kd.slice 2 (Kd.int .i64)) (w0 := w) w.heap.size rfl (.tmp 52) (.tmp 57) 37 33 (.slice none 0 0) 24 rfl Try.underlying37 info33 rfl (by decide) (by omega) u12 x12_1 (rd_L6 t263 x13_1) [.slice A269_0 (rd_L6 t263 x13_1).length c269_0] (fun k_ => (P1_ k_ ∨ w.heap.size ≤ k_) ∧ some k_ ≠ (.slice (some ad266) t263.length co22 : Value).ownBlock) (fun k_ => ((fun k_ => (P1_ k_ ∨ w.heap.size ≤ k_) ∧ some k_ ≠ (.slice (some ad266) t263.length co22 : Value).ownBlock)) k_ ∧ some k_ ≠ (u12 : Value).ownBlock) rfl rfl ?aP (fun _ hk => hk) ?aF ?aO ?aB ?aS ?aL ?_; (case aP => exact (Kd.FK_slice_mk (Kd.V_reads' (vM (ok' := (fun k_ => ((fun k_ => (P1_ k_ ∨ w.heap.size ≤ k_) ∧ some k_ ≠ (.slice (some ad266) t263.length co22 : Value).ownBlock)) k_ ∧ some k_ ≠ (u12 : Value).ownBlock)) (HL269_0.out) (fun k_ hk => ⟨⟨hk.1.1, hk.2⟩, hk.1.2⟩))).2.1 (Kd.V_F (vM (ok' := (fun k_ => ((fun k_ => (P1_ k_ ∨ w.heap.size ≤ k_) ∧ some k_ ≠ (.slice (some ad266) t263.length co22 : Value).ownBlock)) k_ ∧ some k_ ≠ (u12 : Value).ownBlock)) (HL269_0.out) (fun k_ hk => ⟨⟨hk.1.1, hk.2⟩, hk.1.2⟩))))); (case aB => exact (zo HB)); (case aF => exact (fun k_ hk => ⟨(.inr (Nat.le_trans (below_size (zo HB)) hk)), Kd.fresh' (Kd.N_lt (zn HO_11)) k_ hk⟩)); (case aO => exact (zn HO_12)); (case aS => exact (below_size (zo HB))); (case aL => have := LMc21.out; omega); intro v271 w24 ho hb hg hat; rw [← Ny270.out] at ho; replace HO_11 := zK (Kd.N_afterv (ok := (fun k_ => (P1_ k_ ∨ w.heap.size ≤ k_))) (zn HO_11) hg hat); replace HL266_0 := zK (Kd.V_afterv (ok := (fun k_ => (P1_ k_ ∨ w.heap.size ≤ k_) ∧ some k_ ≠ (.slice (some ad266) t263.length co22 : Value).ownBlock)) (by (with_reducible repeat (first | apply vA | apply vN | apply vD)); exact vM HL266_0.out (fun _ hk => ⟨⟨hk.1.1, hk.2⟩, hk.1.2⟩)) hg hat); replace HL269_0 := zK (Kd.V_afterv (ok := (fun k_ => (P1_ k_ ∨ w.heap.size ≤ k_) ∧ some k_ ≠ (.slice (some ad266) t263.length co22 : Value).ownBlock)) (by (with_reducible repeat (first | apply vA | apply vN | apply vD)); exact vM HL269_0.out (fun _ hk => ⟨⟨hk.1.1, hk.2⟩, hk.1.2⟩)) hg hat); replace HB := zK (hb); have HO272 := zK (ho); clear HO_12 ho hb hg hat))
            go_roundg kj9
            case measure => have := HK1.out; have := HJ9.out; omega
            case rel => exact ⟨(y270), (wrap64 (x13_1 + 1)), (by first | rfl | (simp; done) | (simp [*]; done)), H', ⟨by have := HK1.out; have := HJ9.out; omega⟩, ⟨zn HO_11⟩, ⟨zn HO272⟩, ⟨zo HB⟩⟩
           ·rw [if_neg c21] at H
            exact absurd H (by simp)
          ·rw [if_neg c20] at H
           have c20b0 : decide (t267 < 0) = false := decide_eq_false c20; clear c20
           have H' := zK H; clear H
           obtain ⟨Ao25, co25, eo25⟩ := Kd.N_slice HO_11.out
           subst eo25
           have p266 : 0 ≤ (x13_1 : Int) := of_decide_eq_true (by first | (with_reducible assumption) | assumption)
           have q266 : x13_1 < (t263.length : Int) := of_decide_eq_true (by first | (with_reducible assumption) | assumption)
           obtain ⟨ad266, A266_0, c266_0, e266, hx266_0, hl266_0, hi266_0⟩ := at_L6 (Kd.N_reads' HO_11.out).2.2 x13_1 p266 q266
           cases e266
           obtain ⟨ce266, hce266, hMe266, hcc266⟩ := Kd.N_get HO_11.out [] x13_1 p266 (by first | exact q266 | exact of_decide_eq_true (by first | (with_reducible assumption) | assumption) | (have e_ := (Kd.N_reads' HO_11.out).1; omega))
           obtain ⟨ua266_0, uc266_0, rfl, ul266_0, ge266_0⟩ := Kd.FK_slice_open hMe266
           have hv266_0 := hcc266 0 _ rfl
           rw [Nat.add_zero, show ((Kd.slice 2 (Kd.int .i64))).sz = 1 from rfl, Nat.mul_one] at hv266_0
           replace hv266_0 := Option.some.inj (hv266_0.symm.trans hx266_0)
           injection hv266_0 with hva_ hvn_ hvc_
           rw [hva_] at ge266_0
           rw [hvc_] at ul266_0
           have HL266_0 := zK (show Kd.V (Kd.int .i64) 2 _ w.heap.size _ _ (rd_L6 t263 x13_1) from Kd.V_mk ul266_0 ge266_0)
           clear hva_ hvn_ hvc_ ge266_0 ul266_0 hcc266 hce266
           have HR266_0 := zK hi266_0
           have HC266_0 := zK hl266_0; clear hi266_0 hl266_0
           replace p266 := eq_true p266
           replace q266 := eq_true q266
           go_wp2_with (first | ((with_reducible refine zC (f := 49) rfl ?_); refine goesL_ (some 44) rfl rfl Try.func49 (by kernel_rfl) rfl #[.slice A0 l0.length c0, .slice A266_0 (rd_L6 t263 x13_1).length c266_0] rfl (by (try simp only [List.map_toArray, List.map_cons, List.map_nil]); first | done | rfl | (simp only [List.length_drop, List.length_take]; rfl)) ?_; (with_reducible refine (sequiturref28_All.calls kj9 _ _ l0 _ _ (rd_L6 t263 x13_1) t267 t268 _ ?side1 ?side2 ?side3 ?side4 A18.out).mono ?_); (case side1 => repeat (first | exact (Kd.C_below HR0.out HB.out) | (with_reducible refine cA ?_ _) | (with_reducible refine cN ?_ _) | (with_reducible refine cD ?_))); (case side2 => exact HC0.out); (case side3 => repeat (first | exact (by repeat (first | (with_reducible exact HR266_0.out) | (with_reducible refine cA ?_ _) | (with_reducible refine cN ?_ _) | (with_reducible refine cD ?_) | exact HR266_0.out)) | (with_reducible refine cA ?_ _) | (with_reducible refine cN ?_ _) | (with_reducible refine cD ?_))); (case side4 => exact HC266_0.out); rintro e w26 ⟨rfl, hb⟩; refine ⟨_, rfl, ?_⟩; replace HO_11 := zK (Kd.N_below (zn HO_11) hb); replace HO_12 := zK (Kd.N_below (zn HO_12) hb); replace HL266_0 := zK (Kd.V_below (zv HL266_0) hb); replace HR266_0 := zK (Kd.C_below (by repeat (first | (with_reducible exact HR266_0.out) | (with_reducible refine cA ?_ _) | (with_reducible refine cN ?_ _) | (with_reducible refine cD ?_) | exact HR266_0.out)) hb); replace HB := zK (below_step (zo HB) hb); (try clear hb); (try clear hb2); (try clear hk); (try clear hi)))
           go_roundg kj9
           case measure => have := HK1.out; have := HJ9.out; omega
           case rel => exact ⟨(x12_1), (wrap64 (x13_1 + 1)), (by first | rfl | (simp; done) | (simp [*]; done)), H', ⟨by have := HK1.out; have := HJ9.out; omega⟩, ⟨zn HO_11⟩, ⟨zn HO_12⟩, ⟨zo HB⟩⟩
         ·rw [if_neg c19] at H
          have c19b0 : (t268 == 0) = false := beq_eq_false_iff_ne.mpr c19
          have c19b1 : (t268 != 0) = true := bne_iff_ne.mpr c19
          simp only [Option.some.injEq, Prod.mk.injEq] at H
          obtain ⟨rfl, rfl⟩ := H
          obtain ⟨Ao27, co27, eo27⟩ := Kd.N_slice HO_11.out
          subst eo27
          have p266 : 0 ≤ (x13_1 : Int) := of_decide_eq_true (by first | (with_reducible assumption) | assumption)
          have q266 : x13_1 < (t263.length : Int) := of_decide_eq_true (by first | (with_reducible assumption) | assumption)
          obtain ⟨ad266, A266_0, c266_0, e266, hx266_0, hl266_0, hi266_0⟩ := at_L6 (Kd.N_reads' HO_11.out).2.2 x13_1 p266 q266
          cases e266
          obtain ⟨ce266, hce266, hMe266, hcc266⟩ := Kd.N_get HO_11.out [] x13_1 p266 (by first | exact q266 | exact of_decide_eq_true (by first | (with_reducible assumption) | assumption) | (have e_ := (Kd.N_reads' HO_11.out).1; omega))
          obtain ⟨ua266_0, uc266_0, rfl, ul266_0, ge266_0⟩ := Kd.FK_slice_open hMe266
          have hv266_0 := hcc266 0 _ rfl
          rw [Nat.add_zero, show ((Kd.slice 2 (Kd.int .i64))).sz = 1 from rfl, Nat.mul_one] at hv266_0
          replace hv266_0 := Option.some.inj (hv266_0.symm.trans hx266_0)
          injection hv266_0 with hva_ hvn_ hvc_
          rw [hva_] at ge266_0
          rw [hvc_] at ul266_0
          have HL266_0 := zK (show Kd.V (Kd.int .i64) 2 _ w.heap.size _ _ (rd_L6 t263 x13_1) from Kd.V_mk ul266_0 ge266_0)
          clear hva_ hvn_ hvc_ ge266_0 ul266_0 hcc266 hce266
          have HR266_0 := zK hi266_0
          have HC266_0 := zK hl266_0; clear hi266_0 hl266_0
          replace p266 := eq_true p266
          replace q266 := eq_true q266
          go_wp2_with (first | ((with_reducible refine zC (f := 49) rfl ?_); refine goesL_ (some 44) rfl rfl Try.func49 (by kernel_rfl) rfl #[.slice A0 l0.length c0, .slice A266_0 (rd_L6 t263 x13_1).length c266_0] rfl (by (try simp only [List.map_toArray, List.map_cons, List.map_nil]); first | done | rfl | (simp only [List.length_drop, List.length_take]; rfl)) ?_; (with_reducible refine (sequiturref28_All.calls kj9 _ _ l0 _ _ (rd_L6 t263 x13_1) t267 t268 _ ?side1 ?side2 ?side3 ?side4 A18.out).mono ?_); (case side1 => repeat (first | exact (Kd.C_below HR0.out HB.out) | (with_reducible refine cA ?_ _) | (with_reducible refine cN ?_ _) | (with_reducible refine cD ?_))); (case side2 => exact HC0.out); (case side3 => repeat (first | exact (by repeat (first | (with_reducible exact HR266_0.out) | (with_reducible refine cA ?_ _) | (with_reducible refine cN ?_ _) | (with_reducible refine cD ?_) | exact HR266_0.out)) | (with_reducible refine cA ?_ _) | (with_reducible refine cN ?_ _) | (with_reducible refine cD ?_))); (case side4 => exact HC266_0.out); rintro e w28 ⟨rfl, hb⟩; refine ⟨_, rfl, ?_⟩; replace HO_11 := zK (Kd.N_below (zn HO_11) hb); replace HO_12 := zK (Kd.N_below (zn HO_12) hb); replace HL266_0 := zK (Kd.V_below (zv HL266_0) hb); replace HR266_0 := zK (Kd.C_below (by repeat (first | (with_reducible exact HR266_0.out) | (with_reducible refine cA ?_ _) | (with_reducible refine cN ?_ _) | (with_reducible refine cD ?_) | exact HR266_0.out)) hb); replace HB := zK (below_step (zo HB) hb); (try clear hb); (try clear hb2); (try clear hk); (try clear hi)))
          go_ret2
          exact ⟨_, by first | rfl | (simp [errW_none, errW_some] <;> rfl) | (simp [*, errW_none, errW_some] <;> rfl), by first | exact Kd.S_nil _ _ _ _ _ | exact Kd.N_nil _ _ _ _ _ | exact Kd.V_nil _ _ _ _ _ | exact Kd.Q_nil _ _ _ _ _ | exact Kd.R_nil _ _ _ _ _, zo HB⟩
        ·rw [if_neg c17] at H
         exact absurd H (by simp)
       ·rw [if_neg c16] at H
        exact absurd H (by simp)
      ·replace c15 := Bool.eq_false_iff.mpr c15
       subst c15
       have H1 : (some (x12_1, 0)) = some (r1, r2) := by rw [if_neg (show ¬ (false = true) by decide)] at H; exact H
       clear H; have H := H1; clear H1
       simp only [Option.some.injEq, Prod.mk.injEq] at H
       obtain ⟨rfl, rfl⟩ := H
       go_wp2
       go_ret2
       exact ⟨_, by first | rfl | (simp [errW_none, errW_some] <;> rfl) | (simp [*, errW_none, errW_some] <;> rfl), by (with_reducible repeat (first | apply nA | apply nN | apply nD)); exact Kd.N_mono HO_12.out (fun _ hk => hk.1), zo HB⟩
 ·rw [if_neg c6] at H
  have c6b0 : (t262 == 0) = false := beq_eq_false_iff_ne.mpr c6
  have c6b1 : (t262 != 0) = true := bne_iff_ne.mpr c6
  simp only [Option.some.injEq, Prod.mk.injEq] at H
  obtain ⟨rfl, rfl⟩ := H
  go_enter Try.func23, Try.ntmps23
  go_wp2_with (first | ((with_reducible refine zC (f := 48) rfl ?_); refine goesL_ (some 19) rfl rfl Try.func48 (by kernel_rfl) rfl #[.slice A0 l0.length c0, .slice A1 l1.length c1, .slice A2 l2.length c2] rfl (by (try simp only [List.map_toArray, List.map_cons, List.map_nil]); first | done | rfl | (simp only [List.length_drop, List.length_take]; rfl)) ?_; (with_reducible refine (sequiturref32_wrong.calls k _ _ l0 _ _ l1 _ _ l2 t262 _ ?side1 ?side2 ?side3 ?side4 ?side5 ?side6 A5.out).mono ?_); (case side1 => repeat (first | exact HR0.out | (with_reducible refine cA ?_ _) | (with_reducible refine cN ?_ _) | (with_reducible refine cD ?_))); (case side2 => exact HC0.out); (case side3 => repeat (first | exact (Kd.V_reads' HO1.out).2.2 | (with_reducible refine cA ?_ _) | (with_reducible refine cN ?_ _) | (with_reducible refine cD ?_))); (case side4 => exact (Kd.V_reads' HO1.out).2.1); (case side5 => repeat (first | exact HR2.out | (with_reducible refine cA ?_ _) | (with_reducible refine cN ?_ _) | (with_reducible refine cD ?_))); (case side6 => exact HC2.out); rintro e w29 ⟨rfl, hb⟩; refine ⟨_, rfl, ?_⟩; replace HO1 := zK (Kd.V_below (zv HO1) hb); replace HB := zK (below_step (zo HB) hb); (try clear hb); (try clear hb2); (try clear hk); (try clear hi)))
  go_ret2
  exact ⟨_, by first | rfl | (simp [errW_none, errW_some] <;> rfl) | (simp [*, errW_none, errW_some] <;> rfl), by first | exact Kd.S_nil _ _ _ _ _ | exact Kd.N_nil _ _ _ _ _ | exact Kd.V_nil _ _ _ _ _ | exact Kd.Q_nil _ _ _ _ _ | exact Kd.R_nil _ _ _ _ _, zo HB⟩

/-! ### sequiturlaw32_BoxFinds: function 4 -/
def sequiturlaw32_BoxFinds.j0 : Nat → List Int → Bool → List (List Int) → Bool → Option (Bool)
 | 0, _, _, _, _ => none
 | k + 1, x7, x8, x10, x71 => if x71 = true then (none) else (if x8 = true then (if 0 < (x10.length : Int) then ((sequiturbase_Int64s.f k x7 (rd_L6 x10 0)).bind fun t291 => (if t291 = true then ((sequiturlaw32_alive.f k).bind fun t292 => (some t292)) else (none))) else (none)) else (if (x7.length : Int) > 0 then (none) else ((sequiturlaw32_alive.f k).bind fun t293 => (some t293))))
def sequiturlaw32_BoxFinds.f (k : Nat) (l0 : List (S70)) (l1 : List Int) (l2 : List Int) : Option (Bool) := (sequiturlaw32_Few.f k l0 l1 l2 2000).bind fun t273 => (if t273 = true then ((box_First.f k l0 l1 l2).bind fun bt275 => ((sequiturref32_Find.f k l0 l1 l2 1).bind fun bt280 => ((box_Count.f k l0 l1 l2).bind fun bt284 => ((sequiturref32_Find.f k l0 l1 l2 70000).bind fun bt286 => (if bt275.2.2 = bt280.2 then (if bt284.2 = bt286.2 then (if (bt275.2.1 != ((bt280.1.length : Int) == 1)) = true then (sequiturlaw32_BoxFinds.j0 k bt275.1 bt275.2.1 bt280.1 true) else (sequiturlaw32_BoxFinds.j0 k bt275.1 bt275.2.1 bt280.1 (bt284.1 != (bt286.1.length : Int)))) else (sequiturlaw32_BoxFinds.j0 k bt275.1 bt275.2.1 bt280.1 true)) else (sequiturlaw32_BoxFinds.j0 k bt275.1 bt275.2.1 bt280.1 true)))))) else ((sequiturlaw32_alive.f k).bind fun t274 => (some t274)))
theorem sequiturlaw32_BoxFinds.mono_l : ∀ k, (∀ y0 y1 y2 y3, LeO (sequiturlaw32_BoxFinds.j0 k y0 y1 y2 y3) (sequiturlaw32_BoxFinds.j0 (k + 1) y0 y1 y2 y3))
 | 0 => fun _ _ _ _ r h => by simp [sequiturlaw32_BoxFinds.j0] at h
 | k + 1 => by
  have ih0 := sequiturlaw32_BoxFinds.mono_l k
  ·intro y0 y1 y2 y3
   unfold sequiturlaw32_BoxFinds.j0
   repeat' first
   | (with_reducible exact ih0 _ _ _ _)
   | (with_reducible exact box_Count.mono _ _ _ _)
   | (with_reducible exact box_First.mono _ _ _ _)
   | (with_reducible exact sequiturbase_Int64s.mono _ _ _)
   | (with_reducible exact sequiturlaw32_Few.mono _ _ _ _ _)
   | (with_reducible exact sequiturlaw32_alive.mono _)
   | (with_reducible exact sequiturref32_Find.mono _ _ _ _ _)
   | (with_reducible exact LeO.refl _)
   | (with_reducible exact LeO.none _)
   | (with_reducible refine LeO.ite ?_ ?_)
   | (with_reducible refine LeO.bind ?_ (fun _ => ?_))
   | exact ih0 _ _ _ _
   | exact box_Count.mono _ _ _ _
   | exact box_First.mono _ _ _ _
   | exact sequiturbase_Int64s.mono _ _ _
   | exact sequiturlaw32_Few.mono _ _ _ _ _
   | exact sequiturlaw32_alive.mono _
   | exact sequiturref32_Find.mono _ _ _ _ _
   | exact LeO.none _
   | refine LeO.ite ?_ ?_
   | refine LeO.bind ?_ (fun _ => ?_)
theorem sequiturlaw32_BoxFinds.mono : ∀ a0 a1 a2 k, LeO (sequiturlaw32_BoxFinds.f k a0 a1 a2) (sequiturlaw32_BoxFinds.f (k + 1) a0 a1 a2) := by
 intro a0 a1 a2 k
 have ih0 := sequiturlaw32_BoxFinds.mono_l k
 unfold sequiturlaw32_BoxFinds.f
 repeat' first
   | (with_reducible exact ih0 _ _ _ _)
   | (with_reducible exact box_Count.mono _ _ _ _)
   | (with_reducible exact box_First.mono _ _ _ _)
   | (with_reducible exact sequiturbase_Int64s.mono _ _ _)
   | (with_reducible exact sequiturlaw32_Few.mono _ _ _ _ _)
   | (with_reducible exact sequiturlaw32_alive.mono _)
   | (with_reducible exact sequiturref32_Find.mono _ _ _ _ _)
   | (with_reducible exact LeO.refl _)
   | (with_reducible exact LeO.none _)
   | (with_reducible refine LeO.ite ?_ ?_)
   | (with_reducible refine LeO.bind ?_ (fun _ => ?_))
   | exact ih0 _ _ _ _
   | exact box_Count.mono _ _ _ _
   | exact box_First.mono _ _ _ _
   | exact sequiturbase_Int64s.mono _ _ _
   | exact sequiturlaw32_Few.mono _ _ _ _ _
   | exact sequiturlaw32_alive.mono _
   | exact sequiturref32_Find.mono _ _ _ _ _
   | exact LeO.none _
   | refine LeO.ite ?_ ?_
   | refine LeO.bind ?_ (fun _ => ?_)
set_option maxHeartbeats 8000000 in
set_option maxRecDepth 100000 in
theorem sequiturlaw32_BoxFinds.calls (k : Nat) (A0 : Option Addr) (c0 : Nat) (l0 : List (S70)) (A1 : Option Addr) (c1 : Nat) (l1 : List Int) (A2 : Option Addr) (c2 : Nat) (l2 : List Int) (r : Bool) (w : World) (hr0 : Kd.C k70 w A0 l0.length l0) (hc0 : l0.length ≤ c0) (hr1 : Kd.C (Kd.int .i64) w A1 l1.length l1) (hc1 : l1.length ≤ c1) (hr2 : Kd.C (Kd.int .i64) w A2 l2.length l2) (hc2 : l2.length ≤ c2) (h : sequiturlaw32_BoxFinds.f k l0 l1 l2 = some r) :
  Calls Try.prog 4 #[.slice A0 l0.length c0, .slice A1 l1.length c1, .slice A2 l2.length c2] w fun e w' => e = .returned (.bool r) ∧ Below w.heap.size w w' := by
 have HR0 := zK hr0
 have HC0 := zK hc0; clear hr0 hc0
 have HR1 := zK hr1
 have HC1 := zK hc1; clear hr1 hc1
 have HR2 := zK hr2
 have HC2 := zK hc2; clear hr2 hc2
 have HB := zK (Below.refl w.heap.size w)
 have H : ((sequiturlaw32_Few.f k l0 l1 l2 2000).bind fun t273 => (if t273 = true then ((box_First.f k l0 l1 l2).bind fun bt275 => ((sequiturref32_Find.f k l0 l1 l2 1).bind fun bt280 => ((box_Count.f k l0 l1 l2).bind fun bt284 => ((sequiturref32_Find.f k l0 l1 l2 70000).bind fun bt286 => (if bt275.2.2 = bt280.2 then (if bt284.2 = bt286.2 then (if (bt275.2.1 != ((bt280.1.length : Int) == 1)) = true then (sequiturlaw32_BoxFinds.j0 k bt275.1 bt275.2.1 bt280.1 true) else (sequiturlaw32_BoxFinds.j0 k bt275.1 bt275.2.1 bt280.1 (bt284.1 != (bt286.1.length : Int)))) else (sequiturlaw32_BoxFinds.j0 k bt275.1 bt275.2.1 bt280.1 true)) else (sequiturlaw32_BoxFinds.j0 k bt275.1 bt275.2.1 bt280.1 true)))))) else ((sequiturlaw32_alive.f k).bind fun t274 => (some t274)))) = some r := h
 clear h; replace H := Option.bind_eq_some_iff.mp H
 obtain ⟨t273, A40, H⟩ := H
 replace H : (if t273 = true then ((box_First.f k l0 l1 l2).bind fun bt275 => ((sequiturref32_Find.f k l0 l1 l2 1).bind fun bt280 => ((box_Count.f k l0 l1 l2).bind fun bt284 => ((sequiturref32_Find.f k l0 l1 l2 70000).bind fun bt286 => (if bt275.2.2 = bt280.2 then (if bt284.2 = bt286.2 then (if (bt275.2.1 != ((bt280.1.length : Int) == 1)) = true then (sequiturlaw32_BoxFinds.j0 k bt275.1 bt275.2.1 bt280.1 true) else (sequiturlaw32_BoxFinds.j0 k bt275.1 bt275.2.1 bt280.1 (bt284.1 != (bt286.1.length : Int)))) else (sequiturlaw32_BoxFinds.j0 k bt275.1 bt275.2.1 bt280.1 true)) else (sequiturlaw32_BoxFinds.j0 k bt275.1 bt275.2.1 bt280.1 true)))))) else ((sequiturlaw32_alive.f k).bind fun t274 => (some t274))) = some r := H
 have A4 := zK A40; clear A40
 by_cases c5 : t273 = true
 ·subst c5
  have H1 : ((box_First.f k l0 l1 l2).bind fun bt275 => ((sequiturref32_Find.f k l0 l1 l2 1).bind fun bt280 => ((box_Count.f k l0 l1 l2).bind fun bt284 => ((sequiturref32_Find.f k l0 l1 l2 70000).bind fun bt286 => (if bt275.2.2 = bt280.2 then (if bt284.2 = bt286.2 then (if (bt275.2.1 != ((bt280.1.length : Int) == 1)) = true then (sequiturlaw32_BoxFinds.j0 k bt275.1 bt275.2.1 bt280.1 true) else (sequiturlaw32_BoxFinds.j0 k bt275.1 bt275.2.1 bt280.1 (bt284.1 != (bt286.1.length : Int)))) else (sequiturlaw32_BoxFinds.j0 k bt275.1 bt275.2.1 bt280.1 true)) else (sequiturlaw32_BoxFinds.j0 k bt275.1 bt275.2.1 bt280.1 true)))))) = some r := by rw [if_pos rfl] at H; exact H
  clear H; have H := H1
  clear H1; replace H := Option.bind_eq_some_iff.mp H
  obtain ⟨⟨t275, t276, t277⟩, A60, H⟩ := H
  replace H : ((sequiturref32_Find.f k l0 l1 l2 1).bind fun bt280 => ((box_Count.f k l0 l1 l2).bind fun bt284 => ((sequiturref32_Find.f k l0 l1 l2 70000).bind fun bt286 => (if t277 = bt280.2 then (if bt284.2 = bt286.2 then (if (t276 != ((bt280.1.length : Int) == 1)) = true then (sequiturlaw32_BoxFinds.j0 k t275 t276 bt280.1 true) else (sequiturlaw32_BoxFinds.j0 k t275 t276 bt280.1 (bt284.1 != (bt286.1.length : Int)))) else (sequiturlaw32_BoxFinds.j0 k t275 t276 bt280.1 true)) else (sequiturlaw32_BoxFinds.j0 k t275 t276 bt280.1 true))))) = some r := H
  have A6 := zK A60; clear A60; replace H := Option.bind_eq_some_iff.mp H
  obtain ⟨⟨t280, t283⟩, A70, H⟩ := H
  replace H : ((box_Count.f k l0 l1 l2).bind fun bt284 => ((sequiturref32_Find.f k l0 l1 l2 70000).bind fun bt286 => (if t277 = t283 then (if bt284.2 = bt286.2 then (if (t276 != ((t280.length : Int) == 1)) = true then (sequiturlaw32_BoxFinds.j0 k t275 t276 t280 true) else (sequiturlaw32_BoxFinds.j0 k t275 t276 t280 (bt284.1 != (bt286.1.length : Int)))) else (sequiturlaw32_BoxFinds.j0 k t275 t276 t280 true)) else (sequiturlaw32_BoxFinds.j0 k t275 t276 t280 true)))) = some r := H
  have A7 := zK A70; clear A70; replace H := Option.bind_eq_some_iff.mp H
  obtain ⟨⟨t284, t285⟩, A80, H⟩ := H
  replace H : ((sequiturref32_Find.f k l0 l1 l2 70000).bind fun bt286 => (if t277 = t283 then (if t285 = bt286.2 then (if (t276 != ((t280.length : Int) == 1)) = true then (sequiturlaw32_BoxFinds.j0 k t275 t276 t280 true) else (sequiturlaw32_BoxFinds.j0 k t275 t276 t280 (t284 != (bt286.1.length : Int)))) else (sequiturlaw32_BoxFinds.j0 k t275 t276 t280 true)) else (sequiturlaw32_BoxFinds.j0 k t275 t276 t280 true))) = some r := H
  have A8 := zK A80; clear A80; replace H := Option.bind_eq_some_iff.mp H
  obtain ⟨⟨t286, t289⟩, A90, H⟩ := H
  replace H : (if t277 = t283 then (if t285 = t289 then (if (t276 != ((t280.length : Int) == 1)) = true then (sequiturlaw32_BoxFinds.j0 k t275 t276 t280 true) else (sequiturlaw32_BoxFinds.j0 k t275 t276 t280 (t284 != (t286.length : Int)))) else (sequiturlaw32_BoxFinds.j0 k t275 t276 t280 true)) else (sequiturlaw32_BoxFinds.j0 k t275 t276 t280 true)) = some r := H
  have A9 := zK A90; clear A90
  have HC10 := zK H; clear H
  go_enter Try.func4, Try.ntmps4
  go_upto_region 7 with (first | ((with_reducible refine zC (f := 20) rfl ?_); refine goesL_ (some 19) rfl rfl Try.func20 (by kernel_rfl) rfl #[.slice A0 l0.length c0, .slice A1 l1.length c1, .slice A2 l2.length c2, .int .i64 2000] rfl (by (try simp only [List.map_toArray, List.map_cons, List.map_nil]); first | done | rfl | (simp only [List.length_drop, List.length_take]; rfl)) ?_; (with_reducible refine (sequiturlaw32_Few.calls k _ _ l0 _ _ l1 _ _ l2 2000 true _ ?side1 ?side2 ?side3 ?side4 ?side5 ?side6 A4.out).mono ?_); (case side1 => repeat (first | exact HR0.out | (with_reducible refine cA ?_ _) | (with_reducible refine cN ?_ _) | (with_reducible refine cD ?_))); (case side2 => exact HC0.out); (case side3 => repeat (first | exact HR1.out | (with_reducible refine cA ?_ _) | (with_reducible refine cN ?_ _) | (with_reducible refine cD ?_))); (case side4 => exact HC1.out); (case side5 => repeat (first | exact HR2.out | (with_reducible refine cA ?_ _) | (with_reducible refine cN ?_ _) | (with_reducible refine cD ?_))); (case side6 => exact HC2.out); rintro e w11 ⟨rfl, hb⟩; refine ⟨_, rfl, ?_⟩; replace HB := zK (below_step (zo HB) hb); (try clear hb); (try clear hb2); (try clear hk); (try clear hi)) | ((with_reducible refine zC (f := 22) rfl ?_); refine goesL_ (some 26) rfl rfl Try.func22 (by kernel_rfl) rfl #[.slice A0 l0.length c0, .slice A1 l1.length c1, .slice A2 l2.length c2] rfl (by (try simp only [List.map_toArray, List.map_cons, List.map_nil]); first | done | rfl | (simp only [List.length_drop, List.length_take]; rfl)) ?_; (with_reducible refine (box_First.calls k _ _ l0 _ _ l1 _ _ l2 t275 t276 t277 _ ?side1 ?side2 ?side3 ?side4 ?side5 ?side6 A6.out).mono ?_); (case side1 => repeat (first | exact (Kd.C_below HR0.out HB.out) | (with_reducible refine cA ?_ _) | (with_reducible refine cN ?_ _) | (with_reducible refine cD ?_))); (case side2 => exact HC0.out); (case side3 => repeat (first | exact (Kd.C_below HR1.out HB.out) | (with_reducible refine cA ?_ _) | (with_reducible refine cN ?_ _) | (with_reducible refine cD ?_))); (case side4 => exact HC1.out); (case side5 => repeat (first | exact (Kd.C_below HR2.out HB.out) | (with_reducible refine cA ?_ _) | (with_reducible refine cN ?_ _) | (with_reducible refine cD ?_))); (case side6 => exact HC2.out); rintro e w12 ⟨v278, rfl, ho0, hb⟩; refine ⟨_, rfl, ?_⟩; have HO279 := zK (Kd.R_lower ho0 (below_size (zo HB))); replace HB := zK (below_step (zo HB) hb); (try clear hb); (try clear hb2); (try clear hk); (try clear hi); (try clear ho0)) | ((with_reducible refine zC (f := 23) rfl ?_); refine goesL_ (some 34) rfl rfl Try.func23 (by kernel_rfl) rfl #[.slice A0 l0.length c0, .slice A1 l1.length c1, .slice A2 l2.length c2, .int .i64 1] rfl (by (try simp only [List.map_toArray, List.map_cons, List.map_nil]); first | done | rfl | (simp only [List.length_drop, List.length_take]; rfl)) ?_; (with_reducible refine (sequiturref32_Find.calls k _ _ l0 (fun k_ => k_ < w.heap.size) _ _ l1 _ _ l2 1 t280 t283 _ ?side1 ?side2 ?side3 ?side4 ?side5 A7.out).mono ?_); (case side1 => repeat (first | exact (Kd.C_below HR0.out HB.out) | (with_reducible refine cA ?_ _) | (with_reducible refine cN ?_ _) | (with_reducible refine cD ?_))); (case side2 => exact HC0.out); (case side3 => exact Kd.V_mk HC1.out (Kd.F_below (Kd.C_F (Kd.heap_int .i64) HR1.out) (zo HB))); (case side4 => repeat (first | exact (Kd.C_below HR2.out HB.out) | (with_reducible refine cA ?_ _) | (with_reducible refine cN ?_ _) | (with_reducible refine cD ?_))); (case side5 => exact HC2.out); rintro e w13 ⟨v281, rfl, ho0, hb⟩; refine ⟨_, rfl, ?_⟩; have HO282 := zK (Kd.N_lower (Kd.N_mono (ok' := fun k_ => some k_ ≠ (v278 : Value).ownBlock) ho0 (fun k_ hk_ => Or.elim hk_ (fun hs_ => fun e_ => Nat.not_le.2 hs_ (Kd.R_base HO279.out k_ e_.symm)) (fun hn_ => (Kd.fresh' (Kd.R_lt (zr HO279)) k_ hn_)))) (below_size (zo HB))); replace HO279 := zK (Kd.R_below (zr HO279) hb); replace HB := zK (below_step (zo HB) hb); (try clear hb); (try clear hb2); (try clear hk); (try clear hi); (try clear ho0)) | ((with_reducible refine zC (f := 24) rfl ?_); refine goesL_ (some 41) rfl rfl Try.func24 (by kernel_rfl) rfl #[.slice A0 l0.length c0, .slice A1 l1.length c1, .slice A2 l2.length c2] rfl (by (try simp only [List.map_toArray, List.map_cons, List.map_nil]); first | done | rfl | (simp only [List.length_drop, List.length_take]; rfl)) ?_; (with_reducible refine (box_Count.calls k _ _ l0 _ _ l1 _ _ l2 t284 t285 _ ?side1 ?side2 ?side3 ?side4 ?side5 ?side6 A8.out).mono ?_); (case side1 => repeat (first | exact (Kd.C_below HR0.out HB.out) | (with_reducible refine cA ?_ _) | (with_reducible refine cN ?_ _) | (with_reducible refine cD ?_))); (case side2 => exact HC0.out); (case side3 => repeat (first | exact (Kd.C_below HR1.out HB.out) | (with_reducible refine cA ?_ _) | (with_reducible refine cN ?_ _) | (with_reducible refine cD ?_))); (case side4 => exact HC1.out); (case side5 => repeat (first | exact (Kd.C_below HR2.out HB.out) | (with_reducible refine cA ?_ _) | (with_reducible refine cN ?_ _) | (with_reducible refine cD ?_))); (case side6 => exact HC2.out); rintro e w14 ⟨rfl, hb⟩; refine ⟨_, rfl, ?_⟩; replace HO279 := zK (Kd.R_below (zr HO279) hb); replace HO282 := zK (Kd.N_below (zn HO282) hb); replace HB := zK (below_step (zo HB) hb); (try clear hb); (try clear hb2); (try clear hk); (try clear hi)) | ((with_reducible refine zC (f := 23) rfl ?_); refine goesL_ (some 48) rfl rfl Try.func23 (by kernel_rfl) rfl #[.slice A0 l0.length c0, .slice A1 l1.length c1, .slice A2 l2.length c2, .int .i64 70000] rfl (by (try simp only [List.map_toArray, List.map_cons, List.map_nil]); first | done | rfl | (simp only [List.length_drop, List.length_take]; rfl)) ?_; (with_reducible refine (sequiturref32_Find.calls k _ _ l0 (fun k_ => k_ < w.heap.size) _ _ l1 _ _ l2 70000 t286 t289 _ ?side1 ?side2 ?side3 ?side4 ?side5 A9.out).mono ?_); (case side1 => repeat (first | exact (Kd.C_below HR0.out HB.out) | (with_reducible refine cA ?_ _) | (with_reducible refine cN ?_ _) | (with_reducible refine cD ?_))); (case side2 => exact HC0.out); (case side3 => exact Kd.V_mk HC1.out (Kd.F_below (Kd.C_F (Kd.heap_int .i64) HR1.out) (zo HB))); (case side4 => repeat (first | exact (Kd.C_below HR2.out HB.out) | (with_reducible refine cA ?_ _) | (with_reducible refine cN ?_ _) | (with_reducible refine cD ?_))); (case side5 => exact HC2.out); rintro e w15 ⟨v287, rfl, ho0, hb⟩; refine ⟨_, rfl, ?_⟩; have HO288 := zK (Kd.N_lower (Kd.N_mono (ok' := fun k_ => some k_ ≠ (v278 : Value).ownBlock ∧ some k_ ≠ (v281 : Value).ownBlock) ho0 (fun k_ hk_ => ⟨Or.elim hk_ (fun hs_ => fun e_ => Nat.not_le.2 hs_ (Kd.R_base HO279.out k_ e_.symm)) (fun hn_ => (Kd.fresh' (Kd.R_lt (zr HO279)) k_ hn_)), Or.elim hk_ (fun hs_ => fun e_ => Nat.not_le.2 hs_ (Kd.N_base HO282.out k_ e_.symm)) (fun hn_ => (Kd.fresh' (Kd.N_lt (zn HO282)) k_ hn_))⟩)) (below_size (zo HB))); replace HO279 := zK (Kd.R_below (zr HO279) hb); replace HO282 := zK (Kd.N_elder' (zn HO282) (Kd.N_base ho0) hb); replace HB := zK (below_step (zo HB) hb); (try clear hb); (try clear hb2); (try clear hk); (try clear hi); (try clear ho0)))
  (try simp only [Act.put, List.setIfInBounds_toArray, List.set_cons_zero, List.set_cons_succ])
  go_cut [71] (fun v71 wc => ∃ (kq : Nat) (x71_9 : Bool), v71 = .bool x71_9 ∧ Aside0 (sequiturlaw32_BoxFinds.j0 kq t275 t276 t280 x71_9 = some r) ∧ Aside0 (kq ≤ k) ∧ Aside0 (Kd.R (Kd.int .i64) 2 wc w.heap.size (fun _ => True) v278 t275) ∧ Aside0 (Kd.N (Kd.slice 2 (Kd.int .i64)) 33 wc w.heap.size (fun k_ => some k_ ≠ (v278 : Value).ownBlock) v281 t280) ∧ Aside0 (Below w.heap.size w wc))
  case first =>
   have H := HC10.out; clear HC10
   by_cases c16 : t277 = t283
   ·rw [if_pos c16] at H
    have c16b0 : (t277 == t283) = true := beq_iff_eq.mpr c16
    have c16b1 : (t277 != t283) = false := bne_eq_false_iff_eq.mpr c16
    clear c16
    (first | rw [c16b0] | (simp only [i64_w, i32_w]; rw [c16b0]) | skip)
    by_cases c17 : t285 = t289
    ·rw [if_pos c17] at H
     have c17b0 : (t285 == t289) = true := beq_iff_eq.mpr c17
     have c17b1 : (t285 != t289) = false := bne_eq_false_iff_eq.mpr c17
     clear c17
     by_cases c18 : (t276 != ((t280.length : Int) == 1)) = true
     ·rw [if_pos c18] at H
      have c18b0 : (t276 != ((t280.length : Int) == 1)) = true := c18
      (try (have c18b1 : decide (t276 = ((t280.length : Int) == 1)) = false := by simpa using c18))
      (try (have c18b2 : (t276 == ((t280.length : Int) == 1)) = false := by simpa using c18))
      (try (have c18b3 : ¬ (t276 = ((t280.length : Int) == 1)) := by simpa using c18))
      clear c18
      have H' := zK H; clear H
      obtain ⟨Ao19, co19, eo19⟩ := Kd.N_slice HO282.out
      subst eo19
      go_wp2
      go_meet
      case rel => exact ⟨_, (true), (by first | rfl | (simp; done) | (simp [*]; done)), H', ⟨by first | omega | exact Nat.le_refl _⟩, ⟨zr HO279⟩, ⟨by (with_reducible repeat (first | apply nA | apply nN | apply nD)); exact Kd.N_mono HO282.out (fun _ hk => hk.1)⟩, ⟨zo HB⟩⟩
     ·rw [if_neg c18] at H
      have c18b0 : (t276 != ((t280.length : Int) == 1)) = false := by simpa using c18
      (try (have c18b1 : decide (t276 = ((t280.length : Int) == 1)) = true := by simpa using c18))
      (try (have c18b2 : (t276 == ((t280.length : Int) == 1)) = true := by simpa using c18))
      clear c18
      have H' := zK H; clear H
      obtain ⟨Ao20, co20, eo20⟩ := Kd.N_slice HO282.out
      subst eo20
      obtain ⟨Ao21, co21, eo21⟩ := Kd.N_slice HO288.out
      subst eo21
      go_wp2
      go_meet
      case rel => exact ⟨_, ((t284 != (t286.length : Int))), (by first | rfl | (simp; done) | (simp [*]; done)), H', ⟨by first | omega | exact Nat.le_refl _⟩, ⟨zr HO279⟩, ⟨by (with_reducible repeat (first | apply nA | apply nN | apply nD)); exact Kd.N_mono HO282.out (fun _ hk => hk.1)⟩, ⟨zo HB⟩⟩
    ·rw [if_neg c17] at H
     have c17b0 : (t285 == t289) = false := beq_eq_false_iff_ne.mpr c17
     have c17b1 : (t285 != t289) = true := bne_iff_ne.mpr c17
     have H' := zK H; clear H
     go_wp2
     go_meet
     case rel => exact ⟨_, (true), (by first | rfl | (simp; done) | (simp [*]; done)), H', ⟨by first | omega | exact Nat.le_refl _⟩, ⟨zr HO279⟩, ⟨by (with_reducible repeat (first | apply nA | apply nN | apply nD)); exact Kd.N_mono HO282.out (fun _ hk => hk.1)⟩, ⟨zo HB⟩⟩
   ·rw [if_neg c16] at H
    have c16b0 : (t277 == t283) = false := beq_eq_false_iff_ne.mpr c16
    have c16b1 : (t277 != t283) = true := bne_iff_ne.mpr c16
    (first | rw [c16b0] | (simp only [i64_w, i32_w]; rw [c16b0]) | skip)
    have H' := zK H; clear H
    go_wp2
    go_meet
    case rel => exact ⟨_, (true), (by first | rfl | (simp; done) | (simp [*]; done)), H', ⟨by first | omega | exact Nat.le_refl _⟩, ⟨zr HO279⟩, ⟨by (with_reducible repeat (first | apply nA | apply nN | apply nD)); exact Kd.N_mono HO282.out (fun _ hk => hk.1)⟩, ⟨zo HB⟩⟩
  case rest =>
   clear HC10; try clear c1; try clear c2; try clear p2
   try clear c4; try clear c5; try clear c16; try clear c16b0
   try clear c16b1; try clear c17; try clear c17b0; try clear c17b1
   try clear c18; try clear c18b0; try clear c18b1; try clear c18b2; try clear c20
   obtain ⟨kq, x71_9, rfl, HA, HJ9, HO_7, HO_10, HB⟩ := hcut
   cases kq with
   | zero => exact absurd HA.out (by simp [sequiturlaw32_BoxFinds.j0])
   | succ kj9 =>
    have H := HA.out; clear HA
    simp only [sequiturlaw32_BoxFinds.j0] at H
    by_cases c22 : x71_9 = true
    ·subst c22
     have H1 : (none) = some r := by rw [if_pos rfl] at H; exact H
     clear H
     have H := H1; clear H1
     exact absurd H (by simp)
    ·replace c22 := Bool.eq_false_iff.mpr c22
     subst c22
     have H1 : (if t276 = true then (if 0 < (t280.length : Int) then ((sequiturbase_Int64s.f kj9 t275 (rd_L6 t280 0)).bind fun t291 => (if t291 = true then ((sequiturlaw32_alive.f kj9).bind fun t292 => (some t292)) else (none))) else (none)) else (if (t275.length : Int) > 0 then (none) else ((sequiturlaw32_alive.f kj9).bind fun t293 => (some t293)))) = some r := by rw [if_neg (show ¬ (false = true) by decide)] at H; exact H
     clear H; have H := H1; clear H1
     by_cases c23 : t276 = true
     ·subst c23
      have H1 : (if 0 < (t280.length : Int) then ((sequiturbase_Int64s.f kj9 t275 (rd_L6 t280 0)).bind fun t291 => (if t291 = true then ((sequiturlaw32_alive.f kj9).bind fun t292 => (some t292)) else (none))) else (none)) = some r := by rw [if_pos rfl] at H; exact H
      clear H; have H := H1; clear H1
      by_cases c24 : 0 < (t280.length : Int)
      ·rw [if_pos c24] at H
       have c24b0 : decide (0 < (t280.length : Int)) = true := decide_eq_true c24
       have c24b1 : decide (0 < t280.length) = true := decide_eq_true (by omega)
       clear c24; replace H := Option.bind_eq_some_iff.mp H
       obtain ⟨t291, A250, H⟩ := H
       replace H : (if t291 = true then ((sequiturlaw32_alive.f kj9).bind fun t292 => (some t292)) else (none)) = some r := H
       have A25 := zK A250; clear A250
       by_cases c26 : t291 = true
       ·subst c26
        have H1 : ((sequiturlaw32_alive.f kj9).bind fun t292 => (some t292)) = some r := by rw [if_pos rfl] at H; exact H
        clear H; have H := H1
        clear H1; replace H := Option.bind_eq_some_iff.mp H
        obtain ⟨t292, A270, H⟩ := H; replace H : (some t292) = some r := H
        have A27 := zK A270; clear A270
        obtain rfl := Option.some.inj H
        obtain ⟨Ao28, co28, eo28⟩ := Kd.N_slice HO_10.out
        subst eo28
        have p290 : 0 ≤ (0 : Int) := (by omega)
        have q290 : 0 < (t280.length : Int) := of_decide_eq_true (by first | (with_reducible assumption) | assumption)
        obtain ⟨ad290, A290_0, c290_0, e290, hx290_0, hl290_0, hi290_0⟩ := at_L6 (Kd.N_reads' HO_10.out).2.2 0 p290 q290
        cases e290
        obtain ⟨ce290, hce290, hMe290, hcc290⟩ := Kd.N_get HO_10.out [] 0 p290 (by first | exact q290 | exact of_decide_eq_true (by first | (with_reducible assumption) | assumption) | (have e_ := (Kd.N_reads' HO_10.out).1; omega))
        obtain ⟨ua290_0, uc290_0, rfl, ul290_0, ge290_0⟩ := Kd.FK_slice_open hMe290
        have hv290_0 := hcc290 0 _ rfl
        rw [Nat.add_zero, show ((Kd.slice 2 (Kd.int .i64))).sz = 1 from rfl, Nat.mul_one] at hv290_0
        replace hv290_0 := Option.some.inj (hv290_0.symm.trans hx290_0)
        injection hv290_0 with hva_ hvn_ hvc_
        rw [hva_] at ge290_0
        rw [hvc_] at ul290_0
        have HL290_0 := zK (show Kd.V (Kd.int .i64) 2 _ w.heap.size _ _ (rd_L6 t280 0) from Kd.V_mk ul290_0 ge290_0)
        clear hva_ hvn_ hvc_ ge290_0 ul290_0 hcc290 hce290
        have qi290 : (0 < t280.length) = True := eq_true (by omega)
        (try rw [show ((0 : Int)).toNat = 0 from rfl] at hx290_0)
        (try rw [Addr.add_zero'] at hx290_0)
        have HR290_0 := zK hi290_0
        have HC290_0 := zK hl290_0; clear hi290_0 hl290_0
        replace p290 := eq_true p290
        replace q290 := eq_true q290
        obtain ⟨Ao29, co29, eo29⟩ := Kd.R_slice HO_7.out
        subst eo29
        go_wp2_with (first | (go_at_call 25; (with_reducible refine (sequiturbase_Int64s.calls kj9 _ _ t275 _ _ (rd_L6 t280 0) true _ ?side1 ?side2 ?side3 ?side4 A25.out).mono ?_); (case side1 => repeat (first | exact (Kd.R_reads' HO_7.out).2.2 | (with_reducible refine cA ?_ _) | (with_reducible refine cN ?_ _) | (with_reducible refine cD ?_))); (case side2 => exact (Kd.R_reads' HO_7.out).2.1); (case side3 => repeat (first | exact (by repeat (first | (with_reducible exact HR290_0.out) | (with_reducible refine cA ?_ _) | (with_reducible refine cN ?_ _) | (with_reducible refine cD ?_) | exact HR290_0.out)) | (with_reducible refine cA ?_ _) | (with_reducible refine cN ?_ _) | (with_reducible refine cD ?_))); (case side4 => exact HC290_0.out); rintro e w' ⟨rfl, ⟨nd, rfl⟩⟩) | ((with_reducible refine zC (f := 21) rfl ?_); refine goesL_ (some 90) rfl rfl Try.func21 (by kernel_rfl) rfl #[] rfl (by (try simp only [List.map_toArray, List.map_cons, List.map_nil]); first | done | rfl | (simp only [List.length_drop, List.length_take]; rfl)) ?_; (with_reducible refine (sequiturlaw32_alive.calls kj9  t292 _ A27.out).mono ?_); rintro e w30 ⟨rfl, hb⟩; refine ⟨_, rfl, ?_⟩; replace HO_7 := zK (Kd.R_below (zr HO_7) hb); replace HO_10 := zK (Kd.N_below (zn HO_10) hb); replace HL290_0 := zK (Kd.V_below (zv HL290_0) hb); replace HR290_0 := zK (Kd.C_below (by repeat (first | (with_reducible exact HR290_0.out) | (with_reducible refine cA ?_ _) | (with_reducible refine cN ?_ _) | (with_reducible refine cD ?_) | exact HR290_0.out)) hb); replace HB := zK (below_step (zo HB) hb); (try clear hb); (try clear hb2); (try clear hk); (try clear hi)))
        go_ret
        exact ⟨by first | rfl | (simp [errW_none, errW_some] <;> rfl) | (simp [*, errW_none, errW_some] <;> rfl), zo HB⟩
       ·replace c26 := Bool.eq_false_iff.mpr c26
        subst c26
        have H1 : (none) = some r := by rw [if_neg (show ¬ (false = true) by decide)] at H; exact H
        clear H; have H := H1; clear H1
        exact absurd H (by simp)
      ·rw [if_neg c24] at H
       exact absurd H (by simp)
     ·replace c23 := Bool.eq_false_iff.mpr c23
      subst c23
      have H1 : (if (t275.length : Int) > 0 then (none) else ((sequiturlaw32_alive.f kj9).bind fun t293 => (some t293))) = some r := by rw [if_neg (show ¬ (false = true) by decide)] at H; exact H
      clear H; have H := H1; clear H1
      by_cases c31 : (t275.length : Int) > 0
      ·rw [if_pos c31] at H
       exact absurd H (by simp)
      ·rw [if_neg c31] at H
       have c31b0 : decide (0 < (t275.length : Int)) = false := decide_eq_false c31
       have c31b1 : decide (0 < t275.length) = false := decide_eq_false (by omega)
       clear c31; replace H := Option.bind_eq_some_iff.mp H
       obtain ⟨t293, A320, H⟩ := H; replace H : (some t293) = some r := H
       have A32 := zK A320; clear A320
       obtain rfl := Option.some.inj H
       obtain ⟨Ao33, co33, eo33⟩ := Kd.R_slice HO_7.out
       subst eo33
       go_wp2_with (first | ((with_reducible refine zC (f := 21) rfl ?_); refine goesL_ (some 90) rfl rfl Try.func21 (by kernel_rfl) rfl #[] rfl (by (try simp only [List.map_toArray, List.map_cons, List.map_nil]); first | done | rfl | (simp only [List.length_drop, List.length_take]; rfl)) ?_; (with_reducible refine (sequiturlaw32_alive.calls kj9  t293 _ A32.out).mono ?_); rintro e w34 ⟨rfl, hb⟩; refine ⟨_, rfl, ?_⟩; replace HO_7 := zK (Kd.R_below (zr HO_7) hb); replace HO_10 := zK (Kd.N_below (zn HO_10) hb); replace HB := zK (below_step (zo HB) hb); (try clear hb); (try clear hb2); (try clear hk); (try clear hi)))
       go_ret
       exact ⟨by first | rfl | (simp [errW_none, errW_some] <;> rfl) | (simp [*, errW_none, errW_some] <;> rfl), zo HB⟩
 ·replace c5 := Bool.eq_false_iff.mpr c5
  subst c5
  have H1 : ((sequiturlaw32_alive.f k).bind fun t274 => (some t274)) = some r := by rw [if_neg (show ¬ (false = true) by decide)] at H; exact H
  clear H; have H := H1
  clear H1; replace H := Option.bind_eq_some_iff.mp H
  obtain ⟨t274, A350, H⟩ := H; replace H : (some t274) = some r := H
  have A35 := zK A350; clear A350
  obtain rfl := Option.some.inj H
  go_enter Try.func4, Try.ntmps4
  go_wp2_with (first | ((with_reducible refine zC (f := 20) rfl ?_); refine goesL_ (some 19) rfl rfl Try.func20 (by kernel_rfl) rfl #[.slice A0 l0.length c0, .slice A1 l1.length c1, .slice A2 l2.length c2, .int .i64 2000] rfl (by (try simp only [List.map_toArray, List.map_cons, List.map_nil]); first | done | rfl | (simp only [List.length_drop, List.length_take]; rfl)) ?_; (with_reducible refine (sequiturlaw32_Few.calls k _ _ l0 _ _ l1 _ _ l2 2000 false _ ?side1 ?side2 ?side3 ?side4 ?side5 ?side6 A4.out).mono ?_); (case side1 => repeat (first | exact HR0.out | (with_reducible refine cA ?_ _) | (with_reducible refine cN ?_ _) | (with_reducible refine cD ?_))); (case side2 => exact HC0.out); (case side3 => repeat (first | exact HR1.out | (with_reducible refine cA ?_ _) | (with_reducible refine cN ?_ _) | (with_reducible refine cD ?_))); (case side4 => exact HC1.out); (case side5 => repeat (first | exact HR2.out | (with_reducible refine cA ?_ _) | (with_reducible refine cN ?_ _) | (with_reducible refine cD ?_))); (case side6 => exact HC2.out); rintro e w36 ⟨rfl, hb⟩; refine ⟨_, rfl, ?_⟩; replace HB := zK (below_step (zo HB) hb); (try clear hb); (try clear hb2); (try clear hk); (try clear hi)) | ((with_reducible refine zC (f := 21) rfl ?_); refine goesL_ (some 21) rfl rfl Try.func21 (by kernel_rfl) rfl #[] rfl (by (try simp only [List.map_toArray, List.map_cons, List.map_nil]); first | done | rfl | (simp only [List.length_drop, List.length_take]; rfl)) ?_; (with_reducible refine (sequiturlaw32_alive.calls k  t274 _ A35.out).mono ?_); rintro e w37 ⟨rfl, hb⟩; refine ⟨_, rfl, ?_⟩; replace HB := zK (below_step (zo HB) hb); (try clear hb); (try clear hb2); (try clear hk); (try clear hi)))
  go_ret
  exact ⟨by first | rfl | (simp [errW_none, errW_some] <;> rfl) | (simp [*, errW_none, errW_some] <;> rfl), zo HB⟩

end Go.Proofs.Ytkfbfgkdabljiaa.PBoxFinds
