/- What the call of each function that the law reaches comes to: it answers as the plain function of the same name does, wherever that one answers; and the law itself out of its plain form. Written by a program of this session (an extended copy of the printer); no condition but what stands in each theorem. -/
import Derived.Test.YtkfbfgkdabljiaaPBoxFirstx0
import Derived.Test.YtkfbfgkdabljiaaPBoxFirstx1
import Derived.Test.YtkfbfgkdabljiaaPBoxFirstx3
import Derived.Test.YtkfbfgkdabljiaaPBoxFirstx4
namespace Go.Proofs.Ytkfbfgkdabljiaa.PBoxFirst
open Go.RowKit Go.Proofs.YtkfbfgkdabljiaaW.PrintWords Go.Proofs.YtkfbfgkdabljiaaW.PrintLast Go.Proofs.YtkfbfgkdabljiaaW.PrintMore
open Go.Proofs.YtkfbfgkdabljiaaW.PrintWords renaming blk_drewN → zN, below_alloc → yA, pw_below_drewN → yN, below_drew1 → yD, below_set → yS, gate_callee → zC, gate_guard → zG
open Go.Proofs.YtkfbfgkdabljiaaW.PrintWords.Kd renaming N_alloc → nA, N_drewN → nN, N_drew → nD, C_alloc → cA, C_drewN → cN, C_drew → cD
open Go.Proofs.YtkfbfgkdabljiaaW.PrintWords.Aside0 renaming mk → zK
attribute [local go_sem] max2_int min2_int max_two min_two max_three min_three max_four min_four   -- for this text's walks alone
set_option linter.unusedVariables false
set_option linter.unusedSimpArgs false

/-! ### box_Count: function 24, by hand -/
/-! ### box.Count -/
/-- The points from x on, one after another: at how many all hold. -/
def box_Count.l0 : Nat → List S70 → List Int → List Int → List Int → Int → Int → Int → Option (Int × Int)
 | 0, _, _, _, _, _, _, _ => none
 | k + 1, l, lo, hi, x, n, j, c => if j < n then ((ineq_All.f k l x).bind fun r => if r.2 = 0 then ((box_step.f k lo hi x).bind fun y => box_Count.l0 k l lo hi y n (j + 1) (if r.1 < 0 then wrap64 (c + 1) else c)) else some (0, r.2)) else some (c, 0)
def box_Count.f (k : Nat) (l0 : List S70) (l1 l2 : List Int) : Option (Int × Int) :=
 (box_check.f k l0 l1 l2).bind fun e => if e = 0 then ((box_size.f k l1 l2).bind fun s => if s.2 = 0 then (if s.1 ≤ 65536 then (if l1.length < 17592186044416 then (if l2.length < 17592186044416 then box_Count.l0 k l0 l1 l2 l1 s.1 0 0 else none) else none) else none) else none) else some (0, e)
theorem box_Count.mono_l : ∀ k y0 y1 y2 y3 y4 y5 y6, LeO (box_Count.l0 k y0 y1 y2 y3 y4 y5 y6) (box_Count.l0 (k + 1) y0 y1 y2 y3 y4 y5 y6)
 | 0, _, _, _, _, _, _, _ => LeO.none _
 | k + 1, y0, y1, y2, y3, y4, y5, y6 => by
   have ih0 := box_Count.mono_l k
   unfold box_Count.l0
   repeat' first
    | (with_reducible exact ih0 _ _ _ _ _ _ _)
    | (with_reducible exact ineq_All.mono _ _ _)
    | (with_reducible exact box_step.mono _ _ _ _)
    | (with_reducible exact LeO.refl _)
    | (with_reducible exact LeO.none _)
    | (with_reducible refine LeO.ite ?_ ?_)
    | (with_reducible refine LeO.bind ?_ (fun _ => ?_))
theorem box_Count.mono : ∀ a0 a1 a2 k, LeO (box_Count.f k a0 a1 a2) (box_Count.f (k + 1) a0 a1 a2) := by
 intro a0 a1 a2 k
 have ih0 := box_Count.mono_l k
 unfold box_Count.f
 repeat' first
  | (with_reducible exact ih0 _ _ _ _ _ _ _)
  | (with_reducible exact box_check.mono _ _ _ _)
  | (with_reducible exact box_size.mono _ _ _)
  | (with_reducible exact LeO.refl _)
  | (with_reducible exact LeO.none _)
  | (with_reducible refine LeO.ite ?_ ?_)
  | (with_reducible refine LeO.bind ?_ (fun _ => ?_))
section rounds
attribute [local go_sem] Oper.semAt_some
set_option maxHeartbeats 8000000 in
set_option maxRecDepth 100000 in
theorem box_Count.calls (k : Nat) (A0 : Option Addr) (c0 : Nat) (l0 : List (S70)) (A1 : Option Addr) (c1 : Nat) (l1 : List Int) (A2 : Option Addr) (c2 : Nat) (l2 : List Int) (r1 : Int) (r2 : Int) (w : World) (hr0 : Kd.C k70 w A0 l0.length l0) (hc0 : l0.length ≤ c0) (hr1 : Kd.C (Kd.int .i64) w A1 l1.length l1) (hc1 : l1.length ≤ c1) (hr2 : Kd.C (Kd.int .i64) w A2 l2.length l2) (hc2 : l2.length ≤ c2) (h : box_Count.f k l0 l1 l2 = some (r1, r2)) :
  Calls Try.prog 24 #[.slice A0 l0.length c0, .slice A1 l1.length c1, .slice A2 l2.length c2] w fun e w' => e = .returned (.tuple #[.int .i64 r1, .int .i64 r2]) ∧ Below w.heap.size w w' := by
 have HR0 := zK hr0
 have HC0 := zK hc0
 have HR1 := zK hr1
 have HC1 := zK hc1
 have HR2 := zK hr2
 have HC2 := zK hc2; clear hr0 hc0 hr1 hc1 hr2 hc2
 unfold box_Count.f at h
 obtain ⟨e, hE, h⟩ := Option.bind_eq_some_iff.1 h
 have HE := zK hE; clear hE
 by_cases he : e = 0
 ·rw [if_pos he] at h
  subst he
  obtain ⟨⟨n, e2⟩, hS, h⟩ := Option.bind_eq_some_iff.1 h
  simp only at h
  by_cases hg : e2 = 0 ∧ n ≤ 65536 ∧ l1.length < 17592186044416 ∧ l2.length < 17592186044416
  ·obtain ⟨rfl, hn, hl1, hl2⟩ := hg
   rw [if_pos rfl, if_pos hn, if_pos hl1, if_pos hl2] at h
   have HS := zK hS
   have HN := zK hn
   have HL1 := zK hl1
   have HL2 := zK hl2; have H := zK h; clear hS hn hl1 hl2 h
   refine calls_marks Try.func24 rfl ?_
   simp only [Try.ntmps24, List.size_toArray, List.length_cons, List.length_nil, Nat.reduceAdd, Nat.reduceSub, Array.replicate_succ, Array.replicate_zero, List.push_toArray, List.append_toArray, List.nil_append, List.cons_append]
   go_wp2_with (first
    | ((with_reducible refine gate_dst (N := 3) rfl ?_); refine box_event ?hg (N := 3) ?hd (cs := #[.slice A0 l0.length c0]) (t := 22) ?hr ?_; (case hd => rfl); (case hg => rfl); (case hr => first | (go_simp; done) | (go_simp; rfl)); intro b3 hg_ w1 hbox_ hb_; have BB3 := zK hbox_; have HB1 := zK hb_; have G3 := zK hg_; clear hg_ hbox_ hb_)
    | ((with_reducible refine gate_dst (N := 6) rfl ?_); refine box_event ?hg (N := 6) ?hd (cs := #[.int .i64 0]) (t := 3) ?hr ?_; (case hd => rfl); (case hg => rfl); (case hr => first | (go_simp; done) | (go_simp; rfl)); intro b6 hg_ w2 hbox_ hb_; have BB6 := zK hbox_; have HB2 := zK hb_; have G6 := zK hg_; clear hg_ hbox_ hb_)
    | ((with_reducible refine gate_dst (N := 7) rfl ?_); refine box_event ?hg (N := 7) ?hd (cs := #[.int .i64 0]) (t := 26) ?hr ?_; (case hd => rfl); (case hg => rfl); (case hr => first | (go_simp; done) | (go_simp; rfl)); intro b7 hg_ w3 hbox_ hb_; have BB7 := zK hbox_; have HB3 := zK hb_; have G7 := zK hg_; clear hg_ hbox_ hb_; have hcl := (blk_cell (blk_below (blk_below BB3.out HB2.out) HB3.out) 0).trans rfl)
    | (go_at_call 47; refine (box_check.calls k A0 c0 l0 A1 c1 l1 A2 c2 l2 0 w3 (Kd.C_below (Kd.C_below (Kd.C_below HR0.out HB1.out) HB2.out) HB3.out) HC0.out (Kd.C_below (Kd.C_below (Kd.C_below HR1.out HB1.out) HB2.out) HB3.out) HC1.out (Kd.C_below (Kd.C_below (Kd.C_below HR2.out HB1.out) HB2.out) HB3.out) HC2.out HE.out).mono ?_; rintro e w4 ⟨rfl, hb_⟩; have HB4 := zK hb_; clear hb_)
    | ((with_reducible refine gate_dst (N := 9) rfl ?_); refine box_event ?hg (N := 9) ?hd (cs := #[.int .i64 0]) (t := 3) ?hr ?_; (case hd => rfl); (case hg => rfl); (case hr => first | (go_simp; done) | (go_simp; rfl)); intro b9 hg_ w5 hbox_ hb_; have BB9 := zK hbox_; have HB5 := zK hb_; have G9 := zK hg_; clear hg_ hbox_ hb_; have hz9 := (blk_cell BB9.out 0).trans rfl; have fz9 := blk_frozen BB9.out 0; have HB5s := zK (yS (j := 0) (v := .int .i64 0) HB5.out (Nat.le_of_eq G9.out.symm)))
    | (go_at_call 27; refine (boxAll.calls A1 A2 c1 c2 l1 l2 (w5.setCell ⟨b9, 0, none⟩ (.int .i64 0)) (Kd.C_below (Kd.C_below (Kd.C_below (Kd.C_below (Kd.C_below HR1.out HB1.out) HB2.out) HB3.out) HB4.out) HB5s.out) (Kd.C_below (Kd.C_below (Kd.C_below (Kd.C_below (Kd.C_below HR2.out HB1.out) HB2.out) HB3.out) HB4.out) HB5s.out) HL1.out HL2.out).mono ?_; rintro e w6 ⟨Bl, Bh, E1, E2, d1, d2, rfl, hbl, hbh, ⟨hq1, hd1⟩, ⟨hq2, hd2⟩, hfr, hb_⟩; have HB6 := zK hb_; have HBL := zK hbl; have HBH := zK hbh; have HQ1 := zK hq1; have HQ2 := zK hq2; have HFR := zK hfr; clear hb_ hbl hbh hq1 hq2 hfr hz9 fz9))
   have h53 := blk_below (blk_below (blk_below (blk_below BB3.out HB2.out) HB3.out) HB4.out) HB5s.out
   have h56 := blk_below (blk_below (blk_below BB6.out HB3.out) HB4.out) HB5s.out
   have h57 := blk_below (blk_below BB7.out HB4.out) HB5s.out
   have h59 := blk_put (cs' := #[.int .i64 0]) BB9.out 0 (.int .i64 0) rfl
   have L3 := blk_lt h53
   have L6 := blk_lt h56
   have L7 := blk_lt h57
   have L9 := blk_lt h59
   have hw6 : Below w.heap.size w w6 := below_step (below_step (below_step (below_step (below_step HB1.out HB2.out) HB3.out) HB4.out) HB5s.out) HB6.out
   have h63 := blk_below h53 HB6.out
   have h66 := blk_below h56 HB6.out
   have h67 := blk_below h57 HB6.out
   have h69 := blk_below h59 HB6.out
   have hs6 := HB6.out.size
   have hE6 := hw6.size
   have s1 := HB1.out.size
   have s2 := HB2.out.size
   have s3 := HB3.out.size
   have s4 := HB4.out.size
   have M6 : w.heap.size ≤ b6 := by have h1 := G6.out; omega
   have M7 : w.heap.size ≤ b7 := by have h1 := G7.out; omega
   have M9 : w.heap.size ≤ b9 := by have h1 := G9.out; omega
   have n67 : b6 ≠ b7 := by have h1 := G7.out; have h2 := blk_lt BB6.out; omega
   have n69 : b6 ≠ b9 := by have h1 := G9.out; have h2 := blk_lt (blk_below BB6.out HB3.out); omega
   have n79 : b7 ≠ b9 := by have h1 := G9.out; have h2 := blk_lt BB7.out; omega
   have n76 := Ne.symm n67
   have n96 := Ne.symm n69
   have n97 := Ne.symm n79; clear s1 s2 s3 s4
   refine wp_range (gf := 53) (lb := #[.pointer (some ⟨Bl, 0, none⟩), .pointer (some ⟨Bh, 0, none⟩)]) rfl (enters_of Try.func53 (by kernel_rfl) rfl) rfl
    (May := fun b => b = b6 ∨ b = b7 ∨ b = b9) (more := boxMore n 0) (nxt := boxNxt l1 l2) (s0 := (l1, 0)) (enc := boxEnc)
    (fun W hb => boxAll1 k Bl Bh E1 E2 d1 d2 l1 l2 n 0 W _ (blk_below HBL.out hb) (blk_below HBH.out hb) (Kd.C_below HQ1.out hb) hd1 (Kd.C_below HQ2.out hb) hd2 (fun b hm => ?hM) HS.out HN.out HL1.out)
    (fun b hm => by rcases hm with rfl | rfl | rfl <;> omega) boxEnc_step
    (fun m s W => (∃ kq c, box_Count.l0 kq l0 l1 l2 s.1 n s.2 c = some (r1, r2) ∧ W.heap[b9]? = some (.cells #[.int .i64 c] 3 (0, 0))) ∧ W.heap[b3]? = some (.cells #[.slice A0 l0.length c0] 22 (0, 0)) ∧ W.heap[b6]? = some (.cells #[.int .i64 0] 3 (0, 0)) ∧ W.heap[b7]? = some (.cells #[.int .i64 0] 26 (0, 0)) ∧ Below w.heap.size w W)
    (fun c m W => c = .ret ∧ W.heap[b6]? = some (.cells #[.int .i64 r1] 3 (0, 0)) ∧ W.heap[b7]? = some (.cells #[.int .i64 r2] 26 (0, 0)) ∧ Below w.heap.size w W)
    ?hI ?hIx ?h0 ?round ?done ?stop
   case hM =>
    have hlt : b < (w5.setCell ⟨b9, 0, none⟩ (.int .i64 0)).heap.size := by rcases hm with rfl | rfl | rfl <;> omega
    obtain ⟨f1, f2⟩ := HFR.out b hlt
    exact ⟨Nat.lt_of_lt_of_le f1 hb.size, f2⟩
   case hI =>
    rintro m s A B ⟨⟨kq, c, hk, g9⟩, g3, g6, g7, hb⟩ hs
    exact ⟨⟨kq, c, hk, hs.blk g9 (by omega)⟩, hs.blk g3 (by omega), hs.blk g6 (by omega), hs.blk g7 (by omega), hs.below' hb hE6 (Nat.le_refl _)⟩
   case hIx =>
    rintro c m A B ⟨hc, g6, g7, hb⟩ hs
    exact ⟨hc, hs.blk g6 (by omega), hs.blk g7 (by omega), hs.below' hb hE6 (Nat.le_refl _)⟩
   case h0 =>
    intro W hb
    exact ⟨⟨k, 0, H.out, blk_below h69 hb⟩, blk_below h63 hb, blk_below h66 hb, blk_below h67 hb, hw6.trans (hb.mono hE6)⟩
   case round =>
    intro l m s v W hm hm2
    gi_wp2
    refine ⟨trivial, ?_⟩
    rintro Wb ⟨⟨kq, c, hq, g9⟩, g3, g6, g7, hb⟩ hn he
    obtain ⟨Av, cv, rfl⟩ := Kd.R_slice he
    obtain ⟨_, hcv, hCv⟩ := Kd.R_reads' he
    cases kq with
    | zero => exact absurd hq (by simp [box_Count.l0])
    | succ kq =>
     simp only [box_Count.l0] at hq
     rw [if_pos hm.2] at hq
     obtain ⟨⟨q1, q2⟩, hA, hq⟩ := Option.bind_eq_some_iff.1 hq
     simp only at hq
     have CA := zK (ineq_All.calls kq A0 c0 l0 Av cv s.1 q1 q2 Wb (Kd.C_below (HR0.out) (hb)) HC0.out hCv hcv hA)
     have hz3 := (blk_cell g3 0).trans rfl
     gi_wp2
     refine ⟨trivial, rfl, (CallsIn.inRound l (callsIn_wide.2 CA.out)).mono ?_⟩
     rintro e W' ⟨rfl, hB'⟩
     have hBw : Below w.heap.size w W' := hb.trans (hB'.mono hb.size)
     have hRS : RStep (fun b => b = b6 ∨ b = b7 ∨ b = b9) m Wb W' := RStep.of_below hB' hn
     have k3 := blk_below g3 hB'
     have k6 := blk_below g6 hB'
     have k7 := blk_below g7 hB'
     have k9 := blk_below g9 hB'
     have hz6 := (blk_cell k6 0).trans rfl
     have hz7 := (blk_cell k7 0).trans rfl
     have hz9 := (blk_cell k9 0).trans rfl
     have fz6 := blk_frozen k6 0
     have fz7 := blk_frozen k7 0
     have fz9 := blk_frozen k9 0
     by_cases c1 : q2 = 0
     ·subst c1
      rw [if_pos rfl] at hq
      obtain ⟨y, hy, hq⟩ := Option.bind_eq_some_iff.1 hq
      have HY := zK hy
      have HQ := zK hq; clear CA hA hy hq
      by_cases c2 : q1 < 0
      ·have c2b : decide (q1 < 0) = true := decide_eq_true c2
       gi_wp2
       have hq' := HQ.out
       rw [if_pos c2] at hq'
       exact ⟨hRS.setCell (.inr (.inr rfl)) _, (y, s.2 + 1), ⟨rfl, kq, HY.out⟩, ⟨kq, _, hq', blk_put k9 0 _ rfl⟩, blk_far k3 (p := ⟨b9, 0, none⟩) (by show b3 ≠ b9; have h1 := G9.out; have h2 := blk_lt (blk_below (blk_below BB3.out HB2.out) HB3.out); have := HB4.out.size; omega) _, blk_far k6 (p := ⟨b9, 0, none⟩) n69 _, blk_far k7 (p := ⟨b9, 0, none⟩) n79 _, yS hBw M9⟩
      ·have c2b : decide (q1 < 0) = false := decide_eq_false c2
       gi_wp2
       have hq' := HQ.out
       rw [if_neg (show ¬ q1 < 0 by omega)] at hq'
       exact ⟨hRS, (y, s.2 + 1), ⟨rfl, kq, HY.out⟩, ⟨kq, c, hq', k9⟩, k3, k6, k7, hBw⟩
     ·rw [if_neg c1] at hq
      have c1b : (q2 != 0) = true := bne_iff_ne.mpr c1
      simp only [Option.some.injEq, Prod.mk.injEq] at hq
      obtain ⟨rfl, rfl⟩ := hq; clear CA hA
      gi_wp2
      exact ⟨(hRS.setCell (.inl rfl) _).setCell (.inr (.inl rfl)) _, rfl, blk_far (blk_put k6 0 (.int .i64 0) rfl) (p := ⟨b7, 0, none⟩) n67 (.int .i64 q2), blk_put (blk_far k7 (p := ⟨b6, 0, none⟩) n76 (.int .i64 0)) 0 (.int .i64 q2) rfl, yS (yS hBw M6) M7⟩
   case done =>
    rintro m s W ⟨⟨kq, c, hq, g9⟩, g3, g6, g7, hb⟩ hm hK
    have hq' : box_Count.l0 kq l0 l1 l2 s.1 n s.2 c = some (r1, r2) := hq
    cases kq with
    | zero => exact absurd hq' (by simp [box_Count.l0])
    | succ kq =>
     simp only [box_Count.l0] at hq'
     rw [if_neg (fun e => hm ⟨rfl, e⟩)] at hq'
     simp only [Option.some.injEq, Prod.mk.injEq] at hq'
     obtain ⟨rfl, rfl⟩ := hq'
     have hz6 := (blk_cell g6 0).trans rfl
     have hz7 := (blk_cell g7 0).trans rfl
     have hz9 := (blk_cell g9 0).trans rfl
     have fz6 := blk_frozen g6 0
     have fz7 := blk_frozen g7 0
     dsimp only
     clear hq
     go_wp2
     have u6 := blk_far (blk_put g6 0 (.int .i64 c) rfl) (p := ⟨b7, 0, none⟩) n67 (.int .i64 0)
     have u7 := blk_put (blk_far g7 (p := ⟨b6, 0, none⟩) n76 (.int .i64 c)) 0 (.int .i64 0) rfl
     have hD : ((W.setCell ⟨b6, 0, none⟩ (.int .i64 c)).setCell ⟨b7, 0, none⟩ (.int .i64 0)).heap[w6.heap.size]? = some (.deferred (some [])) := (Below.heap_setCell _ _ _ _ (by show _ ≠ b7; omega)).trans ((Below.heap_setCell _ _ _ _ (by show _ ≠ b6; omega)).trans hK)
     refine ⟨by simp, .inl ⟨_, _, rfl, run_takeDeferred hD, ?_⟩⟩
     have v6 := blk_cell (blk_putObj (o' := .deferred none) u6 (D := w6.heap.size) (by omega)) 0
     have v7 := blk_cell (blk_putObj (o' := .deferred none) u7 (D := w6.heap.size) (by omega)) 0
     refine ⟨.tuple #[.int .i64 c, .int .i64 0], ?_, rfl, below_putObj (yS (yS hb M6) M7) hE6⟩
     simp [results, Try.f24, go_sem, v6, v7]
   case stop =>
    rintro c m W ⟨rfl, g6, g7, hb⟩ hK
    dsimp only
    go_wp2
    refine ⟨by simp, .inl ⟨_, _, rfl, run_takeDeferred hK, ?_⟩⟩
    have v6 := blk_cell (blk_putObj (o' := .deferred none) g6 (D := w6.heap.size) (by omega)) 0
    have v7 := blk_cell (blk_putObj (o' := .deferred none) g7 (D := w6.heap.size) (by omega)) 0
    refine ⟨.tuple #[.int .i64 r1, .int .i64 r2], ?_, rfl, below_putObj hb hE6⟩
    simp [results, Try.f24, go_sem, v6, v7]
  ·exfalso
   revert h
   split
   ·split
    ·split
     ·split
      ·exact fun _ => hg ⟨by assumption, by assumption, by assumption, by assumption⟩
      ·simp
     ·simp
    ·simp
   ·simp
 ·rw [if_neg he] at h
  simp only [Option.some.injEq, Prod.mk.injEq] at h
  obtain ⟨rfl, rfl⟩ := h
  have he1 : (e != 0) = true := bne_iff_ne.mpr he
  have he2 : (e == 0) = false := beq_eq_false_iff_ne.mpr he
  go_enter Try.func24, Try.ntmps24
  go_wp2_with (first
   | ((with_reducible refine gate_dst (N := 3) rfl ?_); refine box_event ?hg (N := 3) ?hd (cs := #[.slice A0 l0.length c0]) (t := 22) ?hr ?_; (case hd => rfl); (case hg => rfl); (case hr => first | (go_simp; done) | (go_simp; rfl)); intro b3 hg_ w1 hbox_ hb_; have BB3 := zK hbox_; have HB1 := zK hb_; have G3 := zK hg_; clear hg_ hbox_ hb_)
   | ((with_reducible refine gate_dst (N := 6) rfl ?_); refine box_event ?hg (N := 6) ?hd (cs := #[.int .i64 0]) (t := 3) ?hr ?_; (case hd => rfl); (case hg => rfl); (case hr => first | (go_simp; done) | (go_simp; rfl)); intro b6 hg_ w2 hbox_ hb_; have BB6 := zK hbox_; have HB2 := zK hb_; have G6 := zK hg_; clear hg_ hbox_ hb_)
   | ((with_reducible refine gate_dst (N := 7) rfl ?_); refine box_event ?hg (N := 7) ?hd (cs := #[.int .i64 0]) (t := 26) ?hr ?_; (case hd => rfl); (case hg => rfl); (case hr => first | (go_simp; done) | (go_simp; rfl)); intro b7 hg_ w3 hbox_ hb_; have BB7 := zK hbox_; have HB3 := zK hb_; have G7 := zK hg_; clear hg_ hbox_ hb_; have hcl := (blk_cell (blk_below (blk_below BB3.out HB2.out) HB3.out) 0).trans rfl)
   | (go_at_call 47; refine (box_check.calls k A0 c0 l0 A1 c1 l1 A2 c2 l2 e w3 (Kd.C_below (Kd.C_below (Kd.C_below HR0.out HB1.out) HB2.out) HB3.out) HC0.out (Kd.C_below (Kd.C_below (Kd.C_below HR1.out HB1.out) HB2.out) HB3.out) HC1.out (Kd.C_below (Kd.C_below (Kd.C_below HR2.out HB1.out) HB2.out) HB3.out) HC2.out HE.out).mono ?_; rintro e w4 ⟨rfl, hb_⟩; have HB4 := zK hb_; clear hb_; have HK6 := zK (blk_below (blk_below BB6.out HB3.out) HB4.out); have HK7 := zK (blk_below BB7.out HB4.out); have hz6 := (blk_cell HK6.out 0).trans rfl; have hz7 := (blk_cell HK7.out 0).trans rfl; have fz6 := blk_frozen HK6.out 0; have fz7 := blk_frozen HK7.out 0; have n67 : b6 ≠ b7 := (by have h1 := G7.out; have h2 := blk_lt BB6.out; omega); have n76 := Ne.symm n67))
  have v6 := blk_cell (blk_far (blk_put HK6.out 0 (.int .i64 0) rfl) (p := ⟨b7, 0, none⟩) n67 (.int .i64 e)) 0
  have v7 := blk_cell (blk_put (blk_far HK7.out (p := ⟨b6, 0, none⟩) n76 (.int .i64 0)) 0 (.int .i64 e) rfl) 0
  refine bodyPost_ret (v := .tuple #[.int .i64 0, .int .i64 e]) (by simp [results, Try.f24, go_sem, v6, v7]) rfl ?_
  have M6 : w.heap.size ≤ b6 := by have h1 := G6.out; have h2 := HB1.out.size; omega
  have M7 : w.heap.size ≤ b7 := by have h1 := G7.out; have h2 := HB1.out.size; have h3 := HB2.out.size; omega
  exact ⟨rfl, yS (yS (below_step (below_step (below_step HB1.out HB2.out) HB3.out) HB4.out) M6) M7⟩
end rounds

/-! ### sequiturbase_Int64s: function 25 -/
def sequiturbase_Int64s.l0 : Nat → List Int → List Int → Int → Option (Bool)
 | 0, _, _, _ => none
 | k + 1, x0, x1, x5 => if x5 < (x0.length : Int) then (if 0 ≤ x5 then (if x5 < (x1.length : Int) then (if (rd x0 x5) = (rd x1 x5) then (sequiturbase_Int64s.l0 k x0 x1 (wrap64 (x5 + 1))) else (some false)) else (none)) else (none)) else (some true)
def sequiturbase_Int64s.f (k : Nat) (l0 : List Int) (l1 : List Int) : Option (Bool) := if (l0.length : Int) = (l1.length : Int) then (sequiturbase_Int64s.l0 k l0 l1 0) else (some false)
theorem sequiturbase_Int64s.mono_l : ∀ k, (∀ y0 y1 y2, LeO (sequiturbase_Int64s.l0 k y0 y1 y2) (sequiturbase_Int64s.l0 (k + 1) y0 y1 y2))
 | 0 => fun _ _ _ r h => by simp [sequiturbase_Int64s.l0] at h
 | k + 1 => by
  have ih0 := sequiturbase_Int64s.mono_l k
  ·intro y0 y1 y2
   unfold sequiturbase_Int64s.l0
   repeat' first
   | (with_reducible exact ih0 _ _ _)
   | (with_reducible exact LeO.refl _)
   | (with_reducible exact LeO.none _)
   | (with_reducible refine LeO.ite ?_ ?_)
   | (with_reducible refine LeO.bind ?_ (fun _ => ?_))
   | exact ih0 _ _ _
   | exact LeO.none _
   | refine LeO.ite ?_ ?_
   | refine LeO.bind ?_ (fun _ => ?_)
theorem sequiturbase_Int64s.mono : ∀ a0 a1 k, LeO (sequiturbase_Int64s.f k a0 a1) (sequiturbase_Int64s.f (k + 1) a0 a1) := by
 intro a0 a1 k
 have ih0 := sequiturbase_Int64s.mono_l k
 unfold sequiturbase_Int64s.f
 repeat' first
   | (with_reducible exact ih0 _ _ _)
   | (with_reducible exact LeO.refl _)
   | (with_reducible exact LeO.none _)
   | (with_reducible refine LeO.ite ?_ ?_)
   | (with_reducible refine LeO.bind ?_ (fun _ => ?_))
   | exact ih0 _ _ _
   | exact LeO.none _
   | refine LeO.ite ?_ ?_
   | refine LeO.bind ?_ (fun _ => ?_)
set_option maxHeartbeats 8000000 in
set_option maxRecDepth 100000 in
theorem sequiturbase_Int64s.calls (k : Nat) (A0 : Option Addr) (c0 : Nat) (l0 : List Int) (A1 : Option Addr) (c1 : Nat) (l1 : List Int) (r : Bool) (w : World) (hr0 : Kd.C (Kd.int .i64) w A0 l0.length l0) (hc0 : l0.length ≤ c0) (hr1 : Kd.C (Kd.int .i64) w A1 l1.length l1) (hc1 : l1.length ≤ c1) (h : sequiturbase_Int64s.f k l0 l1 = some r) :
  Calls Try.prog 25 #[.slice A0 l0.length c0, .slice A1 l1.length c1] w fun e w' => e = .returned (.bool r) ∧ Drawn0 w w' := by
 have HR0 := zK hr0
 have HC0 := zK hc0; clear hr0 hc0
 have HR1 := zK hr1
 have HC1 := zK hc1; clear hr1 hc1
 have H : (if (l0.length : Int) = (l1.length : Int) then (sequiturbase_Int64s.l0 k l0 l1 0) else (some false)) = some r := h
 clear h
 by_cases c3 : (l0.length : Int) = (l1.length : Int)
 ·rw [if_pos c3] at H
  have c3b0 : ((l0.length : Int) == (l1.length : Int)) = true := beq_iff_eq.mpr c3
  have c3b1 : ((l0.length : Int) != (l1.length : Int)) = false := bne_eq_false_iff_eq.mpr c3
  have c3b2 : (l0.length == l1.length) = true := by first | simpa using c3 | (simp at c3 ⊢; omega)
  clear c3
  have H' := zK H; clear H
  go_enter Try.func25, Try.ntmps25
  go_wp2
  repeat (go_quiet (fail); try go_wp2)
  go_loopg [5] k (fun kq v5 w' => ∃ (x5_1 : Int), v5 = .int .i64 x5_1 ∧ Aside0 (sequiturbase_Int64s.l0 kq l0 l1 x5_1 = some r) ∧ Aside0 (kq ≤ k) ∧ Drawn0 w w')
  case atStart => exact ⟨(0), (by first | rfl | (simp; done) | (simp [*]; done)), H', ⟨Nat.le_refl _⟩, by repeat (first | exact Drawn0.refl _ | apply Drawn0.step)⟩
  case round =>
   clear H'; try clear c1; try clear c2; try clear p2
   try clear c3; try clear c3b0; try clear c3b1; try clear c3b2
   obtain ⟨x5_1, rfl, HA, HK1, ⟨m1, rfl⟩⟩ := hrel
   cases gk with
   | zero => exact absurd HA.out (by simp [sequiturbase_Int64s.l0])
   | succ k1 =>
    have H := HA.out; clear HA
    simp only [sequiturbase_Int64s.l0] at H
    by_cases c4 : x5_1 < (l0.length : Int)
    ·rw [if_pos c4] at H
     have c4b0 : decide (x5_1 < (l0.length : Int)) = true := decide_eq_true c4
     clear c4
     by_cases c5 : 0 ≤ x5_1
     ·rw [if_pos c5] at H
      have c5b0 : decide (0 ≤ x5_1) = true := decide_eq_true c5; clear c5
      by_cases c6 : x5_1 < (l1.length : Int)
      ·rw [if_pos c6] at H
       have c6b0 : decide (x5_1 < (l1.length : Int)) = true := decide_eq_true c6
       clear c6
       by_cases c7 : (rd l0 x5_1) = (rd l1 x5_1)
       ·rw [if_pos c7] at H
        have c7b0 : ((rd l0 x5_1) == (rd l1 x5_1)) = true := beq_iff_eq.mpr c7
        have c7b1 : ((rd l0 x5_1) != (rd l1 x5_1)) = false := bne_eq_false_iff_eq.mpr c7
        clear c7
        have H' := zK H; clear H
        have p138 : 0 ≤ (x5_1 : Int) := of_decide_eq_true (by first | (with_reducible assumption) | assumption)
        have q138 : x5_1 < (l0.length : Int) := of_decide_eq_true (by first | (with_reducible assumption) | assumption)
        obtain ⟨ad138, e138, hx138_0⟩ := Kd.at_int HR0.out x5_1 p138 q138
        cases e138
        replace p138 := eq_true p138
        replace q138 := eq_true q138
        have p139 : 0 ≤ (x5_1 : Int) := of_decide_eq_true (by first | (with_reducible assumption) | assumption)
        have q139 : x5_1 < (l1.length : Int) := of_decide_eq_true (by first | (with_reducible assumption) | assumption)
        obtain ⟨ad139, e139, hx139_0⟩ := Kd.at_int HR1.out x5_1 p139 q139
        cases e139
        replace p139 := eq_true p139
        replace q139 := eq_true q139
        go_wp2
        repeat (go_quiet (fail); try go_wp2)
        go_roundg k1
        case measure => have := HK1.out; omega
        case rel => exact ⟨(wrap64 (x5_1 + 1)), (by first | rfl | (simp; done) | (simp [*]; done)), H', ⟨by have := HK1.out; omega⟩, by repeat (first | exact Drawn0.refl _ | apply Drawn0.step)⟩
       ·rw [if_neg c7] at H
        have c7b0 : ((rd l0 x5_1) == (rd l1 x5_1)) = false := beq_eq_false_iff_ne.mpr c7
        have c7b1 : ((rd l0 x5_1) != (rd l1 x5_1)) = true := bne_iff_ne.mpr c7
        obtain rfl := Option.some.inj H
        have p138 : 0 ≤ (x5_1 : Int) := of_decide_eq_true (by first | (with_reducible assumption) | assumption)
        have q138 : x5_1 < (l0.length : Int) := of_decide_eq_true (by first | (with_reducible assumption) | assumption)
        obtain ⟨ad138, e138, hx138_0⟩ := Kd.at_int HR0.out x5_1 p138 q138
        cases e138
        replace p138 := eq_true p138
        replace q138 := eq_true q138
        have p139 : 0 ≤ (x5_1 : Int) := of_decide_eq_true (by first | (with_reducible assumption) | assumption)
        have q139 : x5_1 < (l1.length : Int) := of_decide_eq_true (by first | (with_reducible assumption) | assumption)
        obtain ⟨ad139, e139, hx139_0⟩ := Kd.at_int HR1.out x5_1 p139 q139
        cases e139
        replace p139 := eq_true p139
        replace q139 := eq_true q139
        go_wp2
        repeat (go_quiet (fail); try go_wp2)
        go_ret
        exact ⟨by first | rfl | (simp; done) | (simp [*]; done), by repeat (first | exact Drawn0.refl _ | apply Drawn0.step)⟩
      ·rw [if_neg c6] at H
       exact absurd H (by simp)
     ·rw [if_neg c5] at H
      exact absurd H (by simp)
    ·rw [if_neg c4] at H
     have c4b0 : decide (x5_1 < (l0.length : Int)) = false := decide_eq_false c4
     clear c4
     obtain rfl := Option.some.inj H
     go_wp2
     repeat (go_quiet (fail); try go_wp2)
     go_ret
     exact ⟨by first | rfl | (simp; done) | (simp [*]; done), by repeat (first | exact Drawn0.refl _ | apply Drawn0.step)⟩
 ·rw [if_neg c3] at H
  have c3b0 : ((l0.length : Int) == (l1.length : Int)) = false := beq_eq_false_iff_ne.mpr c3
  have c3b1 : ((l0.length : Int) != (l1.length : Int)) = true := bne_iff_ne.mpr c3
  have c3b2 : (l0.length == l1.length) = false := by first | simpa using c3 | (simp at c3 ⊢; omega)
  obtain rfl := Option.some.inj H
  go_enter Try.func25, Try.ntmps25
  go_wp2
  repeat (go_quiet (fail); try go_wp2)
  go_ret
  exact ⟨by first | rfl | (simp; done) | (simp [*]; done), by repeat (first | exact Drawn0.refl _ | apply Drawn0.step)⟩

/-! ### sequiturlaw32_alive: function 21 -/
def sequiturlaw32_alive.f (k : Nat)  : Option (Bool) := (some (([(⟨(⟨3, (([(⟨0, (-1)⟩ : S68), (⟨1, (-1)⟩ : S68)] : List (S68)))⟩ : S62), false⟩ : S70)] : List (S70)) : List (S70))).bind fun y143 => ((box_First.f k y143 (([0, 0] : List Int)) (([2, 2] : List Int))).bind fun bt152 => ((box_Count.f k y143 (([0, 0] : List Int)) (([2, 2] : List Int))).bind fun bt163 => (if bt152.2.1 = true then (if bt152.2.2 = 0 then (if bt163.2 = 0 then ((sequiturbase_Int64s.f k bt152.1 (([1, 2] : List Int))).bind fun t168 => (if t168 = true then (some (bt163.1 == 3)) else (none))) else (none)) else (none)) else (none))))
theorem sequiturlaw32_alive.mono : ∀ k, LeO (sequiturlaw32_alive.f k ) (sequiturlaw32_alive.f (k + 1) ) := by
 intro  k
 unfold sequiturlaw32_alive.f
 repeat' first
   | (with_reducible exact box_Count.mono _ _ _ _)
   | (with_reducible exact box_First.mono _ _ _ _)
   | (with_reducible exact sequiturbase_Int64s.mono _ _ _)
   | (with_reducible exact LeO.refl _)
   | (with_reducible exact LeO.none _)
   | (with_reducible refine LeO.ite ?_ ?_)
   | (with_reducible refine LeO.bind ?_ (fun _ => ?_))
   | exact box_Count.mono _ _ _ _
   | exact box_First.mono _ _ _ _
   | exact sequiturbase_Int64s.mono _ _ _
   | exact LeO.none _
   | refine LeO.ite ?_ ?_
   | refine LeO.bind ?_ (fun _ => ?_)
set_option maxHeartbeats 8000000 in
set_option maxRecDepth 100000 in
theorem sequiturlaw32_alive.calls (k : Nat)  (r : Bool) (w : World) (h : sequiturlaw32_alive.f k  = some r) :
  Calls Try.prog 21 #[] w fun e w' => e = .returned (.bool r) ∧ Below w.heap.size w w' := by
 have hu68 := Try.underlying68
 have hu62 := Try.underlying62
 have hu70 := Try.underlying70
 have HB := zK (Below.refl w.heap.size w)
 have H : ((some (([(⟨(⟨3, (([(⟨0, (-1)⟩ : S68), (⟨1, (-1)⟩ : S68)] : List (S68)))⟩ : S62), false⟩ : S70)] : List (S70)) : List (S70))).bind fun y143 => ((box_First.f k y143 (([0, 0] : List Int)) (([2, 2] : List Int))).bind fun bt152 => ((box_Count.f k y143 (([0, 0] : List Int)) (([2, 2] : List Int))).bind fun bt163 => (if bt152.2.1 = true then (if bt152.2.2 = 0 then (if bt163.2 = 0 then ((sequiturbase_Int64s.f k bt152.1 (([1, 2] : List Int))).bind fun t168 => (if t168 = true then (some (bt163.1 == 3)) else (none))) else (none)) else (none)) else (none))))) = some r := h
 clear h
 obtain ⟨y140, hy140⟩ : ∃ y_ : List (S68), y_ = (([(⟨0, (-1)⟩ : S68), (⟨1, (-1)⟩ : S68)] : List (S68))) := ⟨_, rfl⟩
 replace H : ((some (([(⟨(⟨3, y140⟩ : S62), false⟩ : S70)] : List (S70)) : List (S70))).bind fun y143 => ((box_First.f k y143 (([0, 0] : List Int)) (([2, 2] : List Int))).bind fun bt152 => ((box_Count.f k y143 (([0, 0] : List Int)) (([2, 2] : List Int))).bind fun bt163 => (if bt152.2.1 = true then (if bt152.2.2 = 0 then (if bt163.2 = 0 then ((sequiturbase_Int64s.f k bt152.1 (([1, 2] : List Int))).bind fun t168 => (if t168 = true then (some (bt163.1 == 3)) else (none))) else (none)) else (none)) else (none))))) = some r := by first | (rw [hy140]; with_reducible exact H) | (have H2_ := (Option.bind_some _ _).symm.trans H; rw [hy140]; with_reducible exact H2_) | (have H2_ := (Option.bind_some _ _).symm.trans H; with_reducible exact H2_) | with_reducible exact H | (rw [hy140]; exact H) | exact H
 have Ny140 := zK hy140; clear hy140
 obtain ⟨y143, hy143⟩ : ∃ y_ : List (S70), y_ = (([(⟨(⟨3, y140⟩ : S62), false⟩ : S70)] : List (S70))) := ⟨_, rfl⟩
 replace H : ((box_First.f k y143 (([0, 0] : List Int)) (([2, 2] : List Int))).bind fun bt152 => ((box_Count.f k y143 (([0, 0] : List Int)) (([2, 2] : List Int))).bind fun bt163 => (if bt152.2.1 = true then (if bt152.2.2 = 0 then (if bt163.2 = 0 then ((sequiturbase_Int64s.f k bt152.1 (([1, 2] : List Int))).bind fun t168 => (if t168 = true then (some (bt163.1 == 3)) else (none))) else (none)) else (none)) else (none)))) = some r := by first | (rw [hy143]; with_reducible exact H) | (have H2_ := (Option.bind_some _ _).symm.trans H; rw [hy143]; with_reducible exact H2_) | (have H2_ := (Option.bind_some _ _).symm.trans H; with_reducible exact H2_) | with_reducible exact H | (rw [hy143]; exact H) | exact H
 have Ny143 := zK hy143; clear hy143
 obtain ⟨y146, hy146⟩ : ∃ y_ : List Int, y_ = (([0, 0] : List Int)) := ⟨_, rfl⟩
 replace H : ((box_First.f k y143 y146 (([2, 2] : List Int))).bind fun bt152 => ((box_Count.f k y143 (([0, 0] : List Int)) (([2, 2] : List Int))).bind fun bt163 => (if bt152.2.1 = true then (if bt152.2.2 = 0 then (if bt163.2 = 0 then ((sequiturbase_Int64s.f k bt152.1 (([1, 2] : List Int))).bind fun t168 => (if t168 = true then (some (bt163.1 == 3)) else (none))) else (none)) else (none)) else (none)))) = some r := by first | (rw [hy146]; with_reducible exact H) | (have H2_ := (Option.bind_some _ _).symm.trans H; rw [hy146]; with_reducible exact H2_) | (have H2_ := (Option.bind_some _ _).symm.trans H; with_reducible exact H2_) | with_reducible exact H | (rw [hy146]; exact H) | exact H
 have Ny146 := zK hy146; clear hy146
 obtain ⟨y149, hy149⟩ : ∃ y_ : List Int, y_ = (([2, 2] : List Int)) := ⟨_, rfl⟩
 replace H : ((box_First.f k y143 y146 y149).bind fun bt152 => ((box_Count.f k y143 (([0, 0] : List Int)) (([2, 2] : List Int))).bind fun bt163 => (if bt152.2.1 = true then (if bt152.2.2 = 0 then (if bt163.2 = 0 then ((sequiturbase_Int64s.f k bt152.1 (([1, 2] : List Int))).bind fun t168 => (if t168 = true then (some (bt163.1 == 3)) else (none))) else (none)) else (none)) else (none)))) = some r := by first | (rw [hy149]; with_reducible exact H) | (have H2_ := (Option.bind_some _ _).symm.trans H; rw [hy149]; with_reducible exact H2_) | (have H2_ := (Option.bind_some _ _).symm.trans H; with_reducible exact H2_) | with_reducible exact H | (rw [hy149]; exact H) | exact H
 have Ny149 := zK hy149; clear hy149; replace H := Option.bind_eq_some_iff.mp H
 obtain ⟨⟨t152, t153, t154⟩, A10, H⟩ := H
 replace H : ((box_Count.f k y143 (([0, 0] : List Int)) (([2, 2] : List Int))).bind fun bt163 => (if t153 = true then (if t154 = 0 then (if bt163.2 = 0 then ((sequiturbase_Int64s.f k t152 (([1, 2] : List Int))).bind fun t168 => (if t168 = true then (some (bt163.1 == 3)) else (none))) else (none)) else (none)) else (none))) = some r := H
 have A1 := zK A10; clear A10
 obtain ⟨y157, hy157⟩ : ∃ y_ : List Int, y_ = (([0, 0] : List Int)) := ⟨_, rfl⟩
 replace H : ((box_Count.f k y143 y157 (([2, 2] : List Int))).bind fun bt163 => (if t153 = true then (if t154 = 0 then (if bt163.2 = 0 then ((sequiturbase_Int64s.f k t152 (([1, 2] : List Int))).bind fun t168 => (if t168 = true then (some (bt163.1 == 3)) else (none))) else (none)) else (none)) else (none))) = some r := by first | (rw [hy157]; with_reducible exact H) | (have H2_ := (Option.bind_some _ _).symm.trans H; rw [hy157]; with_reducible exact H2_) | (have H2_ := (Option.bind_some _ _).symm.trans H; with_reducible exact H2_) | with_reducible exact H | (rw [hy157]; exact H) | exact H
 have Ny157 := zK hy157; clear hy157
 obtain ⟨y160, hy160⟩ : ∃ y_ : List Int, y_ = (([2, 2] : List Int)) := ⟨_, rfl⟩
 replace H : ((box_Count.f k y143 y157 y160).bind fun bt163 => (if t153 = true then (if t154 = 0 then (if bt163.2 = 0 then ((sequiturbase_Int64s.f k t152 (([1, 2] : List Int))).bind fun t168 => (if t168 = true then (some (bt163.1 == 3)) else (none))) else (none)) else (none)) else (none))) = some r := by first | (rw [hy160]; with_reducible exact H) | (have H2_ := (Option.bind_some _ _).symm.trans H; rw [hy160]; with_reducible exact H2_) | (have H2_ := (Option.bind_some _ _).symm.trans H; with_reducible exact H2_) | with_reducible exact H | (rw [hy160]; exact H) | exact H
 have Ny160 := zK hy160; clear hy160; replace H := Option.bind_eq_some_iff.mp H
 obtain ⟨⟨t163, t164⟩, A20, H⟩ := H
 replace H : (if t153 = true then (if t154 = 0 then (if t164 = 0 then ((sequiturbase_Int64s.f k t152 (([1, 2] : List Int))).bind fun t168 => (if t168 = true then (some (t163 == 3)) else (none))) else (none)) else (none)) else (none)) = some r := H
 have A2 := zK A20; clear A20
 by_cases c3 : t153 = true
 ·subst c3
  have H1 : (if t154 = 0 then (if t164 = 0 then ((sequiturbase_Int64s.f k t152 (([1, 2] : List Int))).bind fun t168 => (if t168 = true then (some (t163 == 3)) else (none))) else (none)) else (none)) = some r := by rw [if_pos rfl] at H; exact H
  clear H; have H := H1; clear H1
  by_cases c4 : t154 = 0
  ·rw [if_pos c4] at H
   have c4b0 : (t154 == 0) = true := beq_iff_eq.mpr c4
   have c4b1 : (t154 != 0) = false := bne_eq_false_iff_eq.mpr c4; clear c4
   by_cases c5 : t164 = 0
   ·rw [if_pos c5] at H
    have c5b0 : (t164 == 0) = true := beq_iff_eq.mpr c5
    have c5b1 : (t164 != 0) = false := bne_eq_false_iff_eq.mpr c5; clear c5
    obtain ⟨y165, hy165⟩ : ∃ y_ : List Int, y_ = (([1, 2] : List Int)) := ⟨_, rfl⟩
    replace H : ((sequiturbase_Int64s.f k t152 y165).bind fun t168 => (if t168 = true then (some (t163 == 3)) else (none))) = some r := by first | (rw [hy165]; with_reducible exact H) | (have H2_ := (Option.bind_some _ _).symm.trans H; rw [hy165]; with_reducible exact H2_) | (have H2_ := (Option.bind_some _ _).symm.trans H; with_reducible exact H2_) | with_reducible exact H | (rw [hy165]; exact H) | exact H
    have Ny165 := zK hy165; clear hy165; replace H := Option.bind_eq_some_iff.mp H
    obtain ⟨t168, A60, H⟩ := H
    replace H : (if t168 = true then (some (t163 == 3)) else (none)) = some r := H
    have A6 := zK A60; clear A60
    by_cases c7 : t168 = true
    ·subst c7
     have H1 : (some (t163 == 3)) = some r := by rw [if_pos rfl] at H; exact H
     clear H; have H := H1; clear H1
     obtain rfl := Option.some.inj H
     go_enter Try.func21, Try.ntmps21
     go_wp2_with (first | ((with_reducible refine gate_dst (N := 9) rfl ?_); (try (refine zG (by rfl) ?_; dsimp only)); refine Kd.R_lit k68 _ 68 ?hg (N := 9) ?hd (xs := ([(⟨0, (-1)⟩ : S68), (⟨1, (-1)⟩ : S68)] : List (S68))) (inner := [.int .i64 0, .int .i64 (-1), .int .i64 1, .int .i64 (-1)]) (ok := fun _ => True) (okp := fun _ => True) ?hr ?hp (fun _ hk => hk) trivial (Below.refl _ _) (Nat.le_refl _) (by simp) ?_; (case hd => rfl); (case hg => rfl); (case hr => first | (go_simp; done) | (go_simp; rfl)); (case hp => exact (Reps.c2 (show Kd.M k68 _ _ _ (⟨0, (-1)⟩ : S68) [.int .i64 0, .int .i64 (-1)] from (k68_mkM _ _ _ (⟨0, (-1)⟩ : S68) )) (Reps.c2 (show Kd.M k68 _ _ _ (⟨1, (-1)⟩ : S68) [.int .i64 1, .int .i64 (-1)] from (k68_mkM _ _ _ (⟨1, (-1)⟩ : S68) )) (Reps.none _ _)))); intro v141 w8 ho9 hb hg_ hnew_; clear hg_ hnew_; (first | rw [← Ny140.out] at ho9 | (simp only [Int.reduceToNat] at ho9; rw [← Ny140.out] at ho9)); have HO142 := zK (Kd.R_lower ho9 (below_size (zo HB))); replace HB := zK (below_step (zo HB) hb); clear hb ho9; obtain ⟨Ao10, co10, eo10⟩ := Kd.R_slice HO142.out; subst eo10) | ((with_reducible refine gate_dst (N := 12) rfl ?_); (try (refine zG (by rfl) ?_; dsimp only)); refine Kd.N_lit k70 _ 70 ?hg (N' := 12) ?hd (xs := ([(⟨(⟨3, y140⟩ : S62), false⟩ : S70)] : List (S70))) (inner := [.int .i64 3, .slice Ao10 y140.length co10, .bool false]) (ok := (fun _ => True)) (okp := (fun _ => True)) ?hr ?hp (fun _ hk => hk) ((show ∀ k_, w8.heap.size ≤ k_ → (fun _ => True) k_ from fun k_ hk => trivial) _ (Nat.le_refl _)) (Below.refl _ _) (Nat.le_refl _) (by simp) ?_; (case hd => rfl); (case hg => rfl); (case hr => first | (go_simp; done) | (go_simp; rfl)); (case hp => exact (Reps.c3 (show Kd.FK k70 _ _ (⟨(⟨3, y140⟩ : S62), false⟩ : S70) [.int .i64 3, .slice Ao10 y140.length co10, .bool false] from (k70_mkF _ _ (⟨(⟨3, y140⟩ : S62), false⟩ : S70) (Kd.R_reads' (Kd.R_mono (ok' := (fun _ => True)) (HO142.out) (fun k_ hk => trivial))).2.1 (Kd.R_F (Kd.R_mono (ok' := (fun _ => True)) (HO142.out) (fun k_ hk => trivial))))) (Reps.none _ _))); intro v144 w11 ho12 hb hg_ hnew_; clear hg_ hnew_; (first | rw [← Ny143.out] at ho12 | (simp only [Int.reduceToNat] at ho12; rw [← Ny143.out] at ho12)); have HO145 := zK (Kd.N_lower ho12 (below_size (zo HB))); replace HB := zK (below_step (zo HB) hb); clear HO142 hb ho12) | ((with_reducible refine gate_dst (N := 15) rfl ?_); (try (refine zG (by rfl) ?_; dsimp only)); refine Kd.R_lit (Kd.int .i64) _ 2 ?hg (N := 15) ?hd (xs := ([0, 0] : List Int)) (inner := [.int .i64 0, .int .i64 0]) (ok := fun _ => True) (okp := fun _ => True) ?hr ?hp (fun _ hk => hk) trivial (Below.refl _ _) (Nat.le_refl _) (by simp) ?_; (case hd => rfl); (case hg => rfl); (case hr => first | (go_simp; done) | (go_simp; rfl)); (case hp => exact (Reps.one (show Kd.M (Kd.int .i64) _ _ _ 0 [.int .i64 0] from rfl) (Reps.one (show Kd.M (Kd.int .i64) _ _ _ 0 [.int .i64 0] from rfl) (Reps.none _ _)))); intro v147 w13 ho14 hb hg_ hnew_; clear hg_ hnew_; (first | rw [← Ny146.out] at ho14 | (simp only [Int.reduceToNat] at ho14; rw [← Ny146.out] at ho14)); replace HO145 := zK (Kd.N_elder' (zn HO145) (Kd.R_base ho14) hb); have HO148 := zK (Kd.R_lower ho14 (below_size (zo HB))); replace HB := zK (below_step (zo HB) hb); clear hb ho14) | ((with_reducible refine gate_dst (N := 16) rfl ?_); (try (refine zG (by rfl) ?_; dsimp only)); refine Kd.R_lit (Kd.int .i64) _ 2 ?hg (N := 16) ?hd (xs := ([2, 2] : List Int)) (inner := [.int .i64 2, .int .i64 2]) (ok := fun _ => True) (okp := fun _ => True) ?hr ?hp (fun _ hk => hk) trivial (Below.refl _ _) (Nat.le_refl _) (by simp) ?_; (case hd => rfl); (case hg => rfl); (case hr => first | (go_simp; done) | (go_simp; rfl)); (case hp => exact (Reps.one (show Kd.M (Kd.int .i64) _ _ _ 2 [.int .i64 2] from rfl) (Reps.one (show Kd.M (Kd.int .i64) _ _ _ 2 [.int .i64 2] from rfl) (Reps.none _ _)))); intro v150 w15 ho16 hb hg_ hnew_; clear hg_ hnew_; (first | rw [← Ny149.out] at ho16 | (simp only [Int.reduceToNat] at ho16; rw [← Ny149.out] at ho16)); replace HO145 := zK (Kd.N_elder' (zn HO145) (Kd.R_base ho16) hb); have HO151 := zK (Kd.R_lower (Kd.R_new' ho16 (Kd.R_lt (zr HO148))) (below_size (zo HB))); replace HO148 := zK (Kd.R_elder' (zr HO148) (Kd.R_base ho16) hb); replace HB := zK (below_step (zo HB) hb); clear hb ho16; obtain ⟨Ao17, co17, eo17⟩ := Kd.N_slice HO145.out; subst eo17; obtain ⟨Ao18, co18, eo18⟩ := Kd.R_slice HO148.out; subst eo18; obtain ⟨Ao19, co19, eo19⟩ := Kd.R_slice HO151.out; subst eo19) | ((with_reducible refine zC (f := 22) rfl ?_); refine goesL_ (some 17) rfl rfl Try.func22 (by kernel_rfl) rfl #[.slice Ao17 y143.length co17, .slice Ao18 y146.length co18, .slice Ao19 y149.length co19] rfl (by (try simp only [List.map_toArray, List.map_cons, List.map_nil]); first | done | rfl | (simp only [List.length_drop, List.length_take]; rfl)) ?_; (with_reducible refine (box_First.calls k _ _ y143 _ _ y146 _ _ y149 t152 true t154 _ ?side1 ?side2 ?side3 ?side4 ?side5 ?side6 A1.out).mono ?_); (case side1 => repeat (first | exact (Kd.N_reads' HO145.out).2.2 | (with_reducible refine cA ?_ _) | (with_reducible refine cN ?_ _) | (with_reducible refine cD ?_))); (case side2 => exact (Kd.N_reads' HO145.out).2.1); (case side3 => repeat (first | exact (Kd.R_reads' HO148.out).2.2 | (with_reducible refine cA ?_ _) | (with_reducible refine cN ?_ _) | (with_reducible refine cD ?_))); (case side4 => exact (Kd.R_reads' HO148.out).2.1); (case side5 => repeat (first | exact (Kd.R_reads' HO151.out).2.2 | (with_reducible refine cA ?_ _) | (with_reducible refine cN ?_ _) | (with_reducible refine cD ?_))); (case side6 => exact (Kd.R_reads' HO151.out).2.1); rintro e w20 ⟨v155, rfl, ho0, hb⟩; refine ⟨_, rfl, ?_⟩; replace HO145 := zK (Kd.N_elder' (zn HO145) (Kd.R_base ho0) hb); have HO156 := zK (Kd.R_lower (Kd.R_new' (Kd.R_new' ho0 (Kd.R_lt (zr HO148))) (Kd.R_lt (zr HO151))) (below_size (zo HB))); replace HO148 := zK (Kd.R_elder' (zr HO148) (Kd.R_base ho0) hb); replace HO151 := zK (Kd.R_elder' (zr HO151) (Kd.R_base ho0) hb); replace HB := zK (below_step (zo HB) hb); (try clear hb); (try clear hb2); (try clear hk); (try clear hi); (try clear ho0)) | ((with_reducible refine gate_dst (N := 23) rfl ?_); (try (refine zG (by rfl) ?_; dsimp only)); refine Kd.R_lit (Kd.int .i64) _ 2 ?hg (N := 23) ?hd (xs := ([0, 0] : List Int)) (inner := [.int .i64 0, .int .i64 0]) (ok := fun _ => True) (okp := fun _ => True) ?hr ?hp (fun _ hk => hk) trivial (Below.refl _ _) (Nat.le_refl _) (by simp) ?_; (case hd => rfl); (case hg => rfl); (case hr => first | (go_simp; done) | (go_simp; rfl)); (case hp => exact (Reps.one (show Kd.M (Kd.int .i64) _ _ _ 0 [.int .i64 0] from rfl) (Reps.one (show Kd.M (Kd.int .i64) _ _ _ 0 [.int .i64 0] from rfl) (Reps.none _ _)))); intro v158 w21 ho22 hb hg_ hnew_; clear hg_ hnew_; (first | rw [← Ny157.out] at ho22 | (simp only [Int.reduceToNat] at ho22; rw [← Ny157.out] at ho22)); replace HO145 := zK (Kd.N_elder' (zn HO145) (Kd.R_base ho22) hb); have HO159 := zK (Kd.R_lower (Kd.R_new' (Kd.R_new' (Kd.R_new' ho22 (Kd.R_lt (zr HO148))) (Kd.R_lt (zr HO151))) (Kd.R_lt (zr HO156))) (below_size (zo HB))); replace HO148 := zK (Kd.R_elder' (zr HO148) (Kd.R_base ho22) hb); replace HO151 := zK (Kd.R_elder' (zr HO151) (Kd.R_base ho22) hb); replace HO156 := zK (Kd.R_elder' (zr HO156) (Kd.R_base ho22) hb); replace HB := zK (below_step (zo HB) hb); clear hb ho22) | ((with_reducible refine gate_dst (N := 24) rfl ?_); (try (refine zG (by rfl) ?_; dsimp only)); refine Kd.R_lit (Kd.int .i64) _ 2 ?hg (N := 24) ?hd (xs := ([2, 2] : List Int)) (inner := [.int .i64 2, .int .i64 2]) (ok := fun _ => True) (okp := fun _ => True) ?hr ?hp (fun _ hk => hk) trivial (Below.refl _ _) (Nat.le_refl _) (by simp) ?_; (case hd => rfl); (case hg => rfl); (case hr => first | (go_simp; done) | (go_simp; rfl)); (case hp => exact (Reps.one (show Kd.M (Kd.int .i64) _ _ _ 2 [.int .i64 2] from rfl) (Reps.one (show Kd.M (Kd.int .i64) _ _ _ 2 [.int .i64 2] from rfl) (Reps.none _ _)))); intro v161 w23 ho24 hb hg_ hnew_; clear hg_ hnew_; (first | rw [← Ny160.out] at ho24 | (simp only [Int.reduceToNat] at ho24; rw [← Ny160.out] at ho24)); replace HO145 := zK (Kd.N_elder' (zn HO145) (Kd.R_base ho24) hb); have HO162 := zK (Kd.R_lower (Kd.R_new' (Kd.R_new' (Kd.R_new' (Kd.R_new' ho24 (Kd.R_lt (zr HO148))) (Kd.R_lt (zr HO151))) (Kd.R_lt (zr HO156))) (Kd.R_lt (zr HO159))) (below_size (zo HB))); replace HO148 := zK (Kd.R_elder' (zr HO148) (Kd.R_base ho24) hb); replace HO151 := zK (Kd.R_elder' (zr HO151) (Kd.R_base ho24) hb); replace HO156 := zK (Kd.R_elder' (zr HO156) (Kd.R_base ho24) hb); replace HO159 := zK (Kd.R_elder' (zr HO159) (Kd.R_base ho24) hb); replace HB := zK (below_step (zo HB) hb); clear hb ho24; obtain ⟨Ao25, co25, eo25⟩ := Kd.R_slice HO159.out; subst eo25; obtain ⟨Ao26, co26, eo26⟩ := Kd.R_slice HO162.out; subst eo26) | ((with_reducible refine zC (f := 24) rfl ?_); refine goesL_ (some 25) rfl rfl Try.func24 (by kernel_rfl) rfl #[.slice Ao17 y143.length co17, .slice Ao25 y157.length co25, .slice Ao26 y160.length co26] rfl (by (try simp only [List.map_toArray, List.map_cons, List.map_nil]); first | done | rfl | (simp only [List.length_drop, List.length_take]; rfl)) ?_; (with_reducible refine (box_Count.calls k _ _ y143 _ _ y157 _ _ y160 t163 t164 _ ?side1 ?side2 ?side3 ?side4 ?side5 ?side6 A2.out).mono ?_); (case side1 => repeat (first | exact (Kd.N_reads' HO145.out).2.2 | (with_reducible refine cA ?_ _) | (with_reducible refine cN ?_ _) | (with_reducible refine cD ?_))); (case side2 => exact (Kd.N_reads' HO145.out).2.1); (case side3 => repeat (first | exact (Kd.R_reads' HO159.out).2.2 | (with_reducible refine cA ?_ _) | (with_reducible refine cN ?_ _) | (with_reducible refine cD ?_))); (case side4 => exact (Kd.R_reads' HO159.out).2.1); (case side5 => repeat (first | exact (Kd.R_reads' HO162.out).2.2 | (with_reducible refine cA ?_ _) | (with_reducible refine cN ?_ _) | (with_reducible refine cD ?_))); (case side6 => exact (Kd.R_reads' HO162.out).2.1); rintro e w27 ⟨rfl, hb⟩; refine ⟨_, rfl, ?_⟩; replace HO145 := zK (Kd.N_below (zn HO145) hb); replace HO148 := zK (Kd.R_below (zr HO148) hb); replace HO151 := zK (Kd.R_below (zr HO151) hb); replace HO156 := zK (Kd.R_below (zr HO156) hb); replace HO159 := zK (Kd.R_below (zr HO159) hb); replace HO162 := zK (Kd.R_below (zr HO162) hb); replace HB := zK (below_step (zo HB) hb); (try clear hb); (try clear hb2); (try clear hk); (try clear hi)) | ((with_reducible refine gate_dst (N := 39) rfl ?_); (try (refine zG (by rfl) ?_; dsimp only)); refine Kd.R_lit (Kd.int .i64) _ 2 ?hg (N := 39) ?hd (xs := ([1, 2] : List Int)) (inner := [.int .i64 1, .int .i64 2]) (ok := fun _ => True) (okp := fun _ => True) ?hr ?hp (fun _ hk => hk) trivial (Below.refl _ _) (Nat.le_refl _) (by simp) ?_; (case hd => rfl); (case hg => rfl); (case hr => first | (go_simp; done) | (go_simp; rfl)); (case hp => exact (Reps.one (show Kd.M (Kd.int .i64) _ _ _ 1 [.int .i64 1] from rfl) (Reps.one (show Kd.M (Kd.int .i64) _ _ _ 2 [.int .i64 2] from rfl) (Reps.none _ _)))); intro v166 w28 ho29 hb hg_ hnew_; clear hg_ hnew_; (first | rw [← Ny165.out] at ho29 | (simp only [Int.reduceToNat] at ho29; rw [← Ny165.out] at ho29)); replace HO145 := zK (Kd.N_elder' (zn HO145) (Kd.R_base ho29) hb); have HO167 := zK (Kd.R_lower (Kd.R_new' (Kd.R_new' (Kd.R_new' (Kd.R_new' (Kd.R_new' ho29 (Kd.R_lt (zr HO148))) (Kd.R_lt (zr HO151))) (Kd.R_lt (zr HO156))) (Kd.R_lt (zr HO159))) (Kd.R_lt (zr HO162))) (below_size (zo HB))); replace HO148 := zK (Kd.R_elder' (zr HO148) (Kd.R_base ho29) hb); replace HO151 := zK (Kd.R_elder' (zr HO151) (Kd.R_base ho29) hb); replace HO156 := zK (Kd.R_elder' (zr HO156) (Kd.R_base ho29) hb); replace HO159 := zK (Kd.R_elder' (zr HO159) (Kd.R_base ho29) hb); replace HO162 := zK (Kd.R_elder' (zr HO162) (Kd.R_base ho29) hb); replace HB := zK (below_step (zo HB) hb); clear hb ho29; obtain ⟨Ao30, co30, eo30⟩ := Kd.R_slice HO156.out; subst eo30; obtain ⟨Ao31, co31, eo31⟩ := Kd.R_slice HO167.out; subst eo31) | (go_at_call 25; (with_reducible refine (sequiturbase_Int64s.calls k _ _ t152 _ _ y165 true _ ?side1 ?side2 ?side3 ?side4 A6.out).mono ?_); (case side1 => repeat (first | exact (Kd.R_reads' HO156.out).2.2 | (with_reducible refine cA ?_ _) | (with_reducible refine cN ?_ _) | (with_reducible refine cD ?_))); (case side2 => exact (Kd.R_reads' HO156.out).2.1); (case side3 => repeat (first | exact (Kd.R_reads' HO167.out).2.2 | (with_reducible refine cA ?_ _) | (with_reducible refine cN ?_ _) | (with_reducible refine cD ?_))); (case side4 => exact (Kd.R_reads' HO167.out).2.1); rintro e w' ⟨rfl, ⟨nd, rfl⟩⟩))
     go_ret
     exact ⟨by first | rfl | (simp [errW_none, errW_some] <;> rfl) | (simp [*, errW_none, errW_some] <;> rfl), zo HB⟩
    ·replace c7 := Bool.eq_false_iff.mpr c7
     subst c7
     have H1 : (none) = some r := by rw [if_neg (show ¬ (false = true) by decide)] at H; exact H
     clear H; have H := H1; clear H1
     exact absurd H (by simp)
   ·rw [if_neg c5] at H
    exact absurd H (by simp)
  ·rw [if_neg c4] at H
   exact absurd H (by simp)
 ·replace c3 := Bool.eq_false_iff.mpr c3
  subst c3
  have H1 : (none) = some r := by rw [if_neg (show ¬ (false = true) by decide)] at H; exact H
  clear H; have H := H1; clear H1
  exact absurd H (by simp)

/-! ### sequiturlaw32_BoxFirst: function 6, by hand -/
/-! ### the law BoxFirst, by hand -/
def aliveT (k : Nat) : Option Bool := (sequiturlaw32_alive.f k).bind fun t => if t = true then some true else none
theorem aliveT_some {k : Nat} {r : Bool} (h : aliveT k = some r) : sequiturlaw32_alive.f k = some true ∧ r = true := by
 obtain ⟨t, h1, h2⟩ := Option.bind_eq_some_iff.1 h
 cases t with
 | true => exact ⟨h1, (Option.some.inj h2).symm⟩
 | false => cases h2
/-- The law's own round: X, ok: what was found; c: how many held; b: none yet. -/
def sequiturlaw32_BoxFirst.l0 : Nat → List S70 → List Int → List Int → List Int → Bool → List Int → Int → Int → Int → Bool → Option Bool
 | 0, _, _, _, _, _, _, _, _, _, _ => none
 | k + 1, l, lo, hi, X, ok, x, n, j, c, b => if j < n then ((ineq_All.f k l x).bind fun r => if r.2 = 0 then (if r.1 ≥ 0 then ((box_step.f k lo hi x).bind fun y => sequiturlaw32_BoxFirst.l0 k l lo hi X ok y n (j + 1) c b) else (if b = true then (if ok = true then ((sequiturbase_Int64s.f k X x).bind fun t => if t = true then ((box_step.f k lo hi x).bind fun y => sequiturlaw32_BoxFirst.l0 k l lo hi X ok y n (j + 1) (wrap64 (c + 1)) false) else none) else none) else ((box_step.f k lo hi x).bind fun y => sequiturlaw32_BoxFirst.l0 k l lo hi X ok y n (j + 1) (wrap64 (c + 1)) false))) else (if ok = true then (if b = false then aliveT k else none) else none)) else ((box_Count.f k l lo hi).bind fun m => if ok = decide (0 < c) then (if m.1 = c then (if m.2 = 0 then aliveT k else none) else none) else none)
def sequiturlaw32_BoxFirst.f (k : Nat) (l0 : List S70) (l1 l2 : List Int) : Option Bool :=
 (aliveT k).bind fun _ => (sequiturlaw32_Few.f k l0 l1 l2 500).bind fun b => if b = true then ((box_First.f k l0 l1 l2).bind fun F => if F.2.2 = 0 then ((box_size.f k l1 l2).bind fun s => if s.2 = 0 ∧ s.1 ≤ 65536 ∧ l1.length < 17592186044416 ∧ l2.length < 17592186044416 then sequiturlaw32_BoxFirst.l0 k l0 l1 l2 F.1 F.2.1 l1 s.1 0 0 true else none) else (if F.1 = [] ∧ F.2.1 = false then aliveT k else none)) else aliveT k
section rounds
attribute [local go_sem] Oper.semAt_some
set_option maxHeartbeats 8000000 in
set_option maxRecDepth 100000 in
theorem sequiturlaw32_BoxFirst.calls (k : Nat) (A0 : Option Addr) (c0 : Nat) (l0 : List (S70)) (A1 : Option Addr) (c1 : Nat) (l1 : List Int) (A2 : Option Addr) (c2 : Nat) (l2 : List Int) (r : Bool) (w : World) (hr0 : Kd.C k70 w A0 l0.length l0) (hc0 : l0.length ≤ c0) (hr1 : Kd.C (Kd.int .i64) w A1 l1.length l1) (hc1 : l1.length ≤ c1) (hr2 : Kd.C (Kd.int .i64) w A2 l2.length l2) (hc2 : l2.length ≤ c2) (h : sequiturlaw32_BoxFirst.f k l0 l1 l2 = some r) :
  Calls Try.prog 6 #[.slice A0 l0.length c0, .slice A1 l1.length c1, .slice A2 l2.length c2] w fun e w' => e = .returned (.bool r) ∧ Below w.heap.size w w' := by
 have HR0 := zK hr0
 have HC0 := zK hc0
 have HR1 := zK hr1
 have HC1 := zK hc1
 have HR2 := zK hr2
 have HC2 := zK hc2; clear hr0 hc0 hr1 hc1 hr2 hc2
 unfold sequiturlaw32_BoxFirst.f at h
 obtain ⟨t0, hA, h⟩ := Option.bind_eq_some_iff.1 h
 have HA := zK (aliveT_some hA).1; clear hA
 obtain ⟨bf, hF, h⟩ := Option.bind_eq_some_iff.1 h
 cases bf with
 | false =>
  rw [if_neg (by decide)] at h
  obtain ⟨_, rfl⟩ := aliveT_some h
  have HF := zK hF; clear hF h
  go_enter Try.func6, Try.ntmps6
  go_wp2_with (first
   | ((with_reducible refine gate_dst (N := 3) rfl ?_); refine box_event ?hg (N := 3) ?hd (cs := #[.slice A0 l0.length c0]) (t := 22) ?hr ?_; (case hd => rfl); (case hg => rfl); (case hr => first | (go_simp; done) | (go_simp; rfl)); intro b3 hg_ w1 hbox_ hb_; have BB3 := zK hbox_; have HB1 := zK hb_; have G3 := zK hg_; clear hg_ hbox_ hb_)
   | ((with_reducible refine gate_dst (N := 6) rfl ?_); refine box_event ?hg (N := 6) ?hd (cs := #[.bool false]) (t := 4) ?hr ?_; (case hd => rfl); (case hg => rfl); (case hr => first | (go_simp; done) | (go_simp; rfl)); intro b6 hg_ w2 hbox_ hb_; have BB6 := zK hbox_; have HB2 := zK hb_; have G6 := zK hg_; clear hg_ hbox_ hb_)
   | (go_at_call 21; refine (sequiturlaw32_alive.calls k true w2 HA.out).mono ?_; rintro e w3 ⟨rfl, hb_⟩; have HB3 := zK hb_; clear hb_; have hcl := (blk_cell (blk_below (blk_below BB3.out HB2.out) HB3.out) 0).trans rfl)
   | (go_at_call 20; refine (sequiturlaw32_Few.calls k A0 c0 l0 A1 c1 l1 A2 c2 l2 500 false w3 (Kd.C_below (Kd.C_below (Kd.C_below HR0.out HB1.out) HB2.out) HB3.out) HC0.out (Kd.C_below (Kd.C_below (Kd.C_below HR1.out HB1.out) HB2.out) HB3.out) HC1.out (Kd.C_below (Kd.C_below (Kd.C_below HR2.out HB1.out) HB2.out) HB3.out) HC2.out HF.out).mono ?_; rintro e w4 ⟨rfl, hb_⟩; have HB4 := zK hb_; clear hb_ hcl; have hcl := (blk_cell (blk_below (blk_below (blk_below BB3.out HB2.out) HB3.out) HB4.out) 0).trans rfl)
   | (go_at_call 21; refine (sequiturlaw32_alive.calls k true w4 HA.out).mono ?_; rintro e w5 ⟨rfl, hb_⟩; have HB5 := zK hb_; clear hb_; have HK6 := zK (blk_below (blk_below (blk_below BB6.out HB3.out) HB4.out) HB5.out); have hz6 := (blk_cell HK6.out 0).trans rfl; have fz6 := blk_frozen HK6.out 0))
  have v6 := blk_cell (blk_put HK6.out 0 (.bool true) rfl) 0
  refine bodyPost_ret (v := .bool true) (by simp [results, Try.f6, go_sem, v6]) rfl ?_
  exact ⟨rfl, yS (below_step (below_step (below_step (below_step HB1.out HB2.out) HB3.out) HB4.out) HB5.out) (by have h1 := G6.out; have h2 := HB1.out.size; omega)⟩
 | true =>
  rw [if_pos rfl] at h
  obtain ⟨⟨X, ok, e3⟩, hX, h⟩ := Option.bind_eq_some_iff.1 h
  simp only at h
  by_cases he : e3 = 0
  ·rw [if_pos he] at h
   subst he
   obtain ⟨⟨n, e2⟩, hS, h⟩ := Option.bind_eq_some_iff.1 h
   simp only at h
   by_cases hg : e2 = 0 ∧ n ≤ 65536 ∧ l1.length < 17592186044416 ∧ l2.length < 17592186044416
   ·rw [if_pos hg] at h
    obtain ⟨rfl, hn, hl1, hl2⟩ := hg
    have HF := zK hF
    have HX := zK hX
    have HS := zK hS
    have HN := zK hn
    have HL1 := zK hl1
    have HL2 := zK hl2; have H := zK h; clear hF hX hS hn hl1 hl2 h
    refine calls_marks Try.func6 rfl ?_
    simp only [Try.ntmps6, List.size_toArray, List.length_cons, List.length_nil, Nat.reduceAdd, Nat.reduceSub, Array.replicate_succ, Array.replicate_zero, List.push_toArray, List.append_toArray, List.nil_append, List.cons_append]
    go_wp2_with (first
     | ((with_reducible refine gate_dst (N := 3) rfl ?_); refine box_event ?hg (N := 3) ?hd (cs := #[.slice A0 l0.length c0]) (t := 22) ?hr ?_; (case hd => rfl); (case hg => rfl); (case hr => first | (go_simp; done) | (go_simp; rfl)); intro b3 hg_ w1 hbox_ hb_; have BB3 := zK hbox_; have HB1 := zK hb_; have G3 := zK hg_; clear hg_ hbox_ hb_)
     | ((with_reducible refine gate_dst (N := 6) rfl ?_); refine box_event ?hg (N := 6) ?hd (cs := #[.bool false]) (t := 4) ?hr ?_; (case hd => rfl); (case hg => rfl); (case hr => first | (go_simp; done) | (go_simp; rfl)); intro b6 hg_ w2 hbox_ hb_; have BB6 := zK hbox_; have HB2 := zK hb_; have G6 := zK hg_; clear hg_ hbox_ hb_)
     | (go_at_call 21; refine (sequiturlaw32_alive.calls k true w2 HA.out).mono ?_; rintro e w3 ⟨rfl, hb_⟩; have HB3 := zK hb_; clear hb_; have hcl := (blk_cell (blk_below (blk_below BB3.out HB2.out) HB3.out) 0).trans rfl)
     | (go_at_call 20; refine (sequiturlaw32_Few.calls k A0 c0 l0 A1 c1 l1 A2 c2 l2 500 true w3 (Kd.C_below (Kd.C_below (Kd.C_below HR0.out HB1.out) HB2.out) HB3.out) HC0.out (Kd.C_below (Kd.C_below (Kd.C_below HR1.out HB1.out) HB2.out) HB3.out) HC1.out (Kd.C_below (Kd.C_below (Kd.C_below HR2.out HB1.out) HB2.out) HB3.out) HC2.out HF.out).mono ?_; rintro e w4 ⟨rfl, hb_⟩; have HB4 := zK hb_; clear hb_ hcl; have hcl := (blk_cell (blk_below (blk_below (blk_below BB3.out HB2.out) HB3.out) HB4.out) 0).trans rfl)
     | (go_at_call 22; refine (box_First.calls k A0 c0 l0 A1 c1 l1 A2 c2 l2 X ok 0 w4 (Kd.C_below (Kd.C_below (Kd.C_below (Kd.C_below HR0.out HB1.out) HB2.out) HB3.out) HB4.out) HC0.out (Kd.C_below (Kd.C_below (Kd.C_below (Kd.C_below HR1.out HB1.out) HB2.out) HB3.out) HB4.out) HC1.out (Kd.C_below (Kd.C_below (Kd.C_below (Kd.C_below HR2.out HB1.out) HB2.out) HB3.out) HB4.out) HC2.out HX.out).mono ?_; rintro e w5 ⟨v5, rfl, hR_, hb_⟩; have HB5 := zK hb_; have HO5 := zK hR_; clear hb_ hR_ hcl; obtain ⟨Ax, cx, eo5⟩ := Kd.R_slice HO5.out; subst eo5; have hcl := (blk_cell (blk_below (blk_below (blk_below (blk_below BB3.out HB2.out) HB3.out) HB4.out) HB5.out) 0).trans rfl)
     | ((with_reducible refine gate_dst (N := 7) rfl ?_); refine box_event ?hg (N := 7) ?hd (cs := #[.slice none 0 0]) (t := 33) ?hr ?_; (case hd => rfl); (case hg => rfl); (case hr => first | (go_simp; done) | (go_simp; rfl)); intro b7 hg_ w6 hbox_ hb_; have BB7 := zK hbox_; have HB6 := zK hb_; have G7 := zK hg_; clear hg_ hbox_ hb_)
     | ((with_reducible refine gate_dst (N := 8) rfl ?_); refine box_event ?hg (N := 8) ?hd (cs := #[.bool false]) (t := 4) ?hr ?_; (case hd => rfl); (case hg => rfl); (case hr => first | (go_simp; done) | (go_simp; rfl)); intro b8 hg_ w7 hbox_ hb_; have BB8 := zK hbox_; have HB7 := zK hb_; have G8 := zK hg_; clear hg_ hbox_ hb_; have B77 := zK (blk_below BB7.out HB7.out); have hz7 := (blk_cell B77.out 0).trans rfl; have hz8 := (blk_cell BB8.out 0).trans rfl; have fz7 := blk_frozen B77.out 0; have fz8 := blk_frozen BB8.out 0; have n78 : b7 ≠ b8 := (by have h1 := G8.out; have h2 := blk_lt BB7.out; omega); have n87 := Ne.symm n78; have HB7s := zK (yS (j := 0) (v := .bool ok) (yS (j := 0) (v := .slice Ax X.length cx) (below_step HB6.out HB7.out) (Nat.le_of_eq G7.out.symm)) (by have h1 := G8.out; have h2 := HB6.out.size; omega : w5.heap.size ≤ b8)))
     | ((with_reducible refine gate_dst (N := 10) rfl ?_); refine box_event ?hg (N := 10) ?hd (cs := #[.int .i64 0]) (t := 3) ?hr ?_; (case hd => rfl); (case hg => rfl); (case hr => first | (go_simp; done) | (go_simp; rfl)); intro b10 hg_ w8 hbox_ hb_; have BB10 := zK hbox_; have HB8 := zK hb_; have G10 := zK hg_; clear hg_ hbox_ hb_; have hz10 := (blk_cell BB10.out 0).trans rfl; have fz10 := blk_frozen BB10.out 0; have HB8s := zK (yS (j := 0) (v := .int .i64 0) HB8.out (Nat.le_of_eq G10.out.symm)))
     | ((with_reducible refine gate_dst (N := 11) rfl ?_); refine box_event ?hg (N := 11) ?hd (cs := #[.bool false]) (t := 4) ?hr ?_; (case hd => rfl); (case hg => rfl); (case hr => first | (go_simp; done) | (go_simp; rfl)); intro b11 hg_ w9 hbox_ hb_; have BB11 := zK hbox_; have HB9 := zK hb_; have G11 := zK hg_; clear hg_ hbox_ hb_; have hz11 := (blk_cell BB11.out 0).trans rfl; have fz11 := blk_frozen BB11.out 0; have HB9s := zK (below_step (below_step HB7s.out HB8s.out) (yS (j := 0) (v := .bool true) HB9.out (Nat.le_of_eq G11.out.symm))))
     | (go_at_call 27; refine (boxAll.calls A1 A2 c1 c2 l1 l2 _ ?q1 ?q2 HL1.out HL2.out).mono ?_; (case q1 => exact Kd.C_below (Kd.C_below (Kd.C_below (Kd.C_below (Kd.C_below (Kd.C_below HR1.out HB1.out) HB2.out) HB3.out) HB4.out) HB5.out) HB9s.out); (case q2 => exact Kd.C_below (Kd.C_below (Kd.C_below (Kd.C_below (Kd.C_below (Kd.C_below HR2.out HB1.out) HB2.out) HB3.out) HB4.out) HB5.out) HB9s.out); rintro e w10 ⟨Bl, Bh, E1, E2, d1, d2, rfl, hbl, hbh, ⟨hq1, hd1⟩, ⟨hq2, hd2⟩, hfr, hb_⟩; have HB10 := zK hb_; have HBL := zK hbl; have HBH := zK hbh; have HQ1 := zK hq1; have HQ2 := zK hq2; have HFR := zK hfr; clear hb_ hbl hbh hq1 hq2 hfr))
    have h53 := blk_below (blk_below (blk_below (blk_below BB3.out HB2.out) HB3.out) HB4.out) HB5.out
    have h56 := blk_below (blk_below (blk_below BB6.out HB3.out) HB4.out) HB5.out
    have L3 := blk_lt h53
    have L6 := blk_lt h56
    have s1 := HB1.out.size
    have s2 := HB2.out.size
    have s3 := HB3.out.size
    have s4 := HB4.out.size
    have s5 := HB5.out.size
    have s6 := HB6.out.size
    have s7 := HB7.out.size
    have e7 : b7 = w5.heap.size := G7.out
    have e8 : b8 = w6.heap.size := G8.out
    have e10 : b10 = w7.heap.size := by have := G10.out; simpa [World.setCell] using this
    have e11 : b11 = w8.heap.size := by have := G11.out; simpa [World.setCell] using this
    have l7 := blk_lt BB7.out
    have l8 := blk_lt BB8.out
    have l10 := blk_lt BB10.out
    have l11 := blk_lt BB11.out
    have M6 : w.heap.size ≤ b6 := by have h1 := G6.out; omega
    have n610 : b6 ≠ b10 := by omega
    have n611 : b6 ≠ b11 := by omega
    have n710 : b7 ≠ b10 := by omega
    have n711 : b7 ≠ b11 := by omega
    have n810 : b8 ≠ b10 := by omega
    have n811 : b8 ≠ b11 := by omega
    have n1011 : b10 ≠ b11 := by omega
    have n106 := Ne.symm n610
    have n116 := Ne.symm n611
    have n1110 := Ne.symm n1011
    have p7 := blk_far (blk_below (blk_far (blk_below (blk_far (blk_put B77.out 0 (.slice Ax X.length cx) rfl) (p := ⟨b8, 0, none⟩) n78 (.bool ok)) HB8.out) (p := ⟨b10, 0, none⟩) n710 (.int .i64 0)) HB9.out) (p := ⟨b11, 0, none⟩) n711 (.bool true)
    have p8 := blk_far (blk_below (blk_far (blk_below (blk_put (blk_far BB8.out (p := ⟨b7, 0, none⟩) n87 (.slice Ax X.length cx)) 0 (.bool ok) rfl) HB8.out) (p := ⟨b10, 0, none⟩) n810 (.int .i64 0)) HB9.out) (p := ⟨b11, 0, none⟩) n811 (.bool true)
    have p10 := blk_far (blk_below (blk_put (cs' := #[.int .i64 0]) BB10.out 0 (.int .i64 0) rfl) HB9.out) (p := ⟨b11, 0, none⟩) n1011 (.bool true)
    have p11 := blk_put BB11.out 0 (.bool true) rfl
    have l7' := blk_lt p7
    have l8' := blk_lt p8
    have l10' := blk_lt p10
    have l11' := blk_lt p11
    have h5 := below_step HB9s.out HB10.out
    have hw5 : Below w.heap.size w w5 := below_step (below_step (below_step (below_step HB1.out HB2.out) HB3.out) HB4.out) HB5.out
    have hE5 : w.heap.size ≤ w5.heap.size := hw5.size
    have hE10 : w5.heap.size ≤ w10.heap.size := h5.size
    have q7 := blk_below p7 HB10.out
    have q8 := blk_below p8 HB10.out
    have q10 := blk_below p10 HB10.out
    have q11 := blk_below p11 HB10.out
    have sz10 := HB10.out.size
    have M10 : w5.heap.size ≤ b10 := by omega
    have M11 : w5.heap.size ≤ b11 := by omega
    have L7 : b7 < w10.heap.size := by omega
    have L8 : b8 < w10.heap.size := by omega
    have L10 : b10 < w10.heap.size := by omega
    have L11 : b11 < w10.heap.size := by omega
    clear e7 e8 e10 e11 s1 s2 s3 s4 s5 s6 s7 l7 l8 l10 l11 hz7 hz8 fz7 fz8 hz10 fz10 hz11 fz11
    refine wp_range (gf := 53) (lb := #[.pointer (some ⟨Bl, 0, none⟩), .pointer (some ⟨Bh, 0, none⟩)]) rfl (enters_of Try.func53 (by kernel_rfl) rfl) rfl
     (May := fun b => b = b6 ∨ b = b10 ∨ b = b11) (more := boxMore n 0) (nxt := boxNxt l1 l2) (s0 := (l1, 0)) (enc := boxEnc)
     (fun W hb => boxAll1 k Bl Bh E1 E2 d1 d2 l1 l2 n 0 W _ (blk_below HBL.out hb) (blk_below HBH.out hb) (Kd.C_below HQ1.out hb) hd1 (Kd.C_below HQ2.out hb) hd2 (fun b hm => ?hM) HS.out HN.out HL1.out)
     (fun b hm => by rcases hm with rfl | rfl | rfl <;> omega) boxEnc_step
     (fun m s W => (∃ kq c b, sequiturlaw32_BoxFirst.l0 kq l0 l1 l2 X ok s.1 n s.2 c b = some r ∧ W.heap[b10]? = some (.cells #[.int .i64 c] 3 (0, 0)) ∧ W.heap[b11]? = some (.cells #[.bool b] 4 (0, 0))) ∧ W.heap[b7]? = some (.cells #[.slice Ax X.length cx] 33 (0, 0)) ∧ W.heap[b8]? = some (.cells #[.bool ok] 4 (0, 0)) ∧ Below w5.heap.size w5 W)
     (fun c m W => c = .ret ∧ W.heap[b6]? = some (.cells #[.bool r] 4 (0, 0)) ∧ Below w.heap.size w W)
     ?hI ?hIx ?h0 ?round ?done ?stop
    case hM =>
     have hlt : b < (w9.setCell ⟨b11, 0, none⟩ (.bool true)).heap.size := by
      rcases hm with rfl | rfl | rfl
      ·have := HB9s.out.size; omega
      ·exact l10'
      ·exact l11'
     obtain ⟨f1, f2⟩ := HFR.out b hlt
     exact ⟨Nat.lt_of_lt_of_le f1 hb.size, f2⟩
    case hI =>
     rintro m s A B ⟨⟨kq, c, b, hk, g10, g11⟩, g7, g8, hb⟩ hs
     exact ⟨⟨kq, c, b, hk, hs.blk g10 (by omega), hs.blk g11 (by omega)⟩, hs.blk g7 (by omega), hs.blk g8 (by omega), hs.below' hb hE10 (Nat.le_refl _)⟩
    case hIx =>
     rintro c m A B ⟨hc, g6, hb⟩ hs
     exact ⟨hc, hs.blk g6 (by omega), hs.below' hb (by omega) (Nat.le_refl _)⟩
    case h0 =>
     intro W hb
     exact ⟨⟨k, 0, true, H.out, blk_below q10 hb, blk_below q11 hb⟩, blk_below q7 hb, blk_below q8 hb, h5.trans (hb.mono hE10)⟩
    case round =>
     intro l m s v W hm hm2
     gi_wp2
     refine ⟨trivial, ?_⟩
     rintro Wb ⟨⟨kq, c, b, hq, g10, g11⟩, g7, g8, hb⟩ hn he
     obtain ⟨Av, cv, rfl⟩ := Kd.R_slice he
     obtain ⟨_, hcv, hCv⟩ := Kd.R_reads' he
     cases kq with
     | zero => exact absurd hq (by simp [sequiturlaw32_BoxFirst.l0])
     | succ kq =>
      simp only [sequiturlaw32_BoxFirst.l0] at hq
      rw [if_pos hm.2] at hq
      obtain ⟨⟨q1, q2⟩, hA, hq⟩ := Option.bind_eq_some_iff.1 hq
      simp only at hq
      have CA := zK (ineq_All.calls kq A0 c0 l0 Av cv s.1 q1 q2 Wb (Kd.C_below (Kd.C_below (Kd.C_below (Kd.C_below (Kd.C_below (Kd.C_below HR0.out HB1.out) HB2.out) HB3.out) HB4.out) HB5.out) hb) HC0.out hCv hcv hA)
      have hz3 := (blk_cell (blk_below h53 hb) 0).trans rfl
      gi_wp2
      refine ⟨trivial, rfl, (CallsIn.inRound l (callsIn_wide.2 CA.out)).mono ?_⟩
      rintro e W' ⟨rfl, hB'⟩
      have hBw : Below w5.heap.size w5 W' := hb.trans (hB'.mono hb.size)
      have hRS : RStep (fun b => b = b6 ∨ b = b10 ∨ b = b11) m Wb W' := RStep.of_below hB' hn
      have k6 := blk_below h56 hBw
      have k7 := blk_below g7 hB'
      have k8 := blk_below g8 hB'
      have k10 := blk_below g10 hB'
      have k11 := blk_below g11 hB'
      have hz6 := (blk_cell k6 0).trans rfl
      have hz7 := (blk_cell k7 0).trans rfl
      have hz8 := (blk_cell k8 0).trans rfl
      have hz10 := (blk_cell k10 0).trans rfl
      have hz11 := (blk_cell k11 0).trans rfl
      have fz6 := blk_frozen k6 0
      have fz10 := blk_frozen k10 0
      have fz11 := blk_frozen k11 0; clear CA hA hz3
      by_cases z1 : q2 = 0
      ·subst z1
       rw [if_pos rfl] at hq
       by_cases z2 : q1 ≥ 0
       ·rw [if_pos z2] at hq
        have z2b : decide (0 ≤ q1) = true := decide_eq_true z2
        obtain ⟨y, hy, hq⟩ := Option.bind_eq_some_iff.1 hq
        have HY := zK hy
        have HQ := zK hq; clear hy hq
        gi_wp2
        exact ⟨hRS, (y, s.2 + 1), ⟨rfl, kq, HY.out⟩, ⟨kq, c, b, HQ.out, k10, k11⟩, k7, k8, hBw⟩
       ·rw [if_neg z2] at hq
        have z2b : decide (0 ≤ q1) = false := decide_eq_false z2
        have r11 : RStep (fun b => b = b6 ∨ b = b10 ∨ b = b11) m Wb (W'.setCell ⟨b10, 0, none⟩ (.int .i64 (wrap64 (c + 1)))) := hRS.setCell (.inr (.inl rfl)) _
        have B10 : Below w5.heap.size w5 (W'.setCell ⟨b10, 0, none⟩ (.int .i64 (wrap64 (c + 1)))) := yS hBw (by omega)
        cases b with
        | true =>
         rw [if_pos rfl] at hq
         cases ok with
         | false => rw [if_neg (by decide)] at hq; cases hq
         | true =>
          rw [if_pos rfl] at hq
          obtain ⟨t, ht, hq⟩ := Option.bind_eq_some_iff.1 hq
          cases t with
          | false => rw [if_neg (by decide)] at hq; cases hq
          | true =>
           rw [if_pos rfl] at hq
           obtain ⟨y, hy, hq⟩ := Option.bind_eq_some_iff.1 hq
           have HY := zK hy
           have HQ := zK hq
           have hvx : Kd.C (Kd.int .i64) (W'.setCell ⟨b10, 0, none⟩ (.int .i64 (wrap64 (c + 1)))) Av s.1.length s.1 := (Kd.R_reads' (Kd.R_far (Kd.R_mono (ok' := fun z => m ≤ z) (Kd.R_bound (Kd.R_below he hB')) (fun _ hk => hk.2.1)) (p := ⟨b10, 0, none⟩) (fun z hz => by show z ≠ b10; omega) _)).2.2
           have CI := zK (sequiturbase_Int64s.calls kq Ax cx X Av cv s.1 true _ (Kd.C_below (Kd.R_reads' HO5.out).2.2 B10) (Kd.R_reads' HO5.out).2.1 hvx hcv ht)
           clear hy hq ht hvx
           gi_wp2
           refine ⟨trivial, rfl, (CallsIn.inRound l (callsIn_wide.2 CI.out)).mono ?_⟩
           rintro e W2 ⟨rfl, ⟨nd, rfl⟩⟩
           gi_wp2
           exact ⟨(r11.drewN nd).setCell (.inr (.inr rfl)) _, (y, s.2 + 1), ⟨rfl, kq, HY.out⟩, ⟨kq, wrap64 (c + 1), false, HQ.out, blk_far (zN (blk_put k10 0 _ rfl) nd) (p := ⟨b11, 0, none⟩) n1011 _, blk_put (zN (blk_far k11 (p := ⟨b10, 0, none⟩) n1110 _) nd) 0 _ rfl⟩, blk_far (zN (blk_far k7 (p := ⟨b10, 0, none⟩) n710 _) nd) (p := ⟨b11, 0, none⟩) n711 _, blk_far (zN (blk_far k8 (p := ⟨b10, 0, none⟩) n810 _) nd) (p := ⟨b11, 0, none⟩) n811 _, yS (yN B10 nd) (by omega)⟩
        | false =>
         rw [if_neg (by decide)] at hq
         obtain ⟨y, hy, hq⟩ := Option.bind_eq_some_iff.1 hq
         have HY := zK hy
         have HQ := zK hq; clear hy hq
         gi_wp2
         any_goals (exfalso; rename_i h1 _; exact absurd h1 (by simp [undef]))
         ·refine ⟨trivial, ?_⟩
          gi_wp2
          exact ⟨r11.setCell (.inr (.inr rfl)) _, (y, s.2 + 1), ⟨rfl, kq, HY.out⟩, ⟨kq, wrap64 (c + 1), false, HQ.out, blk_far (blk_put k10 0 _ rfl) (p := ⟨b11, 0, none⟩) n1011 _, blk_put (blk_far k11 (p := ⟨b10, 0, none⟩) n1110 _) 0 _ rfl⟩, blk_far (blk_far k7 (p := ⟨b10, 0, none⟩) n710 _) (p := ⟨b11, 0, none⟩) n711 _, blk_far (blk_far k8 (p := ⟨b10, 0, none⟩) n810 _) (p := ⟨b11, 0, none⟩) n811 _, yS B10 (by omega)⟩
      ·rw [if_neg z1] at hq
       have z1b : (q2 != 0) = true := bne_iff_ne.mpr z1
       cases ok with
       | false => rw [if_neg (by decide)] at hq; cases hq
       | true =>
        rw [if_pos rfl] at hq
        cases b with
        | true => rw [if_neg (by decide)] at hq; cases hq
        | false =>
         rw [if_pos rfl] at hq
         obtain ⟨ha, rfl⟩ := aliveT_some hq
         have CL := zK (sequiturlaw32_alive.calls kq true W' ha); clear hq ha
         gi_wp2
         refine ⟨trivial, rfl, (CallsIn.inRound l (callsIn_wide.2 CL.out)).mono ?_⟩
         rintro e W2 ⟨rfl, hB2⟩
         have j6 := blk_below k6 hB2
         have hy6 := (blk_cell j6 0).trans rfl
         have fy6 := blk_frozen j6 0
         have hsm : m ≤ W'.heap.size := Nat.le_trans hn hB'.size
         gi_wp2
         exact ⟨(hRS.trans (RStep.of_below hB2 hsm)).setCell (.inl rfl) _, rfl, blk_put j6 0 _ rfl, yS (below_step (hw5.trans (hBw.mono hE5)) hB2) M6⟩
    case done =>
     rintro m s W ⟨⟨kq, c, b, hq, g10, g11⟩, g7, g8, hb⟩ hm hK
     cases kq with
     | zero => exact absurd hq (by simp [sequiturlaw32_BoxFirst.l0])
     | succ kq =>
      simp only [sequiturlaw32_BoxFirst.l0] at hq
      rw [if_neg (fun e => hm ⟨rfl, e⟩)] at hq
      obtain ⟨⟨m1, m2⟩, hC, hq⟩ := Option.bind_eq_some_iff.1 hq
      simp only at hq
      by_cases z1 : ok = decide (0 < c)
      ·rw [if_pos z1] at hq
       by_cases z2 : m1 = c
       ·rw [if_pos z2] at hq
        by_cases z3 : m2 = 0
        ·rw [if_pos z3] at hq
         obtain ⟨ha, rfl⟩ := aliveT_some hq
         subst z2
         subst z3
         have z1b : (ok == decide (0 < m1)) = true := beq_iff_eq.mpr z1
         have CC := zK (box_Count.calls kq A0 c0 l0 A1 c1 l1 A2 c2 l2 m1 0 W (Kd.C_below (Kd.C_below (Kd.C_below (Kd.C_below (Kd.C_below (Kd.C_below HR0.out HB1.out) HB2.out) HB3.out) HB4.out) HB5.out) hb) HC0.out (Kd.C_below (Kd.C_below (Kd.C_below (Kd.C_below (Kd.C_below (Kd.C_below HR1.out HB1.out) HB2.out) HB3.out) HB4.out) HB5.out) hb) HC1.out (Kd.C_below (Kd.C_below (Kd.C_below (Kd.C_below (Kd.C_below (Kd.C_below HR2.out HB1.out) HB2.out) HB3.out) HB4.out) HB5.out) hb) HC2.out hC)
         have CL := zK (fun W => sequiturlaw32_alive.calls kq true W ha)
         have hz3 := (blk_cell (blk_below h53 hb) 0).trans rfl; clear hq ha hC
         dsimp only
         go_wp2_with (first
          | (go_at_call 24; refine CC.out.mono ?_; rintro e W2 ⟨rfl, hb_⟩; have HW2 := zK hb_; clear hb_; have hz8 := (blk_cell (blk_below g8 HW2.out) 0).trans rfl; have hz10 := (blk_cell (blk_below g10 HW2.out) 0).trans rfl)
          | (go_at_call 21; refine (CL.out _).mono ?_; rintro e W3 ⟨rfl, hb_⟩; have HW3 := zK hb_; clear hb_; have HJ6 := zK (blk_below (blk_below (blk_below h56 hb) HW2.out) HW3.out); have hz6 := (blk_cell HJ6.out 0).trans rfl; have fz6 := blk_frozen HJ6.out 0))
         have hD : ((W3.setCell ⟨b6, 0, none⟩ (.bool true)).heap[w10.heap.size]? = some (.deferred (some []))) := (Below.heap_setCell _ _ _ _ (by show _ ≠ b6; omega)).trans (blk_below (blk_below hK HW2.out) HW3.out)
         refine ⟨by simp, .inl ⟨_, _, rfl, run_takeDeferred hD, ?_⟩⟩
         have v6 := blk_cell (blk_putObj (o' := .deferred none) (blk_put HJ6.out 0 (.bool true) rfl) (D := w10.heap.size) (by omega)) 0
         refine ⟨.bool true, ?_, rfl, below_putObj (yS (below_step (below_step (hw5.trans (hb.mono hE5)) HW2.out) HW3.out) M6) (by omega)⟩
         simp [results, Try.f6, go_sem, v6]
        ·rw [if_neg z3] at hq; cases hq
       ·rw [if_neg z2] at hq; cases hq
      ·rw [if_neg z1] at hq; cases hq
    case stop =>
     rintro c m W ⟨rfl, g6, hb⟩ hK
     dsimp only
     go_wp2
     refine ⟨by simp, .inl ⟨_, _, rfl, run_takeDeferred hK, ?_⟩⟩
     have v6 := blk_cell (blk_putObj (o' := .deferred none) g6 (D := w10.heap.size) (by omega)) 0
     refine ⟨.bool r, ?_, rfl, below_putObj hb (by omega)⟩
     simp [results, Try.f6, go_sem, v6]
   ·rw [if_neg hg] at h; cases h
  ·rw [if_neg he] at h
   by_cases hg : X = [] ∧ ok = false
   ·rw [if_pos hg] at h
    obtain ⟨rfl, rfl⟩ := hg
    obtain ⟨_, rfl⟩ := aliveT_some h
    have HF := zK hF
    have HX := zK hX
    have he1 : (e3 != 0) = true := bne_iff_ne.mpr he; clear hF hX h
    go_enter Try.func6, Try.ntmps6
    go_wp2_with (first
     | ((with_reducible refine gate_dst (N := 3) rfl ?_); refine box_event ?hg (N := 3) ?hd (cs := #[.slice A0 l0.length c0]) (t := 22) ?hr ?_; (case hd => rfl); (case hg => rfl); (case hr => first | (go_simp; done) | (go_simp; rfl)); intro b3 hg_ w1 hbox_ hb_; have BB3 := zK hbox_; have HB1 := zK hb_; have G3 := zK hg_; clear hg_ hbox_ hb_)
     | ((with_reducible refine gate_dst (N := 6) rfl ?_); refine box_event ?hg (N := 6) ?hd (cs := #[.bool false]) (t := 4) ?hr ?_; (case hd => rfl); (case hg => rfl); (case hr => first | (go_simp; done) | (go_simp; rfl)); intro b6 hg_ w2 hbox_ hb_; have BB6 := zK hbox_; have HB2 := zK hb_; have G6 := zK hg_; clear hg_ hbox_ hb_)
     | (go_at_call 21; refine (sequiturlaw32_alive.calls k true w2 HA.out).mono ?_; rintro e w3 ⟨rfl, hb_⟩; have HB3 := zK hb_; clear hb_; have hcl := (blk_cell (blk_below (blk_below BB3.out HB2.out) HB3.out) 0).trans rfl)
     | (go_at_call 20; refine (sequiturlaw32_Few.calls k A0 c0 l0 A1 c1 l1 A2 c2 l2 500 true w3 (Kd.C_below (Kd.C_below (Kd.C_below HR0.out HB1.out) HB2.out) HB3.out) HC0.out (Kd.C_below (Kd.C_below (Kd.C_below HR1.out HB1.out) HB2.out) HB3.out) HC1.out (Kd.C_below (Kd.C_below (Kd.C_below HR2.out HB1.out) HB2.out) HB3.out) HC2.out HF.out).mono ?_; rintro e w4 ⟨rfl, hb_⟩; have HB4 := zK hb_; clear hb_ hcl; have hcl := (blk_cell (blk_below (blk_below (blk_below BB3.out HB2.out) HB3.out) HB4.out) 0).trans rfl)
     | (go_at_call 22; refine (box_First.calls k A0 c0 l0 A1 c1 l1 A2 c2 l2 [] false e3 w4 (Kd.C_below (Kd.C_below (Kd.C_below (Kd.C_below HR0.out HB1.out) HB2.out) HB3.out) HB4.out) HC0.out (Kd.C_below (Kd.C_below (Kd.C_below (Kd.C_below HR1.out HB1.out) HB2.out) HB3.out) HB4.out) HC1.out (Kd.C_below (Kd.C_below (Kd.C_below (Kd.C_below HR2.out HB1.out) HB2.out) HB3.out) HB4.out) HC2.out HX.out).mono ?_; rintro e w5 ⟨v5, rfl, hR_, hb_⟩; have HB5 := zK hb_; have HO5 := zK hR_; clear hb_ hR_ hcl; obtain ⟨Ax, cx, eo5⟩ := Kd.R_slice HO5.out; subst eo5; have hcl := (blk_cell (blk_below (blk_below (blk_below (blk_below BB3.out HB2.out) HB3.out) HB4.out) HB5.out) 0).trans rfl)
     | ((with_reducible refine gate_dst (N := 7) rfl ?_); refine box_event ?hg (N := 7) ?hd (cs := #[.slice none 0 0]) (t := 33) ?hr ?_; (case hd => rfl); (case hg => rfl); (case hr => first | (go_simp; done) | (go_simp; rfl)); intro b7 hg_ w6 hbox_ hb_; have BB7 := zK hbox_; have HB6 := zK hb_; have G7 := zK hg_; clear hg_ hbox_ hb_)
     | ((with_reducible refine gate_dst (N := 8) rfl ?_); refine box_event ?hg (N := 8) ?hd (cs := #[.bool false]) (t := 4) ?hr ?_; (case hd => rfl); (case hg => rfl); (case hr => first | (go_simp; done) | (go_simp; rfl)); intro b8 hg_ w7 hbox_ hb_; have BB8 := zK hbox_; have HB7 := zK hb_; have G8 := zK hg_; clear hg_ hbox_ hb_; have B77 := zK (blk_below BB7.out HB7.out); have hz7 := (blk_cell B77.out 0).trans rfl; have hz8 := (blk_cell BB8.out 0).trans rfl; have fz7 := blk_frozen B77.out 0; have fz8 := blk_frozen BB8.out 0; have n78 : b7 ≠ b8 := (by have h1 := G8.out; have h2 := blk_lt BB7.out; omega); have n87 := Ne.symm n78; have HB7s := zK (yS (j := 0) (v := .bool false) (yS (j := 0) (v := .slice Ax ([] : List Int).length cx) (below_step HB6.out HB7.out) (Nat.le_of_eq G7.out.symm)) (by have h1 := G8.out; have h2 := HB6.out.size; omega : w5.heap.size ≤ b8)))
     | (go_at_call 21; refine (sequiturlaw32_alive.calls k true _ HA.out).mono ?_; rintro e w8 ⟨rfl, hb_⟩; have HB8 := zK hb_; clear hb_; have HK6 := zK (blk_below (blk_below (blk_below (blk_below (blk_below BB6.out HB3.out) HB4.out) HB5.out) HB7s.out) HB8.out); have hz6 := (blk_cell HK6.out 0).trans rfl; have fz6 := blk_frozen HK6.out 0))
    have v6 := blk_cell (blk_put HK6.out 0 (.bool true) rfl) 0
    refine bodyPost_ret (v := .bool true) (by simp [results, Try.f6, go_sem, v6]) rfl ?_
    exact ⟨rfl, yS (below_step (below_step (below_step (below_step (below_step (below_step HB1.out HB2.out) HB3.out) HB4.out) HB5.out) HB7s.out) HB8.out) (by have h1 := G6.out; have h2 := HB1.out.size; omega)⟩
   ·rw [if_neg hg] at h; cases h
end rounds

end Go.Proofs.Ytkfbfgkdabljiaa.PBoxFirst
