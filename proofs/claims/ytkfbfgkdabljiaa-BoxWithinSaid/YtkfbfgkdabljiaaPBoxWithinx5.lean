/- What the call of each function that the law reaches comes to: it answers as the plain function of the same name does, wherever that one answers; and the law itself out of its plain form. Written by a program of this session (an extended copy of the printer); no condition but what stands in each theorem. -/
import Derived.Test.YtkfbfgkdabljiaaPBoxWithinx0
import Derived.Test.YtkfbfgkdabljiaaPBoxWithinx3
import Derived.Test.YtkfbfgkdabljiaaPBoxWithinx4
namespace Go.Proofs.Ytkfbfgkdabljiaa.PBoxWithin
open Go.RowKit Go.Proofs.YtkfbfgkdabljiaaW.PrintWords Go.Proofs.YtkfbfgkdabljiaaW.PrintLast Go.Proofs.YtkfbfgkdabljiaaW.PrintMore
open Go.Proofs.YtkfbfgkdabljiaaW.PrintWords renaming below_alloc → yA, pw_below_drewN → yN, below_drew1 → yD, below_set → yS, gate_callee → zC, gate_guard → zG
open Go.Proofs.YtkfbfgkdabljiaaW.PrintWords.Kd renaming N_alloc → nA, N_drewN → nN, N_drew → nD, C_alloc → cA, C_drewN → cN, C_drew → cD
open Go.Proofs.YtkfbfgkdabljiaaW.PrintWords.Aside0 renaming mk → zK
attribute [local go_sem] max2_int min2_int max_two min_two max_three min_three max_four min_four   -- for this text's walks alone
set_option linter.unusedVariables false
set_option linter.unusedSimpArgs false

/-! ### box_Count: function 24, by hand -/
/-! ### box.Count -/
/-- The points from x on, one after another: at how many all hold. -/
def box_Count.l0 : Nat → List S70 → List Int → List Int → List Int → Int → Int → Int → Option (Int × Int)
 | 0, _, _, _, _, _, _, _ => none
 | k + 1, l, lo, hi, x, n, j, c => if j < n then ((ineq_All.f k l x).bind fun r => if r.2 = 0 then ((box_step.f k lo hi x).bind fun y => box_Count.l0 k l lo hi y n (j + 1) (if r.1 < 0 then wrap64 (c + 1) else c)) else some (0, r.2)) else some (c, 0)
def box_Count.f (k : Nat) (l0 : List S70) (l1 l2 : List Int) : Option (Int × Int) :=
 (box_check.f k l0 l1 l2).bind fun e => if e = 0 then ((box_size.f k l1 l2).bind fun s => if s.2 = 0 then (if s.1 ≤ 65536 then (if l1.length < 17592186044416 then (if l2.length < 17592186044416 then box_Count.l0 k l0 l1 l2 l1 s.1 0 0 else none) else none) else none) else none) else some (0, e)
theorem box_Count.mono_l : ∀ k y0 y1 y2 y3 y4 y5 y6, LeO (box_Count.l0 k y0 y1 y2 y3 y4 y5 y6) (box_Count.l0 (k + 1) y0 y1 y2 y3 y4 y5 y6)
 | 0, _, _, _, _, _, _, _ => LeO.none _
 | k + 1, y0, y1, y2, y3, y4, y5, y6 => by
   have ih0 := box_Count.mono_l k
   unfold box_Count.l0
   repeat' first
    | (with_reducible exact ih0 _ _ _ _ _ _ _)
    | (with_reducible exact ineq_All.mono _ _ _)
    | (with_reducible exact box_step.mono _ _ _ _)
    | (with_reducible exact LeO.refl _)
    | (with_reducible exact LeO.none _)
    | (with_reducible refine LeO.ite ?_ ?_)
    | (with_reducible refine LeO.bind ?_ (fun _ => ?_))
theorem box_Count.mono : ∀ a0 a1 a2 k, LeO (box_Count.f k a0 a1 a2) (box_Count.f (k + 1) a0 a1 a2) := by
 intro a0 a1 a2 k
 have ih0 := box_Count.mono_l k
 unfold box_Count.f
 repeat' first
  | (with_reducible exact ih0 _ _ _ _ _ _ _)
  | (with_reducible exact box_check.mono _ _ _ _)
  | (with_reducible exact box_size.mono _ _ _)
  | (with_reducible exact LeO.refl _)
  | (with_reducible exact LeO.none _)
  | (with_reducible refine LeO.ite ?_ ?_)
  | (with_reducible refine LeO.bind ?_ (fun _ => ?_))
section rounds
attribute [local go_sem] Oper.semAt_some
set_option maxHeartbeats 8000000 in
set_option maxRecDepth 100000 in
theorem box_Count.calls (k : Nat) (A0 : Option Addr) (c0 : Nat) (l0 : List (S70)) (A1 : Option Addr) (c1 : Nat) (l1 : List Int) (A2 : Option Addr) (c2 : Nat) (l2 : List Int) (r1 : Int) (r2 : Int) (w : World) (hr0 : Kd.C k70 w A0 l0.length l0) (hc0 : l0.length ≤ c0) (hr1 : Kd.C (Kd.int .i64) w A1 l1.length l1) (hc1 : l1.length ≤ c1) (hr2 : Kd.C (Kd.int .i64) w A2 l2.length l2) (hc2 : l2.length ≤ c2) (h : box_Count.f k l0 l1 l2 = some (r1, r2)) :
  Calls Try.prog 24 #[.slice A0 l0.length c0, .slice A1 l1.length c1, .slice A2 l2.length c2] w fun e w' => e = .returned (.tuple #[.int .i64 r1, .int .i64 r2]) ∧ Below w.heap.size w w' := by
 have HR0 := zK hr0
 have HC0 := zK hc0
 have HR1 := zK hr1
 have HC1 := zK hc1
 have HR2 := zK hr2
 have HC2 := zK hc2; clear hr0 hc0 hr1 hc1 hr2 hc2
 unfold box_Count.f at h
 obtain ⟨e, hE, h⟩ := Option.bind_eq_some_iff.1 h
 have HE := zK hE; clear hE
 by_cases he : e = 0
 ·rw [if_pos he] at h
  subst he
  obtain ⟨⟨n, e2⟩, hS, h⟩ := Option.bind_eq_some_iff.1 h
  simp only at h
  by_cases hg : e2 = 0 ∧ n ≤ 65536 ∧ l1.length < 17592186044416 ∧ l2.length < 17592186044416
  ·obtain ⟨rfl, hn, hl1, hl2⟩ := hg
   rw [if_pos rfl, if_pos hn, if_pos hl1, if_pos hl2] at h
   have HS := zK hS
   have HN := zK hn
   have HL1 := zK hl1
   have HL2 := zK hl2; have H := zK h; clear hS hn hl1 hl2 h
   refine calls_marks Try.func24 rfl ?_
   simp only [Try.ntmps24, List.size_toArray, List.length_cons, List.length_nil, Nat.reduceAdd, Nat.reduceSub, Array.replicate_succ, Array.replicate_zero, List.push_toArray, List.append_toArray, List.nil_append, List.cons_append]
   go_wp2_with (first
    | ((with_reducible refine gate_dst (N := 3) rfl ?_); refine box_event ?hg (N := 3) ?hd (cs := #[.slice A0 l0.length c0]) (t := 22) ?hr ?_; (case hd => rfl); (case hg => rfl); (case hr => first | (go_simp; done) | (go_simp; rfl)); intro b3 hg_ w1 hbox_ hb_; have BB3 := zK hbox_; have HB1 := zK hb_; have G3 := zK hg_; clear hg_ hbox_ hb_)
    | ((with_reducible refine gate_dst (N := 6) rfl ?_); refine box_event ?hg (N := 6) ?hd (cs := #[.int .i64 0]) (t := 3) ?hr ?_; (case hd => rfl); (case hg => rfl); (case hr => first | (go_simp; done) | (go_simp; rfl)); intro b6 hg_ w2 hbox_ hb_; have BB6 := zK hbox_; have HB2 := zK hb_; have G6 := zK hg_; clear hg_ hbox_ hb_)
    | ((with_reducible refine gate_dst (N := 7) rfl ?_); refine box_event ?hg (N := 7) ?hd (cs := #[.int .i64 0]) (t := 26) ?hr ?_; (case hd => rfl); (case hg => rfl); (case hr => first | (go_simp; done) | (go_simp; rfl)); intro b7 hg_ w3 hbox_ hb_; have BB7 := zK hbox_; have HB3 := zK hb_; have G7 := zK hg_; clear hg_ hbox_ hb_; have hcl := (blk_cell (blk_below (blk_below BB3.out HB2.out) HB3.out) 0).trans rfl)
    | (go_at_call 47; refine (box_check.calls k A0 c0 l0 A1 c1 l1 A2 c2 l2 0 w3 (Kd.C_below (Kd.C_below (Kd.C_below HR0.out HB1.out) HB2.out) HB3.out) HC0.out (Kd.C_below (Kd.C_below (Kd.C_below HR1.out HB1.out) HB2.out) HB3.out) HC1.out (Kd.C_below (Kd.C_below (Kd.C_below HR2.out HB1.out) HB2.out) HB3.out) HC2.out HE.out).mono ?_; rintro e w4 ⟨rfl, hb_⟩; have HB4 := zK hb_; clear hb_)
    | ((with_reducible refine gate_dst (N := 9) rfl ?_); refine box_event ?hg (N := 9) ?hd (cs := #[.int .i64 0]) (t := 3) ?hr ?_; (case hd => rfl); (case hg => rfl); (case hr => first | (go_simp; done) | (go_simp; rfl)); intro b9 hg_ w5 hbox_ hb_; have BB9 := zK hbox_; have HB5 := zK hb_; have G9 := zK hg_; clear hg_ hbox_ hb_; have hz9 := (blk_cell BB9.out 0).trans rfl; have fz9 := blk_frozen BB9.out 0; have HB5s := zK (yS (j := 0) (v := .int .i64 0) HB5.out (Nat.le_of_eq G9.out.symm)))
    | (go_at_call 27; refine (boxAll.calls A1 A2 c1 c2 l1 l2 (w5.setCell ⟨b9, 0, none⟩ (.int .i64 0)) (Kd.C_below (Kd.C_below (Kd.C_below (Kd.C_below (Kd.C_below HR1.out HB1.out) HB2.out) HB3.out) HB4.out) HB5s.out) (Kd.C_below (Kd.C_below (Kd.C_below (Kd.C_below (Kd.C_below HR2.out HB1.out) HB2.out) HB3.out) HB4.out) HB5s.out) HL1.out HL2.out).mono ?_; rintro e w6 ⟨Bl, Bh, E1, E2, d1, d2, rfl, hbl, hbh, ⟨hq1, hd1⟩, ⟨hq2, hd2⟩, hfr, hb_⟩; have HB6 := zK hb_; have HBL := zK hbl; have HBH := zK hbh; have HQ1 := zK hq1; have HQ2 := zK hq2; have HFR := zK hfr; clear hb_ hbl hbh hq1 hq2 hfr hz9 fz9))
   have h53 := blk_below (blk_below (blk_below (blk_below BB3.out HB2.out) HB3.out) HB4.out) HB5s.out
   have h56 := blk_below (blk_below (blk_below BB6.out HB3.out) HB4.out) HB5s.out
   have h57 := blk_below (blk_below BB7.out HB4.out) HB5s.out
   have h59 := blk_put (cs' := #[.int .i64 0]) BB9.out 0 (.int .i64 0) rfl
   have L3 := blk_lt h53
   have L6 := blk_lt h56
   have L7 := blk_lt h57
   have L9 := blk_lt h59
   have hw6 : Below w.heap.size w w6 := below_step (below_step (below_step (below_step (below_step HB1.out HB2.out) HB3.out) HB4.out) HB5s.out) HB6.out
   have h63 := blk_below h53 HB6.out
   have h66 := blk_below h56 HB6.out
   have h67 := blk_below h57 HB6.out
   have h69 := blk_below h59 HB6.out
   have hs6 := HB6.out.size
   have hE6 := hw6.size
   have s1 := HB1.out.size
   have s2 := HB2.out.size
   have s3 := HB3.out.size
   have s4 := HB4.out.size
   have M6 : w.heap.size ≤ b6 := by have h1 := G6.out; omega
   have M7 : w.heap.size ≤ b7 := by have h1 := G7.out; omega
   have M9 : w.heap.size ≤ b9 := by have h1 := G9.out; omega
   have n67 : b6 ≠ b7 := by have h1 := G7.out; have h2 := blk_lt BB6.out; omega
   have n69 : b6 ≠ b9 := by have h1 := G9.out; have h2 := blk_lt (blk_below BB6.out HB3.out); omega
   have n79 : b7 ≠ b9 := by have h1 := G9.out; have h2 := blk_lt BB7.out; omega
   have n76 := Ne.symm n67
   have n96 := Ne.symm n69
   have n97 := Ne.symm n79; clear s1 s2 s3 s4
   refine wp_range (gf := 53) (lb := #[.pointer (some ⟨Bl, 0, none⟩), .pointer (some ⟨Bh, 0, none⟩)]) rfl (enters_of Try.func53 (by kernel_rfl) rfl) rfl
    (May := fun b => b = b6 ∨ b = b7 ∨ b = b9) (more := boxMore n 0) (nxt := boxNxt l1 l2) (s0 := (l1, 0)) (enc := boxEnc)
    (fun W hb => boxAll1 k Bl Bh E1 E2 d1 d2 l1 l2 n 0 W _ (blk_below HBL.out hb) (blk_below HBH.out hb) (Kd.C_below HQ1.out hb) hd1 (Kd.C_below HQ2.out hb) hd2 (fun b hm => ?hM) HS.out HN.out HL1.out)
    (fun b hm => by rcases hm with rfl | rfl | rfl <;> omega) boxEnc_step
    (fun m s W => (∃ kq c, box_Count.l0 kq l0 l1 l2 s.1 n s.2 c = some (r1, r2) ∧ W.heap[b9]? = some (.cells #[.int .i64 c] 3 (0, 0))) ∧ W.heap[b3]? = some (.cells #[.slice A0 l0.length c0] 22 (0, 0)) ∧ W.heap[b6]? = some (.cells #[.int .i64 0] 3 (0, 0)) ∧ W.heap[b7]? = some (.cells #[.int .i64 0] 26 (0, 0)) ∧ Below w.heap.size w W)
    (fun c m W => c = .ret ∧ W.heap[b6]? = some (.cells #[.int .i64 r1] 3 (0, 0)) ∧ W.heap[b7]? = some (.cells #[.int .i64 r2] 26 (0, 0)) ∧ Below w.heap.size w W)
    ?hI ?hIx ?h0 ?round ?done ?stop
   case hM =>
    have hlt : b < (w5.setCell ⟨b9, 0, none⟩ (.int .i64 0)).heap.size := by rcases hm with rfl | rfl | rfl <;> omega
    obtain ⟨f1, f2⟩ := HFR.out b hlt
    exact ⟨Nat.lt_of_lt_of_le f1 hb.size, f2⟩
   case hI =>
    rintro m s A B ⟨⟨kq, c, hk, g9⟩, g3, g6, g7, hb⟩ hs
    exact ⟨⟨kq, c, hk, hs.blk g9 (by omega)⟩, hs.blk g3 (by omega), hs.blk g6 (by omega), hs.blk g7 (by omega), hs.below' hb hE6 (Nat.le_refl _)⟩
   case hIx =>
    rintro c m A B ⟨hc, g6, g7, hb⟩ hs
    exact ⟨hc, hs.blk g6 (by omega), hs.blk g7 (by omega), hs.below' hb hE6 (Nat.le_refl _)⟩
   case h0 =>
    intro W hb
    exact ⟨⟨k, 0, H.out, blk_below h69 hb⟩, blk_below h63 hb, blk_below h66 hb, blk_below h67 hb, hw6.trans (hb.mono hE6)⟩
   case round =>
    intro l m s v W hm hm2
    gi_wp2
    refine ⟨trivial, ?_⟩
    rintro Wb ⟨⟨kq, c, hq, g9⟩, g3, g6, g7, hb⟩ hn he
    obtain ⟨Av, cv, rfl⟩ := Kd.R_slice he
    obtain ⟨_, hcv, hCv⟩ := Kd.R_reads' he
    cases kq with
    | zero => exact absurd hq (by simp [box_Count.l0])
    | succ kq =>
     simp only [box_Count.l0] at hq
     rw [if_pos hm.2] at hq
     obtain ⟨⟨q1, q2⟩, hA, hq⟩ := Option.bind_eq_some_iff.1 hq
     simp only at hq
     have CA := zK (ineq_All.calls kq A0 c0 l0 Av cv s.1 q1 q2 Wb (Kd.C_below (HR0.out) (hb)) HC0.out hCv hcv hA)
     have hz3 := (blk_cell g3 0).trans rfl
     gi_wp2
     refine ⟨trivial, rfl, (CallsIn.inRound l (callsIn_wide.2 CA.out)).mono ?_⟩
     rintro e W' ⟨rfl, hB'⟩
     have hBw : Below w.heap.size w W' := hb.trans (hB'.mono hb.size)
     have hRS : RStep (fun b => b = b6 ∨ b = b7 ∨ b = b9) m Wb W' := RStep.of_below hB' hn
     have k3 := blk_below g3 hB'
     have k6 := blk_below g6 hB'
     have k7 := blk_below g7 hB'
     have k9 := blk_below g9 hB'
     have hz6 := (blk_cell k6 0).trans rfl
     have hz7 := (blk_cell k7 0).trans rfl
     have hz9 := (blk_cell k9 0).trans rfl
     have fz6 := blk_frozen k6 0
     have fz7 := blk_frozen k7 0
     have fz9 := blk_frozen k9 0
     by_cases c1 : q2 = 0
     ·subst c1
      rw [if_pos rfl] at hq
      obtain ⟨y, hy, hq⟩ := Option.bind_eq_some_iff.1 hq
      have HY := zK hy
      have HQ := zK hq; clear CA hA hy hq
      by_cases c2 : q1 < 0
      ·have c2b : decide (q1 < 0) = true := decide_eq_true c2
       gi_wp2
       have hq' := HQ.out
       rw [if_pos c2] at hq'
       exact ⟨hRS.setCell (.inr (.inr rfl)) _, (y, s.2 + 1), ⟨rfl, kq, HY.out⟩, ⟨kq, _, hq', blk_put k9 0 _ rfl⟩, blk_far k3 (p := ⟨b9, 0, none⟩) (by show b3 ≠ b9; have h1 := G9.out; have h2 := blk_lt (blk_below (blk_below BB3.out HB2.out) HB3.out); have := HB4.out.size; omega) _, blk_far k6 (p := ⟨b9, 0, none⟩) n69 _, blk_far k7 (p := ⟨b9, 0, none⟩) n79 _, yS hBw M9⟩
      ·have c2b : decide (q1 < 0) = false := decide_eq_false c2
       gi_wp2
       have hq' := HQ.out
       rw [if_neg (show ¬ q1 < 0 by omega)] at hq'
       exact ⟨hRS, (y, s.2 + 1), ⟨rfl, kq, HY.out⟩, ⟨kq, c, hq', k9⟩, k3, k6, k7, hBw⟩
     ·rw [if_neg c1] at hq
      have c1b : (q2 != 0) = true := bne_iff_ne.mpr c1
      simp only [Option.some.injEq, Prod.mk.injEq] at hq
      obtain ⟨rfl, rfl⟩ := hq; clear CA hA
      gi_wp2
      exact ⟨(hRS.setCell (.inl rfl) _).setCell (.inr (.inl rfl)) _, rfl, blk_far (blk_put k6 0 (.int .i64 0) rfl) (p := ⟨b7, 0, none⟩) n67 (.int .i64 q2), blk_put (blk_far k7 (p := ⟨b6, 0, none⟩) n76 (.int .i64 0)) 0 (.int .i64 q2) rfl, yS (yS hBw M6) M7⟩
   case done =>
    rintro m s W ⟨⟨kq, c, hq, g9⟩, g3, g6, g7, hb⟩ hm hK
    have hq' : box_Count.l0 kq l0 l1 l2 s.1 n s.2 c = some (r1, r2) := hq
    cases kq with
    | zero => exact absurd hq' (by simp [box_Count.l0])
    | succ kq =>
     simp only [box_Count.l0] at hq'
     rw [if_neg (fun e => hm ⟨rfl, e⟩)] at hq'
     simp only [Option.some.injEq, Prod.mk.injEq] at hq'
     obtain ⟨rfl, rfl⟩ := hq'
     have hz6 := (blk_cell g6 0).trans rfl
     have hz7 := (blk_cell g7 0).trans rfl
     have hz9 := (blk_cell g9 0).trans rfl
     have fz6 := blk_frozen g6 0
     have fz7 := blk_frozen g7 0
     dsimp only
     clear hq
     go_wp2
     have u6 := blk_far (blk_put g6 0 (.int .i64 c) rfl) (p := ⟨b7, 0, none⟩) n67 (.int .i64 0)
     have u7 := blk_put (blk_far g7 (p := ⟨b6, 0, none⟩) n76 (.int .i64 c)) 0 (.int .i64 0) rfl
     have hD : ((W.setCell ⟨b6, 0, none⟩ (.int .i64 c)).setCell ⟨b7, 0, none⟩ (.int .i64 0)).heap[w6.heap.size]? = some (.deferred (some [])) := (Below.heap_setCell _ _ _ _ (by show _ ≠ b7; omega)).trans ((Below.heap_setCell _ _ _ _ (by show _ ≠ b6; omega)).trans hK)
     refine ⟨by simp, .inl ⟨_, _, rfl, run_takeDeferred hD, ?_⟩⟩
     have v6 := blk_cell (blk_putObj (o' := .deferred none) u6 (D := w6.heap.size) (by omega)) 0
     have v7 := blk_cell (blk_putObj (o' := .deferred none) u7 (D := w6.heap.size) (by omega)) 0
     refine ⟨.tuple #[.int .i64 c, .int .i64 0], ?_, rfl, below_putObj (yS (yS hb M6) M7) hE6⟩
     simp [results, Try.f24, go_sem, v6, v7]
   case stop =>
    rintro c m W ⟨rfl, g6, g7, hb⟩ hK
    dsimp only
    go_wp2
    refine ⟨by simp, .inl ⟨_, _, rfl, run_takeDeferred hK, ?_⟩⟩
    have v6 := blk_cell (blk_putObj (o' := .deferred none) g6 (D := w6.heap.size) (by omega)) 0
    have v7 := blk_cell (blk_putObj (o' := .deferred none) g7 (D := w6.heap.size) (by omega)) 0
    refine ⟨.tuple #[.int .i64 r1, .int .i64 r2], ?_, rfl, below_putObj hb hE6⟩
    simp [results, Try.f24, go_sem, v6, v7]
  ·exfalso
   revert h
   split
   ·split
    ·split
     ·split
      ·exact fun _ => hg ⟨by assumption, by assumption, by assumption, by assumption⟩
      ·simp
     ·simp
    ·simp
   ·simp
 ·rw [if_neg he] at h
  simp only [Option.some.injEq, Prod.mk.injEq] at h
  obtain ⟨rfl, rfl⟩ := h
  have he1 : (e != 0) = true := bne_iff_ne.mpr he
  have he2 : (e == 0) = false := beq_eq_false_iff_ne.mpr he
  go_enter Try.func24, Try.ntmps24
  go_wp2_with (first
   | ((with_reducible refine gate_dst (N := 3) rfl ?_); refine box_event ?hg (N := 3) ?hd (cs := #[.slice A0 l0.length c0]) (t := 22) ?hr ?_; (case hd => rfl); (case hg => rfl); (case hr => first | (go_simp; done) | (go_simp; rfl)); intro b3 hg_ w1 hbox_ hb_; have BB3 := zK hbox_; have HB1 := zK hb_; have G3 := zK hg_; clear hg_ hbox_ hb_)
   | ((with_reducible refine gate_dst (N := 6) rfl ?_); refine box_event ?hg (N := 6) ?hd (cs := #[.int .i64 0]) (t := 3) ?hr ?_; (case hd => rfl); (case hg => rfl); (case hr => first | (go_simp; done) | (go_simp; rfl)); intro b6 hg_ w2 hbox_ hb_; have BB6 := zK hbox_; have HB2 := zK hb_; have G6 := zK hg_; clear hg_ hbox_ hb_)
   | ((with_reducible refine gate_dst (N := 7) rfl ?_); refine box_event ?hg (N := 7) ?hd (cs := #[.int .i64 0]) (t := 26) ?hr ?_; (case hd => rfl); (case hg => rfl); (case hr => first | (go_simp; done) | (go_simp; rfl)); intro b7 hg_ w3 hbox_ hb_; have BB7 := zK hbox_; have HB3 := zK hb_; have G7 := zK hg_; clear hg_ hbox_ hb_; have hcl := (blk_cell (blk_below (blk_below BB3.out HB2.out) HB3.out) 0).trans rfl)
   | (go_at_call 47; refine (box_check.calls k A0 c0 l0 A1 c1 l1 A2 c2 l2 e w3 (Kd.C_below (Kd.C_below (Kd.C_below HR0.out HB1.out) HB2.out) HB3.out) HC0.out (Kd.C_below (Kd.C_below (Kd.C_below HR1.out HB1.out) HB2.out) HB3.out) HC1.out (Kd.C_below (Kd.C_below (Kd.C_below HR2.out HB1.out) HB2.out) HB3.out) HC2.out HE.out).mono ?_; rintro e w4 ⟨rfl, hb_⟩; have HB4 := zK hb_; clear hb_; have HK6 := zK (blk_below (blk_below BB6.out HB3.out) HB4.out); have HK7 := zK (blk_below BB7.out HB4.out); have hz6 := (blk_cell HK6.out 0).trans rfl; have hz7 := (blk_cell HK7.out 0).trans rfl; have fz6 := blk_frozen HK6.out 0; have fz7 := blk_frozen HK7.out 0; have n67 : b6 ≠ b7 := (by have h1 := G7.out; have h2 := blk_lt BB6.out; omega); have n76 := Ne.symm n67))
  have v6 := blk_cell (blk_far (blk_put HK6.out 0 (.int .i64 0) rfl) (p := ⟨b7, 0, none⟩) n67 (.int .i64 e)) 0
  have v7 := blk_cell (blk_put (blk_far HK7.out (p := ⟨b6, 0, none⟩) n76 (.int .i64 0)) 0 (.int .i64 e) rfl) 0
  refine bodyPost_ret (v := .tuple #[.int .i64 0, .int .i64 e]) (by simp [results, Try.f24, go_sem, v6, v7]) rfl ?_
  have M6 : w.heap.size ≤ b6 := by have h1 := G6.out; have h2 := HB1.out.size; omega
  have M7 : w.heap.size ≤ b7 := by have h1 := G7.out; have h2 := HB1.out.size; have h3 := HB2.out.size; omega
  exact ⟨rfl, yS (yS (below_step (below_step (below_step HB1.out HB2.out) HB3.out) HB4.out) M6) M7⟩
end rounds

/-! ### sequiturbase_Int64s: function 25 -/
def sequiturbase_Int64s.l0 : Nat → List Int → List Int → Int → Option (Bool)
 | 0, _, _, _ => none
 | k + 1, x0, x1, x5 => if x5 < (x0.length : Int) then (if 0 ≤ x5 then (if x5 < (x1.length : Int) then (if (rd x0 x5) = (rd x1 x5) then (sequiturbase_Int64s.l0 k x0 x1 (wrap64 (x5 + 1))) else (some false)) else (none)) else (none)) else (some true)
def sequiturbase_Int64s.f (k : Nat) (l0 : List Int) (l1 : List Int) : Option (Bool) := if (l0.length : Int) = (l1.length : Int) then (sequiturbase_Int64s.l0 k l0 l1 0) else (some false)
theorem sequiturbase_Int64s.mono_l : ∀ k, (∀ y0 y1 y2, LeO (sequiturbase_Int64s.l0 k y0 y1 y2) (sequiturbase_Int64s.l0 (k + 1) y0 y1 y2))
 | 0 => fun _ _ _ r h => by simp [sequiturbase_Int64s.l0] at h
 | k + 1 => by
  have ih0 := sequiturbase_Int64s.mono_l k
  ·intro y0 y1 y2
   unfold sequiturbase_Int64s.l0
   repeat' first
   | (with_reducible exact ih0 _ _ _)
   | (with_reducible exact LeO.refl _)
   | (with_reducible exact LeO.none _)
   | (with_reducible refine LeO.ite ?_ ?_)
   | (with_reducible refine LeO.bind ?_ (fun _ => ?_))
   | exact ih0 _ _ _
   | exact LeO.none _
   | refine LeO.ite ?_ ?_
   | refine LeO.bind ?_ (fun _ => ?_)
theorem sequiturbase_Int64s.mono : ∀ a0 a1 k, LeO (sequiturbase_Int64s.f k a0 a1) (sequiturbase_Int64s.f (k + 1) a0 a1) := by
 intro a0 a1 k
 have ih0 := sequiturbase_Int64s.mono_l k
 unfold sequiturbase_Int64s.f
 repeat' first
   | (with_reducible exact ih0 _ _ _)
   | (with_reducible exact LeO.refl _)
   | (with_reducible exact LeO.none _)
   | (with_reducible refine LeO.ite ?_ ?_)
   | (with_reducible refine LeO.bind ?_ (fun _ => ?_))
   | exact ih0 _ _ _
   | exact LeO.none _
   | refine LeO.ite ?_ ?_
   | refine LeO.bind ?_ (fun _ => ?_)
set_option maxHeartbeats 8000000 in
set_option maxRecDepth 100000 in
theorem sequiturbase_Int64s.calls (k : Nat) (A0 : Option Addr) (c0 : Nat) (l0 : List Int) (A1 : Option Addr) (c1 : Nat) (l1 : List Int) (r : Bool) (w : World) (hr0 : Kd.C (Kd.int .i64) w A0 l0.length l0) (hc0 : l0.length ≤ c0) (hr1 : Kd.C (Kd.int .i64) w A1 l1.length l1) (hc1 : l1.length ≤ c1) (h : sequiturbase_Int64s.f k l0 l1 = some r) :
  Calls Try.prog 25 #[.slice A0 l0.length c0, .slice A1 l1.length c1] w fun e w' => e = .returned (.bool r) ∧ Drawn0 w w' := by
 have HR0 := zK hr0
 have HC0 := zK hc0; clear hr0 hc0
 have HR1 := zK hr1
 have HC1 := zK hc1; clear hr1 hc1
 have H : (if (l0.length : Int) = (l1.length : Int) then (sequiturbase_Int64s.l0 k l0 l1 0) else (some false)) = some r := h
 clear h
 by_cases c3 : (l0.length : Int) = (l1.length : Int)
 ·rw [if_pos c3] at H
  have c3b0 : ((l0.length : Int) == (l1.length : Int)) = true := beq_iff_eq.mpr c3
  have c3b1 : ((l0.length : Int) != (l1.length : Int)) = false := bne_eq_false_iff_eq.mpr c3
  have c3b2 : (l0.length == l1.length) = true := by first | simpa using c3 | (simp at c3 ⊢; omega)
  clear c3
  have H' := zK H; clear H
  go_enter Try.func25, Try.ntmps25
  go_wp2
  repeat (go_quiet (fail); try go_wp2)
  go_loopg [5] k (fun kq v5 w' => ∃ (x5_1 : Int), v5 = .int .i64 x5_1 ∧ Aside0 (sequiturbase_Int64s.l0 kq l0 l1 x5_1 = some r) ∧ Aside0 (kq ≤ k) ∧ Drawn0 w w')
  case atStart => exact ⟨(0), (by first | rfl | (simp; done) | (simp [*]; done)), H', ⟨Nat.le_refl _⟩, by repeat (first | exact Drawn0.refl _ | apply Drawn0.step)⟩
  case round =>
   clear H'; try clear c1; try clear c2; try clear p2
   try clear c3; try clear c3b0; try clear c3b1; try clear c3b2
   obtain ⟨x5_1, rfl, HA, HK1, ⟨m1, rfl⟩⟩ := hrel
   cases gk with
   | zero => exact absurd HA.out (by simp [sequiturbase_Int64s.l0])
   | succ k1 =>
    have H := HA.out; clear HA
    simp only [sequiturbase_Int64s.l0] at H
    by_cases c4 : x5_1 < (l0.length : Int)
    ·rw [if_pos c4] at H
     have c4b0 : decide (x5_1 < (l0.length : Int)) = true := decide_eq_true c4
     clear c4
     by_cases c5 : 0 ≤ x5_1
     ·rw [if_pos c5] at H
      have c5b0 : decide (0 ≤ x5_1) = true := decide_eq_true c5; clear c5
      by_cases c6 : x5_1 < (l1.length : Int)
      ·rw [if_pos c6] at H
       have c6b0 : decide (x5_1 < (l1.length : Int)) = true := decide_eq_true c6
       clear c6
       by_cases c7 : (rd l0 x5_1) = (rd l1 x5_1)
       ·rw [if_pos c7] at H
        have c7b0 : ((rd l0 x5_1) == (rd l1 x5_1)) = true := beq_iff_eq.mpr c7
        have c7b1 : ((rd l0 x5_1) != (rd l1 x5_1)) = false := bne_eq_false_iff_eq.mpr c7
        clear c7
        have H' := zK H; clear H
        have p138 : 0 ≤ (x5_1 : Int) := of_decide_eq_true (by first | (with_reducible assumption) | assumption)
        have q138 : x5_1 < (l0.length : Int) := of_decide_eq_true (by first | (with_reducible assumption) | assumption)
        obtain ⟨ad138, e138, hx138_0⟩ := Kd.at_int HR0.out x5_1 p138 q138
        cases e138
        replace p138 := eq_true p138
        replace q138 := eq_true q138
        have p139 : 0 ≤ (x5_1 : Int) := of_decide_eq_true (by first | (with_reducible assumption) | assumption)
        have q139 : x5_1 < (l1.length : Int) := of_decide_eq_true (by first | (with_reducible assumption) | assumption)
        obtain ⟨ad139, e139, hx139_0⟩ := Kd.at_int HR1.out x5_1 p139 q139
        cases e139
        replace p139 := eq_true p139
        replace q139 := eq_true q139
        go_wp2
        repeat (go_quiet (fail); try go_wp2)
        go_roundg k1
        case measure => have := HK1.out; omega
        case rel => exact ⟨(wrap64 (x5_1 + 1)), (by first | rfl | (simp; done) | (simp [*]; done)), H', ⟨by have := HK1.out; omega⟩, by repeat (first | exact Drawn0.refl _ | apply Drawn0.step)⟩
       ·rw [if_neg c7] at H
        have c7b0 : ((rd l0 x5_1) == (rd l1 x5_1)) = false := beq_eq_false_iff_ne.mpr c7
        have c7b1 : ((rd l0 x5_1) != (rd l1 x5_1)) = true := bne_iff_ne.mpr c7
        obtain rfl := Option.some.inj H
        have p138 : 0 ≤ (x5_1 : Int) := of_decide_eq_true (by first | (with_reducible assumption) | assumption)
        have q138 : x5_1 < (l0.length : Int) := of_decide_eq_true (by first | (with_reducible assumption) | assumption)
        obtain ⟨ad138, e138, hx138_0⟩ := Kd.at_int HR0.out x5_1 p138 q138
        cases e138
        replace p138 := eq_true p138
        replace q138 := eq_true q138
        have p139 : 0 ≤ (x5_1 : Int) := of_decide_eq_true (by first | (with_reducible assumption) | assumption)
        have q139 : x5_1 < (l1.length : Int) := of_decide_eq_true (by first | (with_reducible assumption) | assumption)
        obtain ⟨ad139, e139, hx139_0⟩ := Kd.at_int HR1.out x5_1 p139 q139
        cases e139
        replace p139 := eq_true p139
        replace q139 := eq_true q139
        go_wp2
        repeat (go_quiet (fail); try go_wp2)
        go_ret
        exact ⟨by first | rfl | (simp; done) | (simp [*]; done), by repeat (first | exact Drawn0.refl _ | apply Drawn0.step)⟩
      ·rw [if_neg c6] at H
       exact absurd H (by simp)
     ·rw [if_neg c5] at H
      exact absurd H (by simp)
    ·rw [if_neg c4] at H
     have c4b0 : decide (x5_1 < (l0.length : Int)) = false := decide_eq_false c4
     clear c4
     obtain rfl := Option.some.inj H
     go_wp2
     repeat (go_quiet (fail); try go_wp2)
     go_ret
     exact ⟨by first | rfl | (simp; done) | (simp [*]; done), by repeat (first | exact Drawn0.refl _ | apply Drawn0.step)⟩
 ·rw [if_neg c3] at H
  have c3b0 : ((l0.length : Int) == (l1.length : Int)) = false := beq_eq_false_iff_ne.mpr c3
  have c3b1 : ((l0.length : Int) != (l1.length : Int)) = true := bne_iff_ne.mpr c3
  have c3b2 : (l0.length == l1.length) = false := by first | simpa using c3 | (simp at c3 ⊢; omega)
  obtain rfl := Option.some.inj H
  go_enter Try.func25, Try.ntmps25
  go_wp2
  repeat (go_quiet (fail); try go_wp2)
  go_ret
  exact ⟨by first | rfl | (simp; done) | (simp [*]; done), by repeat (first | exact Drawn0.refl _ | apply Drawn0.step)⟩

/-! ### sequiturlaw32_alive: function 21 -/
def sequiturlaw32_alive.f (k : Nat)  : Option (Bool) := (some (([(⟨(⟨3, (([(⟨0, (-1)⟩ : S68), (⟨1, (-1)⟩ : S68)] : List (S68)))⟩ : S62), false⟩ : S70)] : List (S70)) : List (S70))).bind fun y143 => ((box_First.f k y143 (([0, 0] : List Int)) (([2, 2] : List Int))).bind fun bt152 => ((box_Count.f k y143 (([0, 0] : List Int)) (([2, 2] : List Int))).bind fun bt163 => (if bt152.2.1 = true then (if bt152.2.2 = 0 then (if bt163.2 = 0 then ((sequiturbase_Int64s.f k bt152.1 (([1, 2] : List Int))).bind fun t168 => (if t168 = true then (some (bt163.1 == 3)) else (none))) else (none)) else (none)) else (none))))
theorem sequiturlaw32_alive.mono : ∀ k, LeO (sequiturlaw32_alive.f k ) (sequiturlaw32_alive.f (k + 1) ) := by
 intro  k
 unfold sequiturlaw32_alive.f
 repeat' first
   | (with_reducible exact box_Count.mono _ _ _ _)
   | (with_reducible exact box_First.mono _ _ _ _)
   | (with_reducible exact sequiturbase_Int64s.mono _ _ _)
   | (with_reducible exact LeO.refl _)
   | (with_reducible exact LeO.none _)
   | (with_reducible refine LeO.ite ?_ ?_)
   | (with_reducible refine LeO.bind ?_ (fun _ => ?_))
   | exact box_Count.mono _ _ _ _
   | exact box_First.mono _ _ _ _
   | exact sequiturbase_Int64s.mono _ _ _
   | exact LeO.none _
   | refine LeO.ite ?_ ?_
   | refine LeO.bind ?_ (fun _ => ?_)
set_option maxHeartbeats 8000000 in
set_option maxRecDepth 100000 in
theorem sequiturlaw32_alive.calls (k : Nat)  (r : Bool) (w : World) (h : sequiturlaw32_alive.f k  = some r) :
  Calls Try.prog 21 #[] w fun e w' => e = .returned (.bool r) ∧ Below w.heap.size w w' := by
 have hu68 := Try.underlying68
 have hu62 := Try.underlying62
 have hu70 := Try.underlying70
 have HB := zK (Below.refl w.heap.size w)
 have H : ((some (([(⟨(⟨3, (([(⟨0, (-1)⟩ : S68), (⟨1, (-1)⟩ : S68)] : List (S68)))⟩ : S62), false⟩ : S70)] : List (S70)) : List (S70))).bind fun y143 => ((box_First.f k y143 (([0, 0] : List Int)) (([2, 2] : List Int))).bind fun bt152 => ((box_Count.f k y143 (([0, 0] : List Int)) (([2, 2] : List Int))).bind fun bt163 => (if bt152.2.1 = true then (if bt152.2.2 = 0 then (if bt163.2 = 0 then ((sequiturbase_Int64s.f k bt152.1 (([1, 2] : List Int))).bind fun t168 => (if t168 = true then (some (bt163.1 == 3)) else (none))) else (none)) else (none)) else (none))))) = some r := h
 clear h
 obtain ⟨y140, hy140⟩ : ∃ y_ : List (S68), y_ = (([(⟨0, (-1)⟩ : S68), (⟨1, (-1)⟩ : S68)] : List (S68))) := ⟨_, rfl⟩
 replace H : ((some (([(⟨(⟨3, y140⟩ : S62), false⟩ : S70)] : List (S70)) : List (S70))).bind fun y143 => ((box_First.f k y143 (([0, 0] : List Int)) (([2, 2] : List Int))).bind fun bt152 => ((box_Count.f k y143 (([0, 0] : List Int)) (([2, 2] : List Int))).bind fun bt163 => (if bt152.2.1 = true then (if bt152.2.2 = 0 then (if bt163.2 = 0 then ((sequiturbase_Int64s.f k bt152.1 (([1, 2] : List Int))).bind fun t168 => (if t168 = true then (some (bt163.1 == 3)) else (none))) else (none)) else (none)) else (none))))) = some r := by first | (rw [hy140]; with_reducible exact H) | (have H2_ := (Option.bind_some _ _).symm.trans H; rw [hy140]; with_reducible exact H2_) | (have H2_ := (Option.bind_some _ _).symm.trans H; with_reducible exact H2_) | with_reducible exact H | (rw [hy140]; exact H) | exact H
 have Ny140 := zK hy140; clear hy140
 obtain ⟨y143, hy143⟩ : ∃ y_ : List (S70), y_ = (([(⟨(⟨3, y140⟩ : S62), false⟩ : S70)] : List (S70))) := ⟨_, rfl⟩
 replace H : ((box_First.f k y143 (([0, 0] : List Int)) (([2, 2] : List Int))).bind fun bt152 => ((box_Count.f k y143 (([0, 0] : List Int)) (([2, 2] : List Int))).bind fun bt163 => (if bt152.2.1 = true then (if bt152.2.2 = 0 then (if bt163.2 = 0 then ((sequiturbase_Int64s.f k bt152.1 (([1, 2] : List Int))).bind fun t168 => (if t168 = true then (some (bt163.1 == 3)) else (none))) else (none)) else (none)) else (none)))) = some r := by first | (rw [hy143]; with_reducible exact H) | (have H2_ := (Option.bind_some _ _).symm.trans H; rw [hy143]; with_reducible exact H2_) | (have H2_ := (Option.bind_some _ _).symm.trans H; with_reducible exact H2_) | with_reducible exact H | (rw [hy143]; exact H) | exact H
 have Ny143 := zK hy143; clear hy143
 obtain ⟨y146, hy146⟩ : ∃ y_ : List Int, y_ = (([0, 0] : List Int)) := ⟨_, rfl⟩
 replace H : ((box_First.f k y143 y146 (([2, 2] : List Int))).bind fun bt152 => ((box_Count.f k y143 (([0, 0] : List Int)) (([2, 2] : List Int))).bind fun bt163 => (if bt152.2.1 = true then (if bt152.2.2 = 0 then (if bt163.2 = 0 then ((sequiturbase_Int64s.f k bt152.1 (([1, 2] : List Int))).bind fun t168 => (if t168 = true then (some (bt163.1 == 3)) else (none))) else (none)) else (none)) else (none)))) = some r := by first | (rw [hy146]; with_reducible exact H) | (have H2_ := (Option.bind_some _ _).symm.trans H; rw [hy146]; with_reducible exact H2_) | (have H2_ := (Option.bind_some _ _).symm.trans H; with_reducible exact H2_) | with_reducible exact H | (rw [hy146]; exact H) | exact H
 have Ny146 := zK hy146; clear hy146
 obtain ⟨y149, hy149⟩ : ∃ y_ : List Int, y_ = (([2, 2] : List Int)) := ⟨_, rfl⟩
 replace H : ((box_First.f k y143 y146 y149).bind fun bt152 => ((box_Count.f k y143 (([0, 0] : List Int)) (([2, 2] : List Int))).bind fun bt163 => (if bt152.2.1 = true then (if bt152.2.2 = 0 then (if bt163.2 = 0 then ((sequiturbase_Int64s.f k bt152.1 (([1, 2] : List Int))).bind fun t168 => (if t168 = true then (some (bt163.1 == 3)) else (none))) else (none)) else (none)) else (none)))) = some r := by first | (rw [hy149]; with_reducible exact H) | (have H2_ := (Option.bind_some _ _).symm.trans H; rw [hy149]; with_reducible exact H2_) | (have H2_ := (Option.bind_some _ _).symm.trans H; with_reducible exact H2_) | with_reducible exact H | (rw [hy149]; exact H) | exact H
 have Ny149 := zK hy149; clear hy149; replace H := Option.bind_eq_some_iff.mp H
 obtain ⟨⟨t152, t153, t154⟩, A10, H⟩ := H
 replace H : ((box_Count.f k y143 (([0, 0] : List Int)) (([2, 2] : List Int))).bind fun bt163 => (if t153 = true then (if t154 = 0 then (if bt163.2 = 0 then ((sequiturbase_Int64s.f k t152 (([1, 2] : List Int))).bind fun t168 => (if t168 = true then (some (bt163.1 == 3)) else (none))) else (none)) else (none)) else (none))) = some r := H
 have A1 := zK A10; clear A10
 obtain ⟨y157, hy157⟩ : ∃ y_ : List Int, y_ = (([0, 0] : List Int)) := ⟨_, rfl⟩
 replace H : ((box_Count.f k y143 y157 (([2, 2] : List Int))).bind fun bt163 => (if t153 = true then (if t154 = 0 then (if bt163.2 = 0 then ((sequiturbase_Int64s.f k t152 (([1, 2] : List Int))).bind fun t168 => (if t168 = true then (some (bt163.1 == 3)) else (none))) else (none)) else (none)) else (none))) = some r := by first | (rw [hy157]; with_reducible exact H) | (have H2_ := (Option.bind_some _ _).symm.trans H; rw [hy157]; with_reducible exact H2_) | (have H2_ := (Option.bind_some _ _).symm.trans H; with_reducible exact H2_) | with_reducible exact H | (rw [hy157]; exact H) | exact H
 have Ny157 := zK hy157; clear hy157
 obtain ⟨y160, hy160⟩ : ∃ y_ : List Int, y_ = (([2, 2] : List Int)) := ⟨_, rfl⟩
 replace H : ((box_Count.f k y143 y157 y160).bind fun bt163 => (if t153 = true then (if t154 = 0 then (if bt163.2 = 0 then ((sequiturbase_Int64s.f k t152 (([1, 2] : List Int))).bind fun t168 => (if t168 = true then (some (bt163.1 == 3)) else (none))) else (none)) else (none)) else (none))) = some r := by first | (rw [hy160]; with_reducible exact H) | (have H2_ := (Option.bind_some _ _).symm.trans H; rw [hy160]; with_reducible exact H2_) | (have H2_ := (Option.bind_some _ _).symm.trans H; with_reducible exact H2_) | with_reducible exact H | (rw [hy160]; exact H) | exact H
 have Ny160 := zK hy160; clear hy160; replace H := Option.bind_eq_some_iff.mp H
 obtain ⟨⟨t163, t164⟩, A20, H⟩ := H
 replace H : (if t153 = true then (if t154 = 0 then (if t164 = 0 then ((sequiturbase_Int64s.f k t152 (([1, 2] : List Int))).bind fun t168 => (if t168 = true then (some (t163 == 3)) else (none))) else (none)) else (none)) else (none)) = some r := H
 have A2 := zK A20; clear A20
 by_cases c3 : t153 = true
 ·subst c3
  have H1 : (if t154 = 0 then (if t164 = 0 then ((sequiturbase_Int64s.f k t152 (([1, 2] : List Int))).bind fun t168 => (if t168 = true then (some (t163 == 3)) else (none))) else (none)) else (none)) = some r := by rw [if_pos rfl] at H; exact H
  clear H; have H := H1; clear H1
  by_cases c4 : t154 = 0
  ·rw [if_pos c4] at H
   have c4b0 : (t154 == 0) = true := beq_iff_eq.mpr c4
   have c4b1 : (t154 != 0) = false := bne_eq_false_iff_eq.mpr c4; clear c4
   by_cases c5 : t164 = 0
   ·rw [if_pos c5] at H
    have c5b0 : (t164 == 0) = true := beq_iff_eq.mpr c5
    have c5b1 : (t164 != 0) = false := bne_eq_false_iff_eq.mpr c5; clear c5
    obtain ⟨y165, hy165⟩ : ∃ y_ : List Int, y_ = (([1, 2] : List Int)) := ⟨_, rfl⟩
    replace H : ((sequiturbase_Int64s.f k t152 y165).bind fun t168 => (if t168 = true then (some (t163 == 3)) else (none))) = some r := by first | (rw [hy165]; with_reducible exact H) | (have H2_ := (Option.bind_some _ _).symm.trans H; rw [hy165]; with_reducible exact H2_) | (have H2_ := (Option.bind_some _ _).symm.trans H; with_reducible exact H2_) | with_reducible exact H | (rw [hy165]; exact H) | exact H
    have Ny165 := zK hy165; clear hy165; replace H := Option.bind_eq_some_iff.mp H
    obtain ⟨t168, A60, H⟩ := H
    replace H : (if t168 = true then (some (t163 == 3)) else (none)) = some r := H
    have A6 := zK A60; clear A60
    by_cases c7 : t168 = true
    ·subst c7
     have H1 : (some (t163 == 3)) = some r := by rw [if_pos rfl] at H; exact H
     clear H; have H := H1; clear H1
     obtain rfl := Option.some.inj H
     go_enter Try.func21, Try.ntmps21
     go_wp2_with (first | ((with_reducible refine gate_dst (N := 9) rfl ?_); (try (refine zG (by rfl) ?_; dsimp only)); refine Kd.R_lit k68 _ 68 ?hg (N := 9) ?hd (xs := ([(⟨0, (-1)⟩ : S68), (⟨1, (-1)⟩ : S68)] : List (S68))) (inner := [.int .i64 0, .int .i64 (-1), .int .i64 1, .int .i64 (-1)]) (ok := fun _ => True) (okp := fun _ => True) ?hr ?hp (fun _ hk => hk) trivial (Below.refl _ _) (Nat.le_refl _) (by simp) ?_; (case hd => rfl); (case hg => rfl); (case hr => first | (go_simp; done) | (go_simp; rfl)); (case hp => exact (Reps.c2 (show Kd.M k68 _ _ _ (⟨0, (-1)⟩ : S68) [.int .i64 0, .int .i64 (-1)] from (k68_mkM _ _ _ (⟨0, (-1)⟩ : S68) )) (Reps.c2 (show Kd.M k68 _ _ _ (⟨1, (-1)⟩ : S68) [.int .i64 1, .int .i64 (-1)] from (k68_mkM _ _ _ (⟨1, (-1)⟩ : S68) )) (Reps.none _ _)))); intro v141 w8 ho9 hb hg_ hnew_; clear hg_ hnew_; (first | rw [← Ny140.out] at ho9 | (simp only [Int.reduceToNat] at ho9; rw [← Ny140.out] at ho9)); have HO142 := zK (Kd.R_lower ho9 (below_size (zo HB))); replace HB := zK (below_step (zo HB) hb); clear hb ho9; obtain ⟨Ao10, co10, eo10⟩ := Kd.R_slice HO142.out; subst eo10) | ((with_reducible refine gate_dst (N := 12) rfl ?_); (try (refine zG (by rfl) ?_; dsimp only)); refine Kd.N_lit k70 _ 70 ?hg (N' := 12) ?hd (xs := ([(⟨(⟨3, y140⟩ : S62), false⟩ : S70)] : List (S70))) (inner := [.int .i64 3, .slice Ao10 y140.length co10, .bool false]) (ok := (fun _ => True)) (okp := (fun _ => True)) ?hr ?hp (fun _ hk => hk) ((show ∀ k_, w8.heap.size ≤ k_ → (fun _ => True) k_ from fun k_ hk => trivial) _ (Nat.le_refl _)) (Below.refl _ _) (Nat.le_refl _) (by simp) ?_; (case hd => rfl); (case hg => rfl); (case hr => first | (go_simp; done) | (go_simp; rfl)); (case hp => exact (Reps.c3 (show Kd.FK k70 _ _ (⟨(⟨3, y140⟩ : S62), false⟩ : S70) [.int .i64 3, .slice Ao10 y140.length co10, .bool false] from (k70_mkF _ _ (⟨(⟨3, y140⟩ : S62), false⟩ : S70) (Kd.R_reads' (Kd.R_mono (ok' := (fun _ => True)) (HO142.out) (fun k_ hk => trivial))).2.1 (Kd.R_F (Kd.R_mono (ok' := (fun _ => True)) (HO142.out) (fun k_ hk => trivial))))) (Reps.none _ _))); intro v144 w11 ho12 hb hg_ hnew_; clear hg_ hnew_; (first | rw [← Ny143.out] at ho12 | (simp only [Int.reduceToNat] at ho12; rw [← Ny143.out] at ho12)); have HO145 := zK (Kd.N_lower ho12 (below_size (zo HB))); replace HB := zK (below_step (zo HB) hb); clear HO142 hb ho12) | ((with_reducible refine gate_dst (N := 15) rfl ?_); (try (refine zG (by rfl) ?_; dsimp only)); refine Kd.R_lit (Kd.int .i64) _ 2 ?hg (N := 15) ?hd (xs := ([0, 0] : List Int)) (inner := [.int .i64 0, .int .i64 0]) (ok := fun _ => True) (okp := fun _ => True) ?hr ?hp (fun _ hk => hk) trivial (Below.refl _ _) (Nat.le_refl _) (by simp) ?_; (case hd => rfl); (case hg => rfl); (case hr => first | (go_simp; done) | (go_simp; rfl)); (case hp => exact (Reps.one (show Kd.M (Kd.int .i64) _ _ _ 0 [.int .i64 0] from rfl) (Reps.one (show Kd.M (Kd.int .i64) _ _ _ 0 [.int .i64 0] from rfl) (Reps.none _ _)))); intro v147 w13 ho14 hb hg_ hnew_; clear hg_ hnew_; (first | rw [← Ny146.out] at ho14 | (simp only [Int.reduceToNat] at ho14; rw [← Ny146.out] at ho14)); replace HO145 := zK (Kd.N_elder' (zn HO145) (Kd.R_base ho14) hb); have HO148 := zK (Kd.R_lower ho14 (below_size (zo HB))); replace HB := zK (below_step (zo HB) hb); clear hb ho14) | ((with_reducible refine gate_dst (N := 16) rfl ?_); (try (refine zG (by rfl) ?_; dsimp only)); refine Kd.R_lit (Kd.int .i64) _ 2 ?hg (N := 16) ?hd (xs := ([2, 2] : List Int)) (inner := [.int .i64 2, .int .i64 2]) (ok := fun _ => True) (okp := fun _ => True) ?hr ?hp (fun _ hk => hk) trivial (Below.refl _ _) (Nat.le_refl _) (by simp) ?_; (case hd => rfl); (case hg => rfl); (case hr => first | (go_simp; done) | (go_simp; rfl)); (case hp => exact (Reps.one (show Kd.M (Kd.int .i64) _ _ _ 2 [.int .i64 2] from rfl) (Reps.one (show Kd.M (Kd.int .i64) _ _ _ 2 [.int .i64 2] from rfl) (Reps.none _ _)))); intro v150 w15 ho16 hb hg_ hnew_; clear hg_ hnew_; (first | rw [← Ny149.out] at ho16 | (simp only [Int.reduceToNat] at ho16; rw [← Ny149.out] at ho16)); replace HO145 := zK (Kd.N_elder' (zn HO145) (Kd.R_base ho16) hb); have HO151 := zK (Kd.R_lower (Kd.R_new' ho16 (Kd.R_lt (zr HO148))) (below_size (zo HB))); replace HO148 := zK (Kd.R_elder' (zr HO148) (Kd.R_base ho16) hb); replace HB := zK (below_step (zo HB) hb); clear hb ho16; obtain ⟨Ao17, co17, eo17⟩ := Kd.N_slice HO145.out; subst eo17; obtain ⟨Ao18, co18, eo18⟩ := Kd.R_slice HO148.out; subst eo18; obtain ⟨Ao19, co19, eo19⟩ := Kd.R_slice HO151.out; subst eo19) | ((with_reducible refine zC (f := 22) rfl ?_); refine goesL_ (some 17) rfl rfl Try.func22 (by kernel_rfl) rfl #[.slice Ao17 y143.length co17, .slice Ao18 y146.length co18, .slice Ao19 y149.length co19] rfl (by (try simp only [List.map_toArray, List.map_cons, List.map_nil]); first | done | rfl | (simp only [List.length_drop, List.length_take]; rfl)) ?_; (with_reducible refine (box_First.calls k _ _ y143 _ _ y146 _ _ y149 t152 true t154 _ ?side1 ?side2 ?side3 ?side4 ?side5 ?side6 A1.out).mono ?_); (case side1 => repeat (first | exact (Kd.N_reads' HO145.out).2.2 | (with_reducible refine cA ?_ _) | (with_reducible refine cN ?_ _) | (with_reducible refine cD ?_))); (case side2 => exact (Kd.N_reads' HO145.out).2.1); (case side3 => repeat (first | exact (Kd.R_reads' HO148.out).2.2 | (with_reducible refine cA ?_ _) | (with_reducible refine cN ?_ _) | (with_reducible refine cD ?_))); (case side4 => exact (Kd.R_reads' HO148.out).2.1); (case side5 => repeat (first | exact (Kd.R_reads' HO151.out).2.2 | (with_reducible refine cA ?_ _) | (with_reducible refine cN ?_ _) | (with_reducible refine cD ?_))); (case side6 => exact (Kd.R_reads' HO151.out).2.1); rintro e w20 ⟨v155, rfl, ho0, hb⟩; refine ⟨_, rfl, ?_⟩; replace HO145 := zK (Kd.N_elder' (zn HO145) (Kd.R_base ho0) hb); have HO156 := zK (Kd.R_lower (Kd.R_new' (Kd.R_new' ho0 (Kd.R_lt (zr HO148))) (Kd.R_lt (zr HO151))) (below_size (zo HB))); replace HO148 := zK (Kd.R_elder' (zr HO148) (Kd.R_base ho0) hb); replace HO151 := zK (Kd.R_elder' (zr HO151) (Kd.R_base ho0) hb); replace HB := zK (below_step (zo HB) hb); (try clear hb); (try clear hb2); (try clear hk); (try clear hi); (try clear ho0)) | ((with_reducible refine gate_dst (N := 23) rfl ?_); (try (refine zG (by rfl) ?_; dsimp only)); refine Kd.R_lit (Kd.int .i64) _ 2 ?hg (N := 23) ?hd (xs := ([0, 0] : List Int)) (inner := [.int .i64 0, .int .i64 0]) (ok := fun _ => True) (okp := fun _ => True) ?hr ?hp (fun _ hk => hk) trivial (Below.refl _ _) (Nat.le_refl _) (by simp) ?_; (case hd => rfl); (case hg => rfl); (case hr => first | (go_simp; done) | (go_simp; rfl)); (case hp => exact (Reps.one (show Kd.M (Kd.int .i64) _ _ _ 0 [.int .i64 0] from rfl) (Reps.one (show Kd.M (Kd.int .i64) _ _ _ 0 [.int .i64 0] from rfl) (Reps.none _ _)))); intro v158 w21 ho22 hb hg_ hnew_; clear hg_ hnew_; (first | rw [← Ny157.out] at ho22 | (simp only [Int.reduceToNat] at ho22; rw [← Ny157.out] at ho22)); replace HO145 := zK (Kd.N_elder' (zn HO145) (Kd.R_base ho22) hb); have HO159 := zK (Kd.R_lower (Kd.R_new' (Kd.R_new' (Kd.R_new' ho22 (Kd.R_lt (zr HO148))) (Kd.R_lt (zr HO151))) (Kd.R_lt (zr HO156))) (below_size (zo HB))); replace HO148 := zK (Kd.R_elder' (zr HO148) (Kd.R_base ho22) hb); replace HO151 := zK (Kd.R_elder' (zr HO151) (Kd.R_base ho22) hb); replace HO156 := zK (Kd.R_elder' (zr HO156) (Kd.R_base ho22) hb); replace HB := zK (below_step (zo HB) hb); clear hb ho22) | ((with_reducible refine gate_dst (N := 24) rfl ?_); (try (refine zG (by rfl) ?_; dsimp only)); refine Kd.R_lit (Kd.int .i64) _ 2 ?hg (N := 24) ?hd (xs := ([2, 2] : List Int)) (inner := [.int .i64 2, .int .i64 2]) (ok := fun _ => True) (okp := fun _ => True) ?hr ?hp (fun _ hk => hk) trivial (Below.refl _ _) (Nat.le_refl _) (by simp) ?_; (case hd => rfl); (case hg => rfl); (case hr => first | (go_simp; done) | (go_simp; rfl)); (case hp => exact (Reps.one (show Kd.M (Kd.int .i64) _ _ _ 2 [.int .i64 2] from rfl) (Reps.one (show Kd.M (Kd.int .i64) _ _ _ 2 [.int .i64 2] from rfl) (Reps.none _ _)))); intro v161 w23 ho24 hb hg_ hnew_; clear hg_ hnew_; (first | rw [← Ny160.out] at ho24 | (simp only [Int.reduceToNat] at ho24; rw [← Ny160.out] at ho24)); replace HO145 := zK (Kd.N_elder' (zn HO145) (Kd.R_base ho24) hb); have HO162 := zK (Kd.R_lower (Kd.R_new' (Kd.R_new' (Kd.R_new' (Kd.R_new' ho24 (Kd.R_lt (zr HO148))) (Kd.R_lt (zr HO151))) (Kd.R_lt (zr HO156))) (Kd.R_lt (zr HO159))) (below_size (zo HB))); replace HO148 := zK (Kd.R_elder' (zr HO148) (Kd.R_base ho24) hb); replace HO151 := zK (Kd.R_elder' (zr HO151) (Kd.R_base ho24) hb); replace HO156 := zK (Kd.R_elder' (zr HO156) (Kd.R_base ho24) hb); replace HO159 := zK (Kd.R_elder' (zr HO159) (Kd.R_base ho24) hb); replace HB := zK (below_step (zo HB) hb); clear hb ho24; obtain ⟨Ao25, co25, eo25⟩ := Kd.R_slice HO159.out; subst eo25; obtain ⟨Ao26, co26, eo26⟩ := Kd.R_slice HO162.out; subst eo26) | ((with_reducible refine zC (f := 24) rfl ?_); refine goesL_ (some 25) rfl rfl Try.func24 (by kernel_rfl) rfl #[.slice Ao17 y143.length co17, .slice Ao25 y157.length co25, .slice Ao26 y160.length co26] rfl (by (try simp only [List.map_toArray, List.map_cons, List.map_nil]); first | done | rfl | (simp only [List.length_drop, List.length_take]; rfl)) ?_; (with_reducible refine (box_Count.calls k _ _ y143 _ _ y157 _ _ y160 t163 t164 _ ?side1 ?side2 ?side3 ?side4 ?side5 ?side6 A2.out).mono ?_); (case side1 => repeat (first | exact (Kd.N_reads' HO145.out).2.2 | (with_reducible refine cA ?_ _) | (with_reducible refine cN ?_ _) | (with_reducible refine cD ?_))); (case side2 => exact (Kd.N_reads' HO145.out).2.1); (case side3 => repeat (first | exact (Kd.R_reads' HO159.out).2.2 | (with_reducible refine cA ?_ _) | (with_reducible refine cN ?_ _) | (with_reducible refine cD ?_))); (case side4 => exact (Kd.R_reads' HO159.out).2.1); (case side5 => repeat (first | exact (Kd.R_reads' HO162.out).2.2 | (with_reducible refine cA ?_ _) | (with_reducible refine cN ?_ _) | (with_reducible refine cD ?_))); (case side6 => exact (Kd.R_reads' HO162.out).2.1); rintro e w27 ⟨rfl, hb⟩; refine ⟨_, rfl, ?_⟩; replace HO145 := zK (Kd.N_below (zn HO145) hb); replace HO148 := zK (Kd.R_below (zr HO148) hb); replace HO151 := zK (Kd.R_below (zr HO151) hb); replace HO156 := zK (Kd.R_below (zr HO156) hb); replace HO159 := zK (Kd.R_below (zr HO159) hb); replace HO162 := zK (Kd.R_below (zr HO162) hb); replace HB := zK (below_step (zo HB) hb); (try clear hb); (try clear hb2); (try clear hk); (try clear hi)) | ((with_reducible refine gate_dst (N := 39) rfl ?_); (try (refine zG (by rfl) ?_; dsimp only)); refine Kd.R_lit (Kd.int .i64) _ 2 ?hg (N := 39) ?hd (xs := ([1, 2] : List Int)) (inner := [.int .i64 1, .int .i64 2]) (ok := fun _ => True) (okp := fun _ => True) ?hr ?hp (fun _ hk => hk) trivial (Below.refl _ _) (Nat.le_refl _) (by simp) ?_; (case hd => rfl); (case hg => rfl); (case hr => first | (go_simp; done) | (go_simp; rfl)); (case hp => exact (Reps.one (show Kd.M (Kd.int .i64) _ _ _ 1 [.int .i64 1] from rfl) (Reps.one (show Kd.M (Kd.int .i64) _ _ _ 2 [.int .i64 2] from rfl) (Reps.none _ _)))); intro v166 w28 ho29 hb hg_ hnew_; clear hg_ hnew_; (first | rw [← Ny165.out] at ho29 | (simp only [Int.reduceToNat] at ho29; rw [← Ny165.out] at ho29)); replace HO145 := zK (Kd.N_elder' (zn HO145) (Kd.R_base ho29) hb); have HO167 := zK (Kd.R_lower (Kd.R_new' (Kd.R_new' (Kd.R_new' (Kd.R_new' (Kd.R_new' ho29 (Kd.R_lt (zr HO148))) (Kd.R_lt (zr HO151))) (Kd.R_lt (zr HO156))) (Kd.R_lt (zr HO159))) (Kd.R_lt (zr HO162))) (below_size (zo HB))); replace HO148 := zK (Kd.R_elder' (zr HO148) (Kd.R_base ho29) hb); replace HO151 := zK (Kd.R_elder' (zr HO151) (Kd.R_base ho29) hb); replace HO156 := zK (Kd.R_elder' (zr HO156) (Kd.R_base ho29) hb); replace HO159 := zK (Kd.R_elder' (zr HO159) (Kd.R_base ho29) hb); replace HO162 := zK (Kd.R_elder' (zr HO162) (Kd.R_base ho29) hb); replace HB := zK (below_step (zo HB) hb); clear hb ho29; obtain ⟨Ao30, co30, eo30⟩ := Kd.R_slice HO156.out; subst eo30; obtain ⟨Ao31, co31, eo31⟩ := Kd.R_slice HO167.out; subst eo31) | (go_at_call 25; (with_reducible refine (sequiturbase_Int64s.calls k _ _ t152 _ _ y165 true _ ?side1 ?side2 ?side3 ?side4 A6.out).mono ?_); (case side1 => repeat (first | exact (Kd.R_reads' HO156.out).2.2 | (with_reducible refine cA ?_ _) | (with_reducible refine cN ?_ _) | (with_reducible refine cD ?_))); (case side2 => exact (Kd.R_reads' HO156.out).2.1); (case side3 => repeat (first | exact (Kd.R_reads' HO167.out).2.2 | (with_reducible refine cA ?_ _) | (with_reducible refine cN ?_ _) | (with_reducible refine cD ?_))); (case side4 => exact (Kd.R_reads' HO167.out).2.1); rintro e w' ⟨rfl, ⟨nd, rfl⟩⟩))
     go_ret
     exact ⟨by first | rfl | (simp [errW_none, errW_some] <;> rfl) | (simp [*, errW_none, errW_some] <;> rfl), zo HB⟩
    ·replace c7 := Bool.eq_false_iff.mpr c7
     subst c7
     have H1 : (none) = some r := by rw [if_neg (show ¬ (false = true) by decide)] at H; exact H
     clear H; have H := H1; clear H1
     exact absurd H (by simp)
   ·rw [if_neg c5] at H
    exact absurd H (by simp)
  ·rw [if_neg c4] at H
   exact absurd H (by simp)
 ·replace c3 := Bool.eq_false_iff.mpr c3
  subst c3
  have H1 : (none) = some r := by rw [if_neg (show ¬ (false = true) by decide)] at H; exact H
  clear H; have H := H1; clear H1
  exact absurd H (by simp)

/-! ### num_told: function 110 -/
def num_told.f (a0 : Int) (a1 : Bool) : Option (Int × Bool) := if a1 = true then (some (a0, true)) else (some (0, false))
set_option maxHeartbeats 8000000 in
set_option maxRecDepth 100000 in
theorem num_told.calls (a0 : Int) (a1 : Bool) (r1 : Int) (r2 : Bool) (w : World) (h : num_told.f a0 a1 = some (r1, r2)) :
  Calls Try.prog 110 #[.int .i64 a0, .bool a1] w fun e w' => e = .returned (.tuple #[.int .i64 r1, .bool r2]) ∧ Drawn0 w w' := by
 have H : (if a1 = true then (some (a0, true)) else (some (0, false))) = some (r1, r2) := h
 clear h
 by_cases c3 : a1 = true
 ·subst c3
  have H1 : (some (a0, true)) = some (r1, r2) := by rw [if_pos rfl] at H; exact H
  clear H; have H := H1; clear H1
  simp only [Option.some.injEq, Prod.mk.injEq] at H
  obtain ⟨rfl, rfl⟩ := H
  go_enter Try.func110, Try.ntmps110
  go_wp2
  go_ret2
  exact ⟨by first | rfl | (simp; done) | (simp [*]; done), by repeat (first | exact Drawn0.refl _ | apply Drawn0.step)⟩
 ·replace c3 := Bool.eq_false_iff.mpr c3
  subst c3
  have H1 : (some (0, false)) = some (r1, r2) := by rw [if_neg (show ¬ (false = true) by decide)] at H; exact H
  clear H; have H := H1; clear H1
  simp only [Option.some.injEq, Prod.mk.injEq] at H
  obtain ⟨rfl, rfl⟩ := H
  go_enter Try.func110, Try.ntmps110
  go_wp2
  go_ret2
  exact ⟨by first | rfl | (simp; done) | (simp [*]; done), by repeat (first | exact Drawn0.refl _ | apply Drawn0.step)⟩

/-! ### num_Sub: function 91 -/
def num_Sub.f (a0 : Int) (a1 : Int) : Option (Int × Bool) := (num_told.f (wrap64 (a0 - a1)) ((decide ((wrap64 (a0 - a1)) < a0)) == (decide (a1 > 0)))).bind fun bt169 => (some (bt169.1, bt169.2))
set_option maxHeartbeats 8000000 in
set_option maxRecDepth 100000 in
theorem num_Sub.calls (a0 : Int) (a1 : Int) (r1 : Int) (r2 : Bool) (w : World) (h : num_Sub.f a0 a1 = some (r1, r2)) :
  Calls Try.prog 91 #[.int .i64 a0, .int .i64 a1] w fun e w' => e = .returned (.tuple #[.int .i64 r1, .bool r2]) ∧ Drawn0 w w' := by
 have H : ((num_told.f (wrap64 (a0 - a1)) ((decide ((wrap64 (a0 - a1)) < a0)) == (decide (a1 > 0)))).bind fun bt169 => (some (bt169.1, bt169.2))) = some (r1, r2) := h
 clear h; replace H := Option.bind_eq_some_iff.mp H
 obtain ⟨⟨t169, t170⟩, A30, H⟩ := H
 replace H : (some (t169, t170)) = some (r1, r2) := H
 have A3 := zK A30; clear A30
 simp only [Option.some.injEq, Prod.mk.injEq] at H
 obtain ⟨rfl, rfl⟩ := H
 go_enter Try.func91, Try.ntmps91
 go_wp2_with (first | ((with_reducible refine zC (f := 110) rfl ?_); refine goesL_ (some 17) rfl rfl Try.func110 (by kernel_rfl) rfl #[.int .i64 (wrap64 (a0 - a1)), .bool ((decide ((wrap64 (a0 - a1)) < a0)) == (decide (a1 > 0)))] rfl (by (try simp only [List.map_toArray, List.map_cons, List.map_nil]); first | done | rfl | (simp only [List.length_drop, List.length_take]; rfl)) ?_; (with_reducible refine (num_told.calls (wrap64 (a0 - a1)) ((decide ((wrap64 (a0 - a1)) < a0)) == (decide (a1 > 0))) t169 t170 _ A3.out).mono ?_); rintro e w' ⟨rfl, ⟨nd, rfl⟩⟩; refine ⟨_, rfl, ?_⟩))
 go_ret2
 exact ⟨by first | rfl | (simp; done) | (simp [*]; done), by repeat (first | exact Drawn0.refl _ | apply Drawn0.step)⟩

/-! ### num_Neg: function 61 -/
def num_Neg.f (a0 : Int) : Option (Int × Bool) := (num_Sub.f 0 a0).bind fun bt171 => (some (bt171.1, bt171.2))
set_option maxHeartbeats 8000000 in
set_option maxRecDepth 100000 in
theorem num_Neg.calls (a0 : Int) (r1 : Int) (r2 : Bool) (w : World) (h : num_Neg.f a0 = some (r1, r2)) :
  Calls Try.prog 61 #[.int .i64 a0] w fun e w' => e = .returned (.tuple #[.int .i64 r1, .bool r2]) ∧ Drawn0 w w' := by
 have H : ((num_Sub.f 0 a0).bind fun bt171 => (some (bt171.1, bt171.2))) = some (r1, r2) := h
 clear h; replace H := Option.bind_eq_some_iff.mp H
 obtain ⟨⟨t171, t172⟩, A20, H⟩ := H
 replace H : (some (t171, t172)) = some (r1, r2) := H
 have A2 := zK A20; clear A20
 simp only [Option.some.injEq, Prod.mk.injEq] at H
 obtain ⟨rfl, rfl⟩ := H
 go_enter Try.func61, Try.ntmps61
 go_wp2_with (first | ((with_reducible refine zC (f := 91) rfl ?_); refine goesL_ (some 5) rfl rfl Try.func91 (by kernel_rfl) rfl #[.int .i64 0, .int .i64 a0] rfl (by (try simp only [List.map_toArray, List.map_cons, List.map_nil]); first | done | rfl | (simp only [List.length_drop, List.length_take]; rfl)) ?_; (with_reducible refine (num_Sub.calls 0 a0 t171 t172 _ A2.out).mono ?_); rintro e w' ⟨rfl, ⟨nd, rfl⟩⟩; refine ⟨_, rfl, ?_⟩))
 go_ret2
 exact ⟨by first | rfl | (simp; done) | (simp [*]; done), by repeat (first | exact Drawn0.refl _ | apply Drawn0.step)⟩

/-! ### num_twos: function 123 -/
def num_twos.l0 : Nat → Int → Int → Option (Int)
 | 0, _, _ => none
 | k + 1, x0, x4 => if x4 < 64 then (if 0 ≤ x4 then (if (Go.bits .and .u64 (shr .u64 x0 x4) 1) = 1 then (some x4) else (num_twos.l0 k x0 (wrap64 (x4 + 1)))) else (none)) else (some 64)
def num_twos.f (k : Nat) (a0 : Int) : Option (Int) := num_twos.l0 k a0 0
theorem num_twos.mono_l : ∀ k, (∀ y0 y1, LeO (num_twos.l0 k y0 y1) (num_twos.l0 (k + 1) y0 y1))
 | 0 => fun _ _ r h => by simp [num_twos.l0] at h
 | k + 1 => by
  have ih0 := num_twos.mono_l k
  ·intro y0 y1
   unfold num_twos.l0
   repeat' first
   | (with_reducible exact ih0 _ _)
   | (with_reducible exact LeO.refl _)
   | (with_reducible exact LeO.none _)
   | (with_reducible refine LeO.ite ?_ ?_)
   | (with_reducible refine LeO.bind ?_ (fun _ => ?_))
   | exact ih0 _ _
   | exact LeO.none _
   | refine LeO.ite ?_ ?_
   | refine LeO.bind ?_ (fun _ => ?_)
theorem num_twos.mono : ∀ a0 k, LeO (num_twos.f k a0) (num_twos.f (k + 1) a0) := by
 intro a0 k
 have ih0 := num_twos.mono_l k
 unfold num_twos.f
 repeat' first
   | (with_reducible exact ih0 _ _)
   | (with_reducible exact LeO.refl _)
   | (with_reducible exact LeO.none _)
   | (with_reducible refine LeO.ite ?_ ?_)
   | (with_reducible refine LeO.bind ?_ (fun _ => ?_))
   | exact ih0 _ _
   | exact LeO.none _
   | refine LeO.ite ?_ ?_
   | refine LeO.bind ?_ (fun _ => ?_)
set_option maxHeartbeats 8000000 in
set_option maxRecDepth 100000 in
theorem num_twos.calls (k : Nat) (a0 : Int) (r : Int) (w : World) (h : num_twos.f k a0 = some r) :
  Calls Try.prog 123 #[.int .u64 a0] w fun e w' => e = .returned (.int .i64 r) ∧ Drawn0 w w' := by
 have H : (num_twos.l0 k a0 0) = some r := h; clear h
 have H' := zK H; clear H
 go_enter Try.func123, Try.ntmps123
 go_wp2
 go_loopg [4] k (fun kq v4 w' => ∃ (x4_1 : Int), v4 = .int .i64 x4_1 ∧ Aside0 (num_twos.l0 kq a0 x4_1 = some r) ∧ Aside0 (kq ≤ k) ∧ Drawn0 w w')
 case atStart => exact ⟨(0), (by first | rfl | (simp; done) | (simp [*]; done)), H', ⟨Nat.le_refl _⟩, by repeat (first | exact Drawn0.refl _ | apply Drawn0.step)⟩
 case round =>
  clear H'; try clear c1
  obtain ⟨x4_1, rfl, HA, HK1, ⟨m1, rfl⟩⟩ := hrel
  cases gk with
  | zero => exact absurd HA.out (by simp [num_twos.l0])
  | succ k1 =>
   have H := HA.out; clear HA
   simp only [num_twos.l0] at H
   by_cases c2 : x4_1 < 64
   ·rw [if_pos c2] at H
    have c2b0 : decide (x4_1 < 64) = true := decide_eq_true c2; clear c2
    by_cases c3 : 0 ≤ x4_1
    ·rw [if_pos c3] at H
     have c3b0 := eq_true c3
     have c3b1 : decide (0 ≤ x4_1) = true := decide_eq_true c3; clear c3
     obtain ⟨ji4, hji4⟩ : ∃ j_ : Int, (shr .u64 a0 x4_1) = j_ := ⟨_, rfl⟩
     replace H : (if (Go.bits .and .u64 (ji4) 1) = 1 then (some x4_1) else (num_twos.l0 k1 a0 (wrap64 (x4_1 + 1)))) = some r := by first | (rw [hji4] at H; exact H) | (simp only [hji4] at H ⊢; exact H)
     have hji4_ : (a0 / 2 ^ min x4_1.toNat 64) = ji4 := hji4
     have hji4z : x4_1 ≤ 64 → (a0 / 2 ^ x4_1.toNat) = ji4 := shr_small hji4
     by_cases c5 : (Go.bits .and .u64 (ji4) 1) = 1
     ·rw [if_pos c5] at H
      have c5b0 : ((Go.bits .and .u64 (ji4) 1) == 1) = true := beq_iff_eq.mpr c5
      have c5b1 : ((Go.bits .and .u64 (ji4) 1) != 1) = false := bne_eq_false_iff_eq.mpr c5
      clear c5
      obtain rfl := Option.some.inj H
      go_wp2
      go_ret
      exact ⟨by first | rfl | (simp; done) | (simp only [← hji4] <;> (first | rfl | simp)) | (simp [*]; done), by repeat (first | exact Drawn0.refl _ | apply Drawn0.step)⟩
     ·rw [if_neg c5] at H
      have c5b0 : ((Go.bits .and .u64 (ji4) 1) == 1) = false := beq_eq_false_iff_ne.mpr c5
      have c5b1 : ((Go.bits .and .u64 (ji4) 1) != 1) = true := bne_iff_ne.mpr c5
      have H' := zK H; clear H
      go_wp2
      go_roundg k1
      case measure => have := HK1.out; omega
      case rel => exact ⟨(wrap64 (x4_1 + 1)), (by first | rfl | (simp; done) | (simp [*]; done)), H', ⟨by have := HK1.out; omega⟩, by repeat (first | exact Drawn0.refl _ | apply Drawn0.step)⟩
    ·rw [if_neg c3] at H
     exact absurd H (by simp)
   ·rw [if_neg c2] at H
    have c2b0 : decide (x4_1 < 64) = false := decide_eq_false c2; clear c2
    obtain rfl := Option.some.inj H
    go_wp2
    go_ret
    exact ⟨by first | rfl | (simp; done) | (simp [*]; done), by repeat (first | exact Drawn0.refl _ | apply Drawn0.step)⟩

end Go.Proofs.Ytkfbfgkdabljiaa.PBoxWithin
