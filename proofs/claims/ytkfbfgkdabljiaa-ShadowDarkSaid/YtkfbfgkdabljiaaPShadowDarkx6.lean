/- What the call of each function that the law reaches comes to: it answers as the plain function of the same name does, wherever that one answers; and the law itself out of its plain form. Written by a program of this session (an extended copy of the printer); no condition but what stands in each theorem. -/
import Derived.Test.YtkfbfgkdabljiaaPShadowDarkx0
import Derived.Test.YtkfbfgkdabljiaaPShadowDarkx2
import Derived.Test.YtkfbfgkdabljiaaPShadowDarkx3
import Derived.Test.YtkfbfgkdabljiaaPShadowDarkx5
namespace Go.Proofs.Ytkfbfgkdabljiaa.PShadowDark
open Go.RowKit Go.Proofs.YtkfbfgkdabljiaaW.PrintWords Go.Proofs.YtkfbfgkdabljiaaW.PrintLast Go.Proofs.YtkfbfgkdabljiaaW.PrintMore
open Go.Proofs.YtkfbfgkdabljiaaW.PrintWords renaming blk_drewN → zN, blk_drew → zD, blk_alloc → zA, below_alloc → yA, pw_below_drewN → yN, below_drew1 → yD, below_set → yS, gate_callee → zC
open Go.Proofs.YtkfbfgkdabljiaaW.PrintWords.Aside0 renaming mk → zK
attribute [local go_sem] max2_int min2_int max_two min_two max_three min_three max_four min_four   -- for this text's walks alone
set_option linter.unusedVariables false
set_option linter.unusedSimpArgs false

/-! ### lin_Eval: function 57, by hand -/
theorem lit_event {P : Program} {ops : Array Oper} {Q : Exit → Act → World → Prop} {rest : List Oper} {o : Oper} {a : Act} {W : World} (hgd : o.guard = none) {N : Tmp} (_hd : o.dst = some N) {cs : Array Value} {t : TypeId} {n : Nat}
  (hrun : (execOp a.eval o).run P W = .ok (.value (.slice (some ⟨W.heap.size, 0, none⟩) n n)) (W.alloc (.cells cs t (0, 0))))
  (h : ∀ g, g = W.heap.size → ∀ w1, w1.heap[g]? = some (.cells cs t (0, 0)) → Below W.heap.size W w1 → wpList P ops Q rest (a.put o.dst (.slice (some ⟨g, 0, none⟩) n n)) w1) : wpList P ops Q (o :: rest) a W :=
 Kd.event_run hgd hrun (h _ rfl _ (blk_new W _) (yA (Below.refl _ _) _))
theorem C_oneLin {w : World} {g : Nat} {K : Int} {L : List S68} {A : Option Addr} {c : Nat} (hb : w.heap[g]? = some (.cells #[.int .i64 K, .slice A L.length c] 62 (0, 0))) (hL : Kd.C k68 w A L.length L) (hc : L.length ≤ c) : Kd.C k62 w (some ⟨g, 0, none⟩) 1 [⟨K, L⟩] := by
 refine ⟨rfl, by decide, fun _ => ⟨⟨g, 0, none⟩, rfl, fun j p hj => ?_⟩⟩
 cases j with
 | succ j => simp at hj
 | zero =>
  simp at hj
  subst hj
  refine ⟨[.int .i64 K, .slice A L.length c], rfl, k62_mk w ⟨K, L⟩ hc hL, fun i u hu => ?_⟩
  have := blk_cell hb i
  have e_ : (⟨g, 0, none⟩ : Addr).add (0 * k62.sz + i) = ⟨g, i, none⟩ := by cases i <;> simp [Addr.add]
  rw [e_, this]
  simpa using hu
/-- What a form comes to by numbers; a variable without a number is 0. -/
def evalStep (x : List Int) (s : Int) (m : S68) : Int := if m.f0 < (x.length : Int) then s + m.f1 * rd x m.f0 else s
def evalSum (K : Int) (L : List S68) (x : List Int) : Int := L.foldl (evalStep x) (0 + K * 1)
def evalOk (x : List Int) (m : S68) : Bool := decide (0 ≤ m.f0) && (decide ((x.length : Int) ≤ m.f0) || (in64 m.f1 && in64 (rd x m.f0)))
def lin_Eval.f (k : Nat) (a0_0 : Int) (l0_1 : List S68) (l1 : List Int) : Option (Int × Int) :=
 (lin_right.f k [⟨a0_0, l0_1⟩]).bind fun t => if t = true then (if (in64 a0_0 && l0_1.all (evalOk l1)) = true then some (if (fit192 (evalSum a0_0 l0_1 l1)).2 = true then ((fit192 (evalSum a0_0 l0_1 l1)).1, 0) else (0, 5)) else none) else some (0, 1)
theorem lin_Eval.mono : ∀ a0 a1 a2 k, LeO (lin_Eval.f k a0 a1 a2) (lin_Eval.f (k + 1) a0 a1 a2) := by
 intro a0 a1 a2 k
 unfold lin_Eval.f
 exact LeO.bind (lin_right.mono _ _) (fun _ => LeO.refl _)
set_option maxHeartbeats 8000000 in
set_option maxRecDepth 100000 in
theorem eval_walk (k : Nat) (a0 : Int) (A0 : Option Addr) (c0 : Nat) (l0 : List (S68)) (A1 : Option Addr) (c1 : Nat) (l1 : List Int) (w : World) (hr0 : Kd.C k68 w A0 l0.length l0) (hc0 : l0.length ≤ c0) (hr1 : Kd.C (Kd.int .i64) w A1 l1.length l1)
  (ht : lin_right.f k [⟨a0, l0⟩] = some true) (hga : in64 a0 = true) (hgl : l0.all (evalOk l1) = true) (r1 r2 : Int) (hr : (if (fit192 (evalSum a0 l0 l1)).2 = true then ((fit192 (evalSum a0 l0 l1)).1, (0 : Int)) else (0, 5)) = (r1, r2)) :
  Calls Try.prog 57 #[.agg #[.int .i64 a0, .slice A0 l0.length c0], .slice A1 l1.length c1] w fun e w' => e = .returned (.tuple #[.int .i64 r1, .int .i64 r2]) ∧ Below w.heap.size w w' := by
 have hu28 := Try.underlying62
 have hu47 := Try.underlying68
 have HR0 := zK hr0
 have HC0 := zK hc0
 have HR1 := zK hr1
 have HT := zK ht
 have HGA := zK hga
 have HGL := zK hgl
 obtain ⟨N0, hN0⟩ : ∃ N0, N0 = (fit192 (evalSum a0 l0 l1)).1 := ⟨_, rfl⟩
 obtain ⟨D0, hD0⟩ : ∃ D0, D0 = (fit192 (evalSum a0 l0 l1)).2 := ⟨_, rfl⟩
 rw [← hN0, ← hD0] at hr
 have HR := zK hr
 have HN0 := zK hN0
 have HD0 := zK hD0; clear hr0 hc0 hr1 ht hga hgl hr hN0 hD0
 go_enter Try.func57, Try.ntmps57
 go_wp2_with (first
  | ((with_reducible refine gate_dst (N := 2) rfl ?_); refine box_event ?hg (N := 2) ?hd (cs := #[.int .i64 a0, .slice A0 l0.length c0]) (t := 62) ?hr ?_; (case hd => rfl); (case hg => rfl); (case hr => first | (go_simp; done) | (go_simp; rfl)); intro gL hg_ w1 hbox_ hb_; have EL := zK hg_; have BL0 := zK hbox_; have HB1 := zK hb_; clear hg_ hbox_ hb_; have hl0 : w1.cell? ⟨gL, 0, none⟩ = some (.int .i64 a0) := (blk_cell BL0.out 0).trans rfl; have hl1 : w1.cell? ⟨gL, 1, none⟩ = some (.slice A0 l0.length c0) := (blk_cell BL0.out 1).trans rfl)
  | ((with_reducible refine gate_dst (N := 12) rfl ?_); refine lit_event ?hg (N := 12) ?hd (cs := #[.int .i64 a0, .slice A0 l0.length c0]) (t := 62) (n := 1) ?hr ?_; (case hd => rfl); (case hg => rfl); (case hr => first | (go_simp; done) | (go_simp; rfl)); intro gT hg_ w2 hbox_ hb_; have ET := zK hg_; have BT := zK hbox_; have HB2 := zK hb_; clear hg_ hbox_ hb_)
  | (go_at_call 87; (refine (lin_right.calls k (some ⟨gT, 0, none⟩) 1 [⟨a0, l0⟩] true w2 (C_oneLin BT.out (Kd.C_below (Kd.C_below HR0.out HB1.out) HB2.out) HC0.out) (Nat.le_refl _) HT.out).mono ?_); rintro e w3 ⟨rfl, hb_⟩; have HB3 := zK (below_step (below_step HB1.out HB2.out) hb_); have BL := zK (blk_below (blk_below BL0.out HB2.out) hb_); have GL := zK (Nat.le_of_eq EL.out.symm); clear hb_ HB1 HB2 BT ET EL BL0 hl0 hl1)
  | ((with_reducible refine gate_dst (N := 6) rfl ?_); refine box_event ?hg (N := 6) ?hd (cs := accCells [0]) (t := 128) ?hr ?_; (case hd => rfl); (case hg => rfl); (case hr => first | (go_simp; done) | (go_simp; rfl)); intro gS hg_ w4 hbox_ hb_; have ES := zK hg_; have BS0 := zK hbox_; have HB4 := zK hb_; clear hg_ hbox_ hb_; have hl0 : w4.cell? ⟨gL, 0, none⟩ = some (.int .i64 a0) := (blk_cell (blk_below BL.out HB4.out) 0).trans rfl)
  | (go_at_call 88; refine (exact_Add gS 0 0 a0 1 _ 128 (accCells [0]) (in64_iff HGA.out).1 (in64_iff HGA.out).2 (by decide) (by decide) BS0.out (accCells_at [0] 0 (by simp))).mono ?_; rintro e w5 ⟨rfl, hk_, hs_⟩; have BS5 : Aside0 (w5.heap[gS]? = some (.cells (accCells [0 + a0 * 1]) 128 (0, 0))) := zK (hk_.trans (congrArg (fun z => some (Obj.cells z 128 (0, 0))) ((accCells_put [0] 0 (0 + a0 * 1) (by simp)).trans rfl))); have NLS := zK (show gL ≠ gS by have := ES.out; have := blk_lt BL.out; omega); have GS := zK (show w.heap.size ≤ gS by have := ES.out; have := HB3.out.size; omega); have BL5 := zK ((hs_.block gL NLS.out).trans (blk_below BL.out HB4.out)); have HB5 := zK (Below.trans (below_step HB3.out HB4.out) (hs_.below GS.out)); clear hk_ hs_ BS0 HB4 HB3 BL ES; have hl0 : w5.cell? ⟨gL, 0, none⟩ = some (.int .i64 a0) := (blk_cell BL5.out 0).trans rfl; have hl1 : w5.cell? ⟨gL, 1, none⟩ = some (.slice A0 l0.length c0) := (blk_cell BL5.out 1).trans rfl))
 go_loopg [21] l0.length (fun gk v21 w' => ∃ (x : Int), v21 = .int .i64 x ∧ Aside0 (∃ i : Nat, x = i ∧ i + gk = l0.length ∧ w'.heap[gS]? = some (.cells (accCells [(l0.take i).foldl (evalStep l1) (0 + a0 * 1)]) 128 (0, 0))) ∧ Aside0 (w'.heap[gL]? = some (.cells #[.int .i64 a0, .slice A0 l0.length c0] 62 (0, 0))) ∧ Aside0 (Below w.heap.size w w'))
 case atStart => exact ⟨0, rfl, ⟨0, rfl, by omega, BS5.out⟩, ⟨BL5.out⟩, ⟨HB5.out⟩⟩
 case round =>
  clear BS5 BL5 HB5 hl0 hl1
  obtain ⟨x, rfl, HX, BL, HB⟩ := hrel
  obtain ⟨i, hxi, hgk, bs⟩ := HX.out; clear HX
  have BS := zK bs; clear bs
  have HI := zK hxi
  have HGK := zK hgk; clear hxi hgk
  cases gk with
  | zero =>
   have c1 : decide (x < (l0.length : Int)) = false := decide_eq_false (by have := HI.out; have := HGK.out; omega)
   have hti : l0.take i = l0 := List.take_of_length_le (by have := HGK.out; omega)
   have CF := zK (show ∀ m, Calls Try.prog 89 #[.pointer (some ⟨gS, 0, none⟩)] (wr.drewN m) fun e W' => e = .returned (.tuple #[.int .i64 N0, .bool D0]) ∧ Drawn0 (wr.drewN m) W' by
    intro m
    rw [HN0.out, HD0.out]
    have h_ := BS.out
    rw [hti] at h_
    exact exact_Fits gS 0 (evalSum a0 l0 l1) (wr.drewN m) 128 (accCells [evalSum a0 l0 l1]) h_ (accCells_at [evalSum a0 l0 l1] 0 (by simp)))
   clear hti
   have HRR := HR.out
   cases D0 with
   | true =>
    rw [if_pos rfl] at HRR
    simp only [Prod.mk.injEq] at HRR
    obtain ⟨e1, e2⟩ := HRR
    have E1 := zK e1
    have E2 := zK e2; clear e1 e2
    go_wp2_with (first | (go_at_call 89; refine (CF.out 0).mono ?_; rintro e w' ⟨rfl, ⟨nd, rfl⟩⟩))
    go_ret2
    exact ⟨by rw [← E1.out, ← E2.out]; rfl, yN HB.out _⟩
   | false =>
    rw [if_neg (by simp)] at HRR
    simp only [Prod.mk.injEq] at HRR
    obtain ⟨e1, e2⟩ := HRR
    have E1 := zK e1
    have E2 := zK e2; clear e1 e2
    go_wp2_with (first | (go_at_call 89; refine (CF.out 0).mono ?_; rintro e w' ⟨rfl, ⟨nd, rfl⟩⟩))
    go_ret2
    exact ⟨by rw [← E1.out, ← E2.out]; rfl, yN HB.out _⟩
  | succ gko =>
   have p2 : 0 ≤ x := by have := HI.out; omega
   have q2 : x < (l0.length : Int) := by have := HI.out; have := HGK.out; omega
   obtain ⟨XM, hXM⟩ : ∃ XM, XM = rd_T68 l0 x := ⟨_, rfl⟩
   have HXM := zK (show i < l0.length ∧ ∀ h : i < l0.length, XM = l0[i] by
    have := HI.out; have := HGK.out
    refine ⟨by omega, fun h => ?_⟩
    rw [hXM, HI.out]; simp [rd_T68, h])
   have HGM := zK (show evalOk l1 XM = true by rw [HXM.out.2 HXM.out.1]; exact List.all_eq_true.1 HGL.out _ (List.getElem_mem _))
   obtain ⟨ad2, e2, hm0, hm1⟩ := at_T68 HR0.out x p2 q2
   rw [← hXM] at hm0 hm1; clear hXM
   cases e2
   replace hm0 := (HB.out.cell (World.block_lt_of_cell? w _ hm0)).trans hm0
   replace hm1 := (HB.out.cell (World.block_lt_of_cell? w _ hm1)).trans hm1
   have c2 : decide (x < (l0.length : Int)) = true := decide_eq_true q2
   replace p2 := eq_true p2
   replace q2 := eq_true q2
   have hm := HGM.out
   unfold evalOk at hm
   rw [Bool.and_eq_true, Bool.or_eq_true, Bool.and_eq_true] at hm
   have v0 : 0 ≤ XM.f0 := of_decide_eq_true hm.1
   have HE := zK (show (l0.take (i + 1)).foldl (evalStep l1) (0 + a0 * 1) = evalStep l1 ((l0.take i).foldl (evalStep l1) (0 + a0 * 1)) XM by
    have e_ := HXM.out.2 HXM.out.1
    rw [List.take_succ_eq_append_getElem HXM.out.1, List.foldl_append, ← e_]; rfl)
   by_cases hv : XM.f0 < (l1.length : Int)
   ·have hm2 : in64 XM.f1 = true ∧ in64 (rd l1 XM.f0) = true := by
     rcases hm.2 with h | h
     ·have := of_decide_eq_true h; omega
     ·exact h
    have RM := zK hm2; clear hm hm2 HGM
    have HVV := zK (And.intro v0 hv)
    obtain ⟨YV, hYV⟩ : ∃ YV, YV = rd l1 XM.f0 := ⟨_, rfl⟩
    obtain ⟨ad3, e3, hy⟩ : ∃ ad, A1 = some ad ∧ w.cell? (ad.add XM.f0.toNat) = some (.int .i64 YV) := by
     obtain ⟨ad, c, e, hs, hk, hcell⟩ := Kd.C_get HR1.out 0 XM.f0 v0 hv
     refine ⟨ad, e, ?_⟩
     have hk' : c = [Value.int .i64 (l1.getD XM.f0.toNat 0)] := hk
     have := hcell 0 (.int .i64 (l1.getD XM.f0.toNat 0)) (by rw [hk']; rfl)
     have e2 : XM.f0.toNat * (Kd.int .i64).sz + 0 = XM.f0.toNat := Nat.mul_one _
     rw [e2] at this
     rw [hYV]
     exact this
    cases e3
    replace hy := (HB.out.cell (World.block_lt_of_cell? w _ hy)).trans hy
    have HYV := zK hYV; clear hYV
    have c3 : decide (XM.f0 < (l1.length : Int)) = true := decide_eq_true hv
    have hvv := eq_true hv
    have hv0 := eq_true v0
    go_wp2_with (first
     | ((with_reducible refine gate_dst (N := 8) rfl ?_); refine box_event ?hg (N := 8) ?hd (cs := #[.int .i64 0, .int .i64 0]) (t := 68) ?hr ?_; (case hd => rfl); (case hg => rfl); (case hr => first | (go_simp; done) | (go_simp; rfl)); intro gM hg_ w6 hbox_ hb_; have EM := zK hg_; have BM0 := zK hbox_; have HB6 := zK hb_; clear hg_ hbox_ hb_; have hz0 : w6.cell? ⟨gM, 0, none⟩ = some (.int .i64 0) := (blk_cell BM0.out 0).trans rfl; have hz1 : w6.cell? ⟨gM, 1, none⟩ = some (.int .i64 0) := (blk_cell BM0.out 1).trans rfl; have fz0 := blk_frozen BM0.out 0; have fz1 := blk_frozen BM0.out 1; have NSM := zK (show gS ≠ gM by have := EM.out; have := blk_lt BS.out; omega); have NLM := zK (show gL ≠ gM by have := EM.out; have := blk_lt BL.out; omega); have GM := zK (show w.heap.size ≤ gM by have := EM.out; have := HB.out.size; omega)))
    have HVE := zK (show evalStep l1 ((l0.take i).foldl (evalStep l1) (0 + a0 * 1)) XM = (l0.take i).foldl (evalStep l1) (0 + a0 * 1) + XM.f1 * YV by rw [HYV.out]; exact if_pos HVV.out.2)
    have hlt3 := World.block_lt_of_cell? wr _ hy
    have n3 : ad3.block ≠ gM := by rw [add_block] at hlt3; have := EM.out; omega
    have hyW : ((w6.setCell ⟨gM, 0, none⟩ (.int .i64 XM.f0)).setCell ⟨gM, 1, none⟩ (.int .i64 XM.f1)).cell? (ad3.add XM.f0.toNat) = some (.int .i64 YV) := by
     have hb : (ad3.add XM.f0.toNat).block ≠ gM := by rw [add_block]; exact n3
     have e1 := Below.heap_setCell (w6.setCell ⟨gM, 0, none⟩ (.int .i64 XM.f0)) ⟨gM, 1, none⟩ (.int .i64 XM.f1) (ad3.add XM.f0.toNat).block hb
     have e2 := Below.heap_setCell w6 ⟨gM, 0, none⟩ (.int .i64 XM.f0) (ad3.add XM.f0.toNat).block hb
     have h6 := (HB6.out.cell hlt3).trans hy
     unfold World.cell? at h6 ⊢
     rw [e1, e2]
     exact h6
    have BM6 := blk_put (cs' := #[.int .i64 XM.f0, .int .i64 XM.f1]) (blk_put (cs' := #[.int .i64 XM.f0, .int .i64 0]) BM0.out 0 (.int .i64 XM.f0) rfl) 1 (.int .i64 XM.f1) rfl
    have hM0 := (blk_cell BM6 0).trans rfl
    have hM1 := (blk_cell BM6 1).trans rfl
    have BS6 := zK (blk_far (blk_far (blk_below BS.out HB6.out) (p := ⟨gM, 0, none⟩) NSM.out (.int .i64 XM.f0)) (p := ⟨gM, 1, none⟩) NSM.out (.int .i64 XM.f1))
    have BL6 := zK (blk_far (blk_far (blk_below BL.out HB6.out) (p := ⟨gM, 0, none⟩) NLM.out (.int .i64 XM.f0)) (p := ⟨gM, 1, none⟩) NLM.out (.int .i64 XM.f1))
    have HB6' := zK (yS (yS (below_step HB.out HB6.out) GM.out (j := 0) (v := .int .i64 XM.f0)) GM.out (j := 1) (v := .int .i64 XM.f1))
    clear hlt3 hy n3 BM6 hz0 hz1 fz0 fz1 hm0 hm1
    generalize (w6.setCell ⟨gM, 0, none⟩ (.int .i64 XM.f0)).setCell ⟨gM, 1, none⟩ (.int .i64 XM.f1) = W6 at hyW hM0 hM1 BS6 BL6 HB6' ⊢
    go_region_with (go_at_call 88; refine (exact_Add gS 0 ((l0.take i).foldl (evalStep l1) (0 + a0 * 1)) XM.f1 YV _ 128 (accCells [(l0.take i).foldl (evalStep l1) (0 + a0 * 1)]) (in64_iff RM.out.1).1 (in64_iff RM.out.1).2 (by rw [HYV.out]; exact (in64_iff RM.out.2).1) (by rw [HYV.out]; exact (in64_iff RM.out.2).2) ?rb (accCells_at [(l0.take i).foldl (evalStep l1) (0 + a0 * 1)] 0 (by simp))).mono ?_; (case rb => exact zD BS6.out); rintro e w7 ⟨rfl, hk_, hs_⟩; have BS7 : Aside0 (w7.heap[gS]? = some (.cells (accCells [(l0.take (i + 1)).foldl (evalStep l1) (0 + a0 * 1)]) 128 (0, 0))) := zK (hk_.trans (congrArg (fun z => some (Obj.cells z 128 (0, 0))) ((accCells_put [(l0.take i).foldl (evalStep l1) (0 + a0 * 1)] 0 _ (by simp)).trans (by rw [HE.out, HVE.out]; rfl)))); have BL7 := zK ((hs_.block gL NLS.out).trans (zD BL6.out)); have HB7 := zK (Below.trans (yD HB6'.out) (hs_.below GS.out)))
    all_goals
     go_wp2
     go_roundg gko
     case measure => omega
     case rel =>
      refine ⟨_, (by first | rfl | (simp; done) | (simp [*]; done)), ⟨i + 1, ?_, by have := HGK.out; omega, BS7.out⟩, ⟨BL7.out⟩, ⟨HB7.out⟩⟩
      have := HI.out; have := HXM.out.1; have := HR0.out.2.1; first | omega | (unfold wrap64; omega)
   ·have c3 : decide (XM.f0 < (l1.length : Int)) = false := decide_eq_false hv
    have HVN := zK (show evalStep l1 ((l0.take i).foldl (evalStep l1) (0 + a0 * 1)) XM = (l0.take i).foldl (evalStep l1) (0 + a0 * 1) from if_neg hv)
    clear hm HGM hv
    go_wp2_with (first
     | ((with_reducible refine gate_dst (N := 8) rfl ?_); refine box_event ?hg (N := 8) ?hd (cs := #[.int .i64 0, .int .i64 0]) (t := 68) ?hr ?_; (case hd => rfl); (case hg => rfl); (case hr => first | (go_simp; done) | (go_simp; rfl)); intro gM hg_ w6 hbox_ hb_; have EM := zK hg_; have BM0 := zK hbox_; have HB6 := zK hb_; clear hg_ hbox_ hb_; have hz0 : w6.cell? ⟨gM, 0, none⟩ = some (.int .i64 0) := (blk_cell BM0.out 0).trans rfl; have hz1 : w6.cell? ⟨gM, 1, none⟩ = some (.int .i64 0) := (blk_cell BM0.out 1).trans rfl; have fz0 := blk_frozen BM0.out 0; have fz1 := blk_frozen BM0.out 1; have NSM := zK (show gS ≠ gM by have := EM.out; have := blk_lt BS.out; omega); have NLM := zK (show gL ≠ gM by have := EM.out; have := blk_lt BL.out; omega); have GM := zK (show w.heap.size ≤ gM by have := EM.out; have := HB.out.size; omega)))
    go_roundg gko
    case measure => omega
    case rel =>
     refine ⟨_, (by first | rfl | (simp; done) | (simp [*]; done)), ⟨i + 1, ?_, by have := HGK.out; omega, ?_⟩, ⟨?_⟩, ⟨?_⟩⟩
     ·have := HI.out; have := HXM.out.1; have := HR0.out.2.1; first | omega | (unfold wrap64; omega)
     ·rw [HE.out]
      rw [HVN.out]
      exact blk_far (blk_far (blk_below BS.out HB6.out) (p := ⟨gM, 0, none⟩) NSM.out _) (p := ⟨gM, 1, none⟩) NSM.out _
     ·exact blk_far (blk_far (blk_below BL.out HB6.out) (p := ⟨gM, 0, none⟩) NLM.out _) (p := ⟨gM, 1, none⟩) NLM.out _
     ·exact yS (yS (below_step HB.out HB6.out) GM.out) GM.out
set_option maxHeartbeats 8000000 in
set_option maxRecDepth 100000 in
theorem eval_wrong (k : Nat) (a0 : Int) (A0 : Option Addr) (c0 : Nat) (l0 : List (S68)) (A1 : Option Addr) (c1 : Nat) (l1 : List Int) (w : World) (hr0 : Kd.C k68 w A0 l0.length l0) (hc0 : l0.length ≤ c0)
  (ht : lin_right.f k [⟨a0, l0⟩] = some false) :
  Calls Try.prog 57 #[.agg #[.int .i64 a0, .slice A0 l0.length c0], .slice A1 l1.length c1] w fun e w' => e = .returned (.tuple #[.int .i64 0, .int .i64 1]) ∧ Below w.heap.size w w' := by
 have hu28 := Try.underlying62
 have HR0 := zK hr0
 have HC0 := zK hc0
 have HT := zK ht; clear hr0 hc0 ht
 go_enter Try.func57, Try.ntmps57
 go_wp2_with (first
  | ((with_reducible refine gate_dst (N := 2) rfl ?_); refine box_event ?hg (N := 2) ?hd (cs := #[.int .i64 a0, .slice A0 l0.length c0]) (t := 62) ?hr ?_; (case hd => rfl); (case hg => rfl); (case hr => first | (go_simp; done) | (go_simp; rfl)); intro gL hg_ w1 hbox_ hb_; have EL := zK hg_; have BL0 := zK hbox_; have HB1 := zK hb_; clear hg_ hbox_ hb_; have hl0 : w1.cell? ⟨gL, 0, none⟩ = some (.int .i64 a0) := (blk_cell BL0.out 0).trans rfl; have hl1 : w1.cell? ⟨gL, 1, none⟩ = some (.slice A0 l0.length c0) := (blk_cell BL0.out 1).trans rfl)
  | ((with_reducible refine gate_dst (N := 12) rfl ?_); refine lit_event ?hg (N := 12) ?hd (cs := #[.int .i64 a0, .slice A0 l0.length c0]) (t := 62) (n := 1) ?hr ?_; (case hd => rfl); (case hg => rfl); (case hr => first | (go_simp; done) | (go_simp; rfl)); intro gT hg_ w2 hbox_ hb_; have ET := zK hg_; have BT := zK hbox_; have HB2 := zK hb_; clear hg_ hbox_ hb_)
  | (go_at_call 87; (refine (lin_right.calls k (some ⟨gT, 0, none⟩) 1 [⟨a0, l0⟩] false w2 (C_oneLin BT.out (Kd.C_below (Kd.C_below HR0.out HB1.out) HB2.out) HC0.out) (Nat.le_refl _) HT.out).mono ?_); rintro e w3 ⟨rfl, hb_⟩; have HB3 := zK (below_step (below_step HB1.out HB2.out) hb_); clear hb_))
 go_ret2
 exact ⟨rfl, HB3.out⟩
theorem lin_Eval.calls (k : Nat) (a0_0 : Int) (A0_1 : Option Addr) (c0_1 : Nat) (l0_1 : List (S68)) (A1 : Option Addr) (c1 : Nat) (l1 : List Int) (r1 : Int) (r2 : Int) (w : World) (hr0_1 : Kd.C k68 w A0_1 l0_1.length l0_1) (hc0_1 : l0_1.length ≤ c0_1) (hr1 : Kd.C (Kd.int .i64) w A1 l1.length l1) (hc1 : l1.length ≤ c1) (h : lin_Eval.f k a0_0 l0_1 l1 = some (r1, r2)) :
  Calls Try.prog 57 #[.agg #[.int .i64 a0_0, .slice A0_1 l0_1.length c0_1], .slice A1 l1.length c1] w fun e w' => e = .returned (.tuple #[.int .i64 r1, .int .i64 r2]) ∧ Below w.heap.size w w' := by
 unfold lin_Eval.f at h
 obtain ⟨t, ht, h⟩ := Option.bind_eq_some_iff.1 h
 cases t with
 | true =>
  rw [if_pos rfl] at h
  split at h
  ·rename_i hg
   rw [Bool.and_eq_true] at hg
   exact eval_walk k a0_0 A0_1 c0_1 l0_1 A1 c1 l1 w hr0_1 hc0_1 hr1 ht hg.1 hg.2 r1 r2 (Option.some.inj h)
  ·cases h
 | false =>
  rw [if_neg (by simp)] at h
  simp only [Option.some.injEq, Prod.mk.injEq] at h
  obtain ⟨rfl, rfl⟩ := h
  exact eval_wrong k a0_0 A0_1 c0_1 l0_1 A1 c1 l1 w hr0_1 hc0_1 ht

/-! ### shadow_rest: function 58 -/
def shadow_rest.l0 : Nat → Int → List (S68) → Int → Int → Int → List (S68) → Option (Int × (List (S68)))
 | 0, _, _, _, _, _, _ => none
 | k + 1, x1, x12, x13, x14, x226000, x226001 => if x14 < x13 then (if 0 ≤ x14 then (if x14 < (x12.length : Int) then (if ((rd_T68 x12 x14).f0) = x1 then (shadow_rest.l0 k x1 x12 x13 (wrap64 (x14 + 1)) x226000 x226001) else (if x226001.length < 8796093022208 then (shadow_rest.l0 k x1 x12 x13 (wrap64 (x14 + 1)) x226000 (x226001 ++ [(⟨(rd_T68 x12 x14).f0, (rd_T68 x12 x14).f1⟩ : S68)])) else (none))) else (none)) else (none)) else (some (x226000, x226001))
def shadow_rest.f (k : Nat) (a0_0 : Int) (l0_1 : List (S68)) (a1 : Int) : Option (Int × (List (S68))) := shadow_rest.l0 k a1 l0_1 (l0_1.length : Int) 0 a0_0 ([] : List (S68))
theorem shadow_rest.mono_l : ∀ k, (∀ y0 y1 y2 y3 y4 y5, LeO (shadow_rest.l0 k y0 y1 y2 y3 y4 y5) (shadow_rest.l0 (k + 1) y0 y1 y2 y3 y4 y5))
 | 0 => fun _ _ _ _ _ _ r h => by simp [shadow_rest.l0] at h
 | k + 1 => by
  have ih0 := shadow_rest.mono_l k
  ·intro y0 y1 y2 y3 y4 y5
   unfold shadow_rest.l0
   repeat' first
   | (with_reducible exact ih0 _ _ _ _ _ _)
   | (with_reducible exact LeO.refl _)
   | (with_reducible exact LeO.none _)
   | (with_reducible refine LeO.ite ?_ ?_)
   | (with_reducible refine LeO.bind ?_ (fun _ => ?_))
   | exact ih0 _ _ _ _ _ _
   | exact LeO.none _
   | refine LeO.ite ?_ ?_
   | refine LeO.bind ?_ (fun _ => ?_)
theorem shadow_rest.mono : ∀ a0 a1 a2 k, LeO (shadow_rest.f k a0 a1 a2) (shadow_rest.f (k + 1) a0 a1 a2) := by
 intro a0 a1 a2 k
 have ih0 := shadow_rest.mono_l k
 unfold shadow_rest.f
 repeat' first
   | (with_reducible exact ih0 _ _ _ _ _ _)
   | (with_reducible exact LeO.refl _)
   | (with_reducible exact LeO.none _)
   | (with_reducible refine LeO.ite ?_ ?_)
   | (with_reducible refine LeO.bind ?_ (fun _ => ?_))
   | exact ih0 _ _ _ _ _ _
   | exact LeO.none _
   | refine LeO.ite ?_ ?_
   | refine LeO.bind ?_ (fun _ => ?_)
set_option maxHeartbeats 8000000 in
set_option maxRecDepth 100000 in
theorem shadow_rest.calls (k : Nat) (a0_0 : Int) (A0_1 : Option Addr) (c0_1 : Nat) (l0_1 : List (S68)) (a1 : Int) (r1 : Int) (r2 : List (S68)) (w : World) (hr0_1 : Kd.C k68 w A0_1 l0_1.length l0_1) (hc0_1 : l0_1.length ≤ c0_1) (h : shadow_rest.f k a0_0 l0_1 a1 = some (r1, r2)) :
  Calls Try.prog 58 #[.agg #[.int .i64 a0_0, .slice A0_1 l0_1.length c0_1], .int .i64 a1] w fun e w' => ∃ v1_ : Value, e = .returned (.agg #[.int .i64 r1, v1_]) ∧ Kd.R k68 68 w' w.heap.size (fun _ => True) v1_ r2 ∧ Below w.heap.size w w' := by
 have hu62 := Try.underlying62
 have hu68 := Try.underlying68
 have HR0_1 := zK hr0_1
 have HC0_1 := zK hc0_1; clear hr0_1 hc0_1
 have HB := zK (Below.refl w.heap.size w)
 have H : (shadow_rest.l0 k a1 l0_1 (l0_1.length : Int) 0 a0_0 ([] : List (S68))) = some (r1, r2) := h
 clear h
 have H' := zK H; clear H
 go_enter Try.func58, Try.ntmps58
 go_wp2_with (first | ((with_reducible refine gate_dst (N := 2) rfl ?_); refine box_event ?hg (N := 2) ?hd (cs := #[.int .i64 a0_0, .slice A0_1 l0_1.length c0_1]) (t := 62) ?hr ?_; (case hd => rfl); (case hg => rfl); (case hr => first | (go_simp; done) | (go_simp; rfl)); intro gb223 hg w3 hbox hb; have BK223 := zK (hbox); have GW223 := zK ((by rw [hg]; exact (below_size (zo HB)) : w.heap.size ≤ gb223)); have GE223 := zK ((by rw [hg]; exact (below_size (zo HB)) : w.heap.size ≤ gb223)); replace HB := zK (below_step (zo HB) hb); clear hb hbox hg) | ((with_reducible refine gate_dst (N := 4) rfl ?_); refine box_event ?hg (N := 4) ?hd (cs := #[.int .i64 0, .slice none 0 0]) (t := 62) ?hr ?_; (case hd => rfl); (case hg => rfl); (case hr => first | (go_simp; done) | (go_simp; rfl)); intro gb224 hg w4 hbox hb; have BK224 := zK (hbox); have GW224 := zK ((by rw [hg]; exact (below_size (zo HB)) : w.heap.size ≤ gb224)); have GE224 := zK ((by rw [hg]; exact (below_size (zo HB)) : w.heap.size ≤ gb224)); replace HB := zK (below_step (zo HB) hb); have NB223_224 := zK ((by rw [hg]; exact Nat.ne_of_lt (blk_lt (g := gb223) (o := .cells #[.int .i64 a0_0, .slice A0_1 l0_1.length c0_1] 62 (0, 0)) (zb BK223)) : gb223 ≠ gb224)); have NB224_223 := zK ((by rw [hg]; exact Nat.ne_of_gt (blk_lt (g := gb223) (o := .cells #[.int .i64 a0_0, .slice A0_1 l0_1.length c0_1] 62 (0, 0)) (zb BK223)) : gb224 ≠ gb223)); replace BK223 := zK (blk_below (g := gb223) (o := .cells #[.int .i64 a0_0, .slice A0_1 l0_1.length c0_1] 62 (0, 0)) (zb BK223) hb); clear hb hbox hg; have hnb5 := NB223_224.out; have hnc5 := NB224_223.out; have hcz6_0 : w4.cell? ⟨gb223, 0, none⟩ = some (.int .i64 a0_0) := (blk_cell BK223.out 0).trans rfl; have hcz6_1 : w4.cell? ⟨gb223, 1, none⟩ = some (.slice A0_1 l0_1.length c0_1) := (blk_cell BK223.out 1).trans rfl; have hfz6_0 := blk_frozen BK223.out 0; have hfz6_1 := blk_frozen BK223.out 1) | ((with_reducible refine gate_dst (N := 5) rfl ?_); refine box_event ?hg (N := 5) ?hd (cs := #[.int .i64 0, .slice none 0 0]) (t := 62) ?hr ?_; (case hd => rfl); (case hg => rfl); (case hr => first | (go_simp; done) | (go_simp; rfl)); intro gb225 hg w7 hbox hb; have BK225 := zK (hbox); have GW225 := zK ((by rw [hg]; exact (below_size (zo HB)) : w.heap.size ≤ gb225)); have GE225 := zK ((by rw [hg]; exact (below_size (zo HB)) : w.heap.size ≤ gb225)); replace HB := zK (below_step (zo HB) hb); have NB223_225 := zK ((by rw [hg]; exact Nat.ne_of_lt (blk_lt (g := gb223) (o := .cells #[.int .i64 a0_0, .slice A0_1 l0_1.length c0_1] 62 (0, 0)) (zb BK223)) : gb223 ≠ gb225)); have NB225_223 := zK ((by rw [hg]; exact Nat.ne_of_gt (blk_lt (g := gb223) (o := .cells #[.int .i64 a0_0, .slice A0_1 l0_1.length c0_1] 62 (0, 0)) (zb BK223)) : gb225 ≠ gb223)); replace BK223 := zK (blk_below (g := gb223) (o := .cells #[.int .i64 a0_0, .slice A0_1 l0_1.length c0_1] 62 (0, 0)) (zb BK223) hb); have NB224_225 := zK ((by rw [hg]; exact Nat.ne_of_lt (blk_lt (g := gb224) (o := .cells #[.int .i64 0, .slice none 0 0] 62 (0, 0)) (zb BK224)) : gb224 ≠ gb225)); have NB225_224 := zK ((by rw [hg]; exact Nat.ne_of_gt (blk_lt (g := gb224) (o := .cells #[.int .i64 0, .slice none 0 0] 62 (0, 0)) (zb BK224)) : gb225 ≠ gb224)); replace BK224 := zK (blk_below (g := gb224) (o := .cells #[.int .i64 0, .slice none 0 0] 62 (0, 0)) (zb BK224) hb); clear hb hbox hg; have hnb8 := NB225_223.out; have hnc8 := NB223_225.out; have hnb9 := NB225_224.out; have hnc9 := NB224_225.out; have hcz10_0 : w7.cell? ⟨gb225, 0, none⟩ = some (.int .i64 0) := (blk_cell BK225.out 0).trans rfl; have hcz10_1 : w7.cell? ⟨gb225, 1, none⟩ = some (.slice none 0 0) := (blk_cell BK225.out 1).trans rfl; have hfz10_0 := blk_frozen BK225.out 0; have hfz10_1 := blk_frozen BK225.out 1; have hcz11_0 : w7.cell? ⟨gb223, 0, none⟩ = some (.int .i64 a0_0) := (blk_cell BK223.out 0).trans rfl; have hcz11_1 : w7.cell? ⟨gb223, 1, none⟩ = some (.slice A0_1 l0_1.length c0_1) := (blk_cell BK223.out 1).trans rfl; have hfz11_0 := blk_frozen BK223.out 0; have hfz11_1 := blk_frozen BK223.out 1))
 go_loopg [14] k (fun kq v14 w' => ∃ (x14_1 : Int) (x226001_1 : List (S68)) (u226001 : Value), v14 = .int .i64 x14_1 ∧ Aside0 (shadow_rest.l0 kq a1 l0_1 (l0_1.length : Int) x14_1 a0_0 x226001_1 = some (r1, r2)) ∧ Aside0 (kq ≤ k) ∧ Aside0 (Kd.R k68 68 w' w.heap.size (fun _ => True) u226001 x226001_1) ∧ Aside0 (w'.heap[gb223]? = some (.cells #[.int .i64 a0_0, (.slice A0_1 l0_1.length c0_1)] 62 (0, 0))) ∧ Aside0 (w'.heap[gb224]? = some (.cells #[.int .i64 0, (.slice none 0 0)] 62 (0, 0))) ∧ Aside0 (w'.heap[gb225]? = some (.cells #[.int .i64 a0_0, u226001] 62 (0, 0))) ∧ Aside0 (Below w.heap.size w w'))
 case atStart => exact ⟨(0), (([] : List (S68))), (.slice none 0 0), (by first | rfl | (simp; done) | (simp [*]; done)), H', ⟨Nat.le_refl _⟩, ⟨by first | exact Kd.R_nil _ _ _ _ _ | exact Kd.N_nil _ _ _ _ _ | exact Kd.V_nil _ _ _ _ _ | exact Kd.Q_nil _ _ _ _ _ | exact Kd.S_nil _ _ _ _ _⟩, ⟨zb BK223⟩, ⟨zb BK224⟩, ⟨by refine zM ?_; refine blk_put (cs := #[.int .i64 a0_0, .slice none 0 0]) ?_ 1 _ rfl; refine zM ?_; refine blk_put (cs := #[.int .i64 0, .slice none 0 0]) ?_ 0 _ rfl; refine zM ?_; exact BK225.out⟩, ⟨zo HB⟩⟩
 case round =>
  clear H'; try clear p2; try clear c5; try clear c8
  try clear c9; try clear hcz10_0; try clear hcz10_1; try clear hcz11_0
  try clear hcz11_1; try clear hcz6_0; try clear hcz6_1; try clear hfz10_0
  try clear hfz10_1; try clear hfz11_0; try clear hfz11_1; try clear hfz6_0
  try clear hfz6_1
  obtain ⟨x14_1, x226001_1, u226001, rfl, HA, HK1, HO_226001, BK223, BK224, BK225, HB⟩ := hrel
  cases gk with
  | zero => exact absurd HA.out (by simp [shadow_rest.l0])
  | succ k1 =>
   have H := HA.out; clear HA
   simp only [shadow_rest.l0] at H
   by_cases c12 : x14_1 < (l0_1.length : Int)
   ·rw [if_pos c12] at H
    have c12b0 : decide (x14_1 < (l0_1.length : Int)) = true := decide_eq_true c12
    clear c12
    by_cases c13 : 0 ≤ x14_1
    ·rw [if_pos c13] at H
     have c13b0 : decide (0 ≤ x14_1) = true := decide_eq_true c13; clear c13
     by_cases c14 : x14_1 < (l0_1.length : Int)
     ·rw [if_pos c14] at H
      have c14b0 : decide (x14_1 < (l0_1.length : Int)) = true := decide_eq_true c14
      clear c14
      by_cases c15 : ((rd_T68 l0_1 x14_1).f0) = a1
      ·rw [if_pos c15] at H
       have c15b0 : (((rd_T68 l0_1 x14_1).f0) == a1) = true := beq_iff_eq.mpr c15
       have c15b1 : (((rd_T68 l0_1 x14_1).f0) != a1) = false := bne_eq_false_iff_eq.mpr c15
       clear c15
       have H' := zK H; clear H
       have p226 : 0 ≤ (x14_1 : Int) := of_decide_eq_true (by first | (with_reducible assumption) | assumption)
       have q226 : x14_1 < (l0_1.length : Int) := of_decide_eq_true (by first | (with_reducible assumption) | assumption)
       obtain ⟨ad226, e226, hx226_0, hx226_1⟩ := at_T68 HR0_1.out x14_1 p226 q226
       cases e226
       replace hx226_0 := (HB.out.cell (World.block_lt_of_cell? w _ hx226_0)).trans hx226_0
       replace hx226_1 := (HB.out.cell (World.block_lt_of_cell? w _ hx226_1)).trans hx226_1
       replace p226 := eq_true p226
       replace q226 := eq_true q226
       go_wp2_with (first | ((with_reducible refine gate_dst (N := 7) rfl ?_); refine box_event ?hg (N := 7) ?hd (cs := #[.int .i64 0, .int .i64 0]) (t := 68) ?hr ?_; (case hd => rfl); (case hg => rfl); (case hr => first | (go_simp; done) | (go_simp; rfl)); intro gb227 hg w16 hbox hb; replace HO_226001 := zK (Kd.R_below (Kd.R_elderB (zr HO_226001) gb227 (Nat.le_of_eq hg.symm)) hb); have BK227 := zK (hbox); have GW227 := zK ((by rw [hg]; exact (below_size (zo HB)) : w.heap.size ≤ gb227)); have GE227 := zK ((by rw [hg]; exact (below_size (zo HB)) : w.heap.size ≤ gb227)); replace HB := zK (below_step (zo HB) hb); have NB223_227 := zK ((by rw [hg]; exact Nat.ne_of_lt (blk_lt (g := gb223) (o := .cells #[.int .i64 a0_0, .slice (some ad226) l0_1.length c0_1] 62 (0, 0)) (zb BK223)) : gb223 ≠ gb227)); have NB227_223 := zK ((by rw [hg]; exact Nat.ne_of_gt (blk_lt (g := gb223) (o := .cells #[.int .i64 a0_0, .slice (some ad226) l0_1.length c0_1] 62 (0, 0)) (zb BK223)) : gb227 ≠ gb223)); replace BK223 := zK (blk_below (g := gb223) (o := .cells #[.int .i64 a0_0, .slice (some ad226) l0_1.length c0_1] 62 (0, 0)) (zb BK223) hb); have NB224_227 := zK ((by rw [hg]; exact Nat.ne_of_lt (blk_lt (g := gb224) (o := .cells #[.int .i64 0, .slice none 0 0] 62 (0, 0)) (zb BK224)) : gb224 ≠ gb227)); have NB227_224 := zK ((by rw [hg]; exact Nat.ne_of_gt (blk_lt (g := gb224) (o := .cells #[.int .i64 0, .slice none 0 0] 62 (0, 0)) (zb BK224)) : gb227 ≠ gb224)); replace BK224 := zK (blk_below (g := gb224) (o := .cells #[.int .i64 0, .slice none 0 0] 62 (0, 0)) (zb BK224) hb); have NB225_227 := zK ((by rw [hg]; exact Nat.ne_of_lt (blk_lt (g := gb225) (o := .cells #[.int .i64 a0_0, u226001] 62 (0, 0)) (zb BK225)) : gb225 ≠ gb227)); have NB227_225 := zK ((by rw [hg]; exact Nat.ne_of_gt (blk_lt (g := gb225) (o := .cells #[.int .i64 a0_0, u226001] 62 (0, 0)) (zb BK225)) : gb227 ≠ gb225)); replace BK225 := zK (blk_below (g := gb225) (o := .cells #[.int .i64 a0_0, u226001] 62 (0, 0)) (zb BK225) hb); clear hb hbox hg; have hnb17 := NB227_223.out; have hnc17 := NB223_227.out; have hnb18 := NB227_224.out; have hnc18 := NB224_227.out; have hnb19 := NB227_225.out; have hnc19 := NB225_227.out; have hcz20_0 : w16.cell? ⟨gb227, 0, none⟩ = some (.int .i64 0) := (blk_cell BK227.out 0).trans rfl; have hcz20_1 : w16.cell? ⟨gb227, 1, none⟩ = some (.int .i64 0) := (blk_cell BK227.out 1).trans rfl; have hfz20_0 := blk_frozen BK227.out 0; have hfz20_1 := blk_frozen BK227.out 1))
       go_roundg k1
       case measure => have := HK1.out; omega
       case rel => exact ⟨(wrap64 (x14_1 + 1)), (x226001_1), (u226001), (by first | rfl | (simp; done) | (simp [*]; done)), H', ⟨by have := HK1.out; omega⟩, ⟨by (with_reducible repeat (first | apply Kd.R_alloc | apply Kd.R_drewN | apply Kd.R_drew)); exact Kd.R_mono (Kd.R_far (p := ⟨gb227, 1, none⟩) (Kd.R_far (p := ⟨gb227, 0, none⟩) (Kd.R_mono HO_226001.out (fun k_ hk => (⟨hk, hk.2⟩ : _ ∧ k_ ≠ gb227))) (fun _ hk => hk.2) (.int .i64 ((rd_T68 l0_1 x14_1).f0))) (fun _ hk => hk.2) (.int .i64 ((rd_T68 l0_1 x14_1).f1))) (fun _ hk => trivial)⟩, ⟨zb BK223⟩, ⟨zb BK224⟩, ⟨zb BK225⟩, ⟨zo HB⟩⟩
      ·rw [if_neg c15] at H
       have c15b0 : (((rd_T68 l0_1 x14_1).f0) == a1) = false := beq_eq_false_iff_ne.mpr c15
       have c15b1 : (((rd_T68 l0_1 x14_1).f0) != a1) = true := bne_iff_ne.mpr c15
       by_cases c21 : x226001_1.length < 8796093022208
       ·rw [if_pos c21] at H
        have LMc21 := zK c21; clear c21
        obtain ⟨y228, hy228⟩ : ∃ y_ : List (S68), y_ = (x226001_1 ++ [(⟨(rd_T68 l0_1 x14_1).f0, (rd_T68 l0_1 x14_1).f1⟩ : S68)]) := ⟨_, rfl⟩
        replace H : (shadow_rest.l0 k1 a1 l0_1 (l0_1.length : Int) (wrap64 (x14_1 + 1)) a0_0 y228) = some (r1, r2) := by first | (rw [hy228]; with_reducible exact H) | (have H2_ := (Option.bind_some _ _).symm.trans H; rw [hy228]; with_reducible exact H2_) | (have H2_ := (Option.bind_some _ _).symm.trans H; with_reducible exact H2_) | with_reducible exact H | (rw [hy228]; exact H) | exact H
        have Ny228 := zK hy228; clear hy228
        have H' := zK H; clear H
        have p226 : 0 ≤ (x14_1 : Int) := of_decide_eq_true (by first | (with_reducible assumption) | assumption)
        have q226 : x14_1 < (l0_1.length : Int) := of_decide_eq_true (by first | (with_reducible assumption) | assumption)
        obtain ⟨ad226, e226, hx226_0, hx226_1⟩ := at_T68 HR0_1.out x14_1 p226 q226
        cases e226
        replace hx226_0 := (HB.out.cell (World.block_lt_of_cell? w _ hx226_0)).trans hx226_0
        replace hx226_1 := (HB.out.cell (World.block_lt_of_cell? w _ hx226_1)).trans hx226_1
        replace p226 := eq_true p226
        replace q226 := eq_true q226
        go_wp2_with (first | ((with_reducible refine gate_dst (N := 7) rfl ?_); refine box_event ?hg (N := 7) ?hd (cs := #[.int .i64 0, .int .i64 0]) (t := 68) ?hr ?_; (case hd => rfl); (case hg => rfl); (case hr => first | (go_simp; done) | (go_simp; rfl)); intro gb227 hg w22 hbox hb; replace HO_226001 := zK (Kd.R_below (Kd.R_elderB (zr HO_226001) gb227 (Nat.le_of_eq hg.symm)) hb); have BK227 := zK (hbox); have GW227 := zK ((by rw [hg]; exact (below_size (zo HB)) : w.heap.size ≤ gb227)); have GE227 := zK ((by rw [hg]; exact (below_size (zo HB)) : w.heap.size ≤ gb227)); replace HB := zK (below_step (zo HB) hb); have NB223_227 := zK ((by rw [hg]; exact Nat.ne_of_lt (blk_lt (g := gb223) (o := .cells #[.int .i64 a0_0, .slice (some ad226) l0_1.length c0_1] 62 (0, 0)) (zb BK223)) : gb223 ≠ gb227)); have NB227_223 := zK ((by rw [hg]; exact Nat.ne_of_gt (blk_lt (g := gb223) (o := .cells #[.int .i64 a0_0, .slice (some ad226) l0_1.length c0_1] 62 (0, 0)) (zb BK223)) : gb227 ≠ gb223)); replace BK223 := zK (blk_below (g := gb223) (o := .cells #[.int .i64 a0_0, .slice (some ad226) l0_1.length c0_1] 62 (0, 0)) (zb BK223) hb); have NB224_227 := zK ((by rw [hg]; exact Nat.ne_of_lt (blk_lt (g := gb224) (o := .cells #[.int .i64 0, .slice none 0 0] 62 (0, 0)) (zb BK224)) : gb224 ≠ gb227)); have NB227_224 := zK ((by rw [hg]; exact Nat.ne_of_gt (blk_lt (g := gb224) (o := .cells #[.int .i64 0, .slice none 0 0] 62 (0, 0)) (zb BK224)) : gb227 ≠ gb224)); replace BK224 := zK (blk_below (g := gb224) (o := .cells #[.int .i64 0, .slice none 0 0] 62 (0, 0)) (zb BK224) hb); have NB225_227 := zK ((by rw [hg]; exact Nat.ne_of_lt (blk_lt (g := gb225) (o := .cells #[.int .i64 a0_0, u226001] 62 (0, 0)) (zb BK225)) : gb225 ≠ gb227)); have NB227_225 := zK ((by rw [hg]; exact Nat.ne_of_gt (blk_lt (g := gb225) (o := .cells #[.int .i64 a0_0, u226001] 62 (0, 0)) (zb BK225)) : gb227 ≠ gb225)); replace BK225 := zK (blk_below (g := gb225) (o := .cells #[.int .i64 a0_0, u226001] 62 (0, 0)) (zb BK225) hb); clear hb hbox hg; have hnb23 := NB227_223.out; have hnc23 := NB223_227.out; have hnb24 := NB227_224.out; have hnc24 := NB224_227.out; have hnb25 := NB227_225.out; have hnc25 := NB225_227.out; have hcz26_0 : w22.cell? ⟨gb227, 0, none⟩ = some (.int .i64 0) := (blk_cell BK227.out 0).trans rfl; have hcz26_1 : w22.cell? ⟨gb227, 1, none⟩ = some (.int .i64 0) := (blk_cell BK227.out 1).trans rfl; have hfz26_0 := blk_frozen BK227.out 0; have hfz26_1 := blk_frozen BK227.out 1; have hnb27 := NB225_223.out; have hnc27 := NB223_225.out; have hnb28 := NB225_224.out; have hnc28 := NB224_225.out; have hcz29_0 : w22.cell? ⟨gb225, 0, none⟩ = some (.int .i64 a0_0) := (blk_cell BK225.out 0).trans rfl; have hcz29_1 : w22.cell? ⟨gb225, 1, none⟩ = some (u226001) := (blk_cell BK225.out 1).trans rfl; have hfz29_0 := blk_frozen BK225.out 0; have hfz29_1 := blk_frozen BK225.out 1) | ((with_reducible refine gate_builtin (b := .append) (xs := #[.tmp 23, .tmp 25]) rfl ?_); at_builtin; refine Kd.R_append k68 (w0 := w) w.heap.size rfl (.tmp 23) (.tmp 25) 60 68 (.agg #[(.int .i64 0), (.int .i64 0)]) 16 rfl Try.underlying60 info68 rfl (by decide) (by omega) u226001 x226001_1 (⟨(rd_T68 l0_1 x14_1).f0, (rd_T68 l0_1 x14_1).f1⟩ : S68) [.int .i64 ((rd_T68 l0_1 x14_1).f0), .int .i64 ((rd_T68 l0_1 x14_1).f1)] (fun k_ => k_ ≠ gb227) (fun _ => False) rfl (by first | (go_simp; done) | (go_simp; rfl)) ?aP (fun _ hk => hk.elim) ?aF ?aO ?aB ?aS ?aL ?_; (case aP => exact k68_mkM _ _ _ (⟨(rd_T68 l0_1 x14_1).f0, (rd_T68 l0_1 x14_1).f1⟩ : S68)); (case aB => exact (zo HB)); (case aF => exact (fun k_ hk => Kd.freshB (g := gb227) (o := .cells #[.int .i64 ((rd_T68 l0_1 x14_1).f0), .int .i64 ((rd_T68 l0_1 x14_1).f1)] 68 (0, 0)) (by refine zM ?_; refine blk_put (cs := #[.int .i64 ((rd_T68 l0_1 x14_1).f0), .int .i64 0]) ?_ 1 _ rfl; refine zM ?_; refine blk_put (cs := #[.int .i64 0, .int .i64 0]) ?_ 0 _ rfl; refine zM ?_; exact BK227.out) k_ hk)); (case aO => exact (by (with_reducible repeat (first | apply Kd.R_alloc | apply Kd.R_drewN | apply Kd.R_drew)); exact Kd.R_mono (Kd.R_far (p := ⟨gb227, 1, none⟩) (Kd.R_far (p := ⟨gb227, 0, none⟩) (Kd.R_mono HO_226001.out (fun k_ hk => (⟨hk, hk.2⟩ : _ ∧ k_ ≠ gb227))) (fun _ hk => hk.2) (.int .i64 ((rd_T68 l0_1 x14_1).f0))) (fun _ hk => hk.2) (.int .i64 ((rd_T68 l0_1 x14_1).f1))) (fun _ hk => hk.1.2))); (case aS => exact (below_size (zo HB))); (case aL => have := LMc21.out; omega); intro v229 w30 ho hb hg hat; rw [← Ny228.out] at ho; replace BK223 := zK (blk_grown (g := gb223) (o := .cells #[.int .i64 a0_0, .slice (some ad226) l0_1.length c0_1] 62 (0, 0)) (zb BK223) hg (Kd.R_ne HO_226001.out BK223.out (by decide))); replace BK224 := zK (blk_grown (g := gb224) (o := .cells #[.int .i64 0, .slice none 0 0] 62 (0, 0)) (zb BK224) hg (Kd.R_ne HO_226001.out BK224.out (by decide))); replace BK225 := zK (blk_grown (g := gb225) (o := .cells #[.int .i64 a0_0, u226001] 62 (0, 0)) (zb BK225) hg (Kd.R_ne HO_226001.out BK225.out (by decide))); replace BK227 := zK (blk_grown (g := gb227) (o := .cells #[.int .i64 ((rd_T68 l0_1 x14_1).f0), .int .i64 ((rd_T68 l0_1 x14_1).f1)] 68 (0, 0)) (by refine zM ?_; refine blk_put (cs := #[.int .i64 ((rd_T68 l0_1 x14_1).f0), .int .i64 0]) ?_ 1 _ rfl; refine zM ?_; refine blk_put (cs := #[.int .i64 0, .int .i64 0]) ?_ 0 _ rfl; refine zM ?_; exact BK227.out) hg (Kd.R_away HO_226001.out (fun _ hk => hk.2))); replace HB := zK (hb); have HO230 := zK (ho); clear HO_226001 ho hb hg hat; obtain ⟨Ao31, co31, eo31⟩ := Kd.R_slice HO230.out; subst eo31; have hcz32_0 : w30.cell? ⟨gb225, 0, none⟩ = some (.int .i64 a0_0) := (blk_cell BK225.out 0).trans rfl; have hcz32_1 : w30.cell? ⟨gb225, 1, none⟩ = some (u226001) := (blk_cell BK225.out 1).trans rfl; have hfz32_0 := blk_frozen BK225.out 0; have hfz32_1 := blk_frozen BK225.out 1))
        go_roundg k1
        case measure => have := HK1.out; omega
        case rel => exact ⟨(wrap64 (x14_1 + 1)), (y228), (.slice Ao31 y228.length co31), (by first | rfl | (simp; done) | (simp [*]; done)), H', ⟨by have := HK1.out; omega⟩, ⟨by (with_reducible repeat (first | apply Kd.R_alloc | apply Kd.R_drewN | apply Kd.R_drew)); exact Kd.R_mono (Kd.R_far (p := ⟨gb225, 1, none⟩) (Kd.R_types HO230.out BK225.out (by decide)) (fun _ hk => hk.2) (.slice Ao31 y228.length co31)) (fun _ hk => trivial)⟩, ⟨zb BK223⟩, ⟨zb BK224⟩, ⟨by refine zM ?_; refine blk_put (cs := #[.int .i64 a0_0, u226001]) ?_ 1 _ rfl; refine zM ?_; exact BK225.out⟩, ⟨zo HB⟩⟩
       ·rw [if_neg c21] at H
        exact absurd H (by simp)
     ·rw [if_neg c14] at H
      exact absurd H (by simp)
    ·rw [if_neg c13] at H
     exact absurd H (by simp)
   ·rw [if_neg c12] at H
    have c12b0 : decide (x14_1 < (l0_1.length : Int)) = false := decide_eq_false c12
    clear c12
    simp only [Option.some.injEq, Prod.mk.injEq] at H
    obtain ⟨rfl, rfl⟩ := H
    have hnb33 := NB225_223.out
    have hnc33 := NB223_225.out
    have hnb34 := NB225_224.out
    have hnc34 := NB224_225.out
    have hcz35_0 : wr.cell? ⟨gb225, 0, none⟩ = some (.int .i64 a0_0) := (blk_cell BK225.out 0).trans rfl
    have hcz35_1 : wr.cell? ⟨gb225, 1, none⟩ = some (u226001) := (blk_cell BK225.out 1).trans rfl
    have hfz35_0 := blk_frozen BK225.out 0
    have hfz35_1 := blk_frozen BK225.out 1
    have hnb36 := NB224_223.out
    have hnc36 := NB223_224.out
    have hcz37_0 : wr.cell? ⟨gb224, 0, none⟩ = some (.int .i64 0) := (blk_cell BK224.out 0).trans rfl
    have hcz37_1 : wr.cell? ⟨gb224, 1, none⟩ = some (.slice none 0 0) := (blk_cell BK224.out 1).trans rfl
    have hfz37_0 := blk_frozen BK224.out 0
    have hfz37_1 := blk_frozen BK224.out 1
    obtain ⟨Ao38, co38, eo38⟩ := Kd.R_slice HO_226001.out
    subst eo38
    go_wp2
    refine bodyPost_ret (results_cell_row rfl _ _ gb224 62 #[.int .i64 a0_0, .slice Ao38 x226001_1.length co38] (0, 0) _ rfl (by refine zM ?_; refine blk_put (cs := #[.int .i64 a0_0, .slice none 0 0]) ?_ 1 _ rfl; refine zM ?_; refine blk_put (cs := #[.int .i64 0, .slice none 0 0]) ?_ 0 _ rfl; refine zM ?_; exact BK224.out) Try.underlying62 rfl (by kernel_rfl)) rfl ?_
    exact ⟨_, by first | rfl | (simp [errW_none, errW_some] <;> rfl) | (simp [*, errW_none, errW_some] <;> rfl), by (with_reducible repeat (first | apply Kd.R_alloc | apply Kd.R_drewN | apply Kd.R_drew)); exact Kd.R_mono (Kd.R_far (p := ⟨gb224, 1, none⟩) (Kd.R_far (p := ⟨gb224, 0, none⟩) (Kd.R_types HO_226001.out BK224.out (by decide)) (fun _ hk => hk.2) (.int .i64 a0_0)) (fun _ hk => hk.2) (.slice Ao38 x226001_1.length co38)) (fun _ hk => trivial), zo HB⟩

/-! ### num_over: function 90 -/
def num_over.f (a0 : Int) (a1 : Int) : Option (Bool) := if a1 = 0 then (some true) else (if a0 = (-9223372036854775808) then (some (a1 == (-1))) else (some false))
set_option maxHeartbeats 8000000 in
set_option maxRecDepth 100000 in
theorem num_over.calls (a0 : Int) (a1 : Int) (r : Bool) (w : World) (h : num_over.f a0 a1 = some r) :
  Calls Try.prog 90 #[.int .i64 a0, .int .i64 a1] w fun e w' => e = .returned (.bool r) ∧ Drawn0 w w' := by
 have H : (if a1 = 0 then (some true) else (if a0 = (-9223372036854775808) then (some (a1 == (-1))) else (some false))) = some r := h
 clear h
 by_cases c3 : a1 = 0
 ·rw [if_pos c3] at H
  have c3b0 : (a1 == 0) = true := beq_iff_eq.mpr c3
  have c3b1 : (a1 != 0) = false := bne_eq_false_iff_eq.mpr c3; clear c3
  obtain rfl := Option.some.inj H
  go_enter Try.func90, Try.ntmps90
  go_wp2
  go_ret
  exact ⟨by first | rfl | (simp; done) | (simp [*]; done), by repeat (first | exact Drawn0.refl _ | apply Drawn0.step)⟩
 ·rw [if_neg c3] at H
  have c3b0 : (a1 == 0) = false := beq_eq_false_iff_ne.mpr c3
  have c3b1 : (a1 != 0) = true := bne_iff_ne.mpr c3
  by_cases c4 : a0 = (-9223372036854775808)
  ·rw [if_pos c4] at H
   have c4b0 : (a0 == (-9223372036854775808)) = true := beq_iff_eq.mpr c4
   have c4b1 : (a0 != (-9223372036854775808)) = false := bne_eq_false_iff_eq.mpr c4
   clear c4
   obtain rfl := Option.some.inj H
   go_enter Try.func90, Try.ntmps90
   go_wp2
   go_ret
   exact ⟨by first | rfl | (simp; done) | (simp [*]; done), by repeat (first | exact Drawn0.refl _ | apply Drawn0.step)⟩
  ·rw [if_neg c4] at H
   have c4b0 : (a0 == (-9223372036854775808)) = false := beq_eq_false_iff_ne.mpr c4
   have c4b1 : (a0 != (-9223372036854775808)) = true := bne_iff_ne.mpr c4
   obtain rfl := Option.some.inj H
   go_enter Try.func90, Try.ntmps90
   go_wp2
   go_ret
   exact ⟨by first | rfl | (simp; done) | (simp [*]; done), by repeat (first | exact Drawn0.refl _ | apply Drawn0.step)⟩

/-! ### num_Ceil: function 60 -/
def num_Ceil.f (a0 : Int) (a1 : Int) : Option (Int × Bool) := (num_over.f a0 a1).bind fun t231 => (if t231 = true then (some (0, false)) else (if a1 = 0 then (none) else (if (Int.tmod a0 a1) = 0 then (some (wrap64 (Int.tdiv a0 a1), true)) else (if ((decide (a0 < 0)) == (decide (a1 < 0))) = true then (some (wrap64 ((wrap64 (Int.tdiv a0 a1)) + 1), true)) else (some (wrap64 (Int.tdiv a0 a1), true))))))
set_option maxHeartbeats 8000000 in
set_option maxRecDepth 100000 in
theorem num_Ceil.calls (a0 : Int) (a1 : Int) (r1 : Int) (r2 : Bool) (w : World) (h : num_Ceil.f a0 a1 = some (r1, r2)) :
  Calls Try.prog 60 #[.int .i64 a0, .int .i64 a1] w fun e w' => e = .returned (.tuple #[.int .i64 r1, .bool r2]) ∧ Drawn0 w w' := by
 have H : ((num_over.f a0 a1).bind fun t231 => (if t231 = true then (some (0, false)) else (if a1 = 0 then (none) else (if (Int.tmod a0 a1) = 0 then (some (wrap64 (Int.tdiv a0 a1), true)) else (if ((decide (a0 < 0)) == (decide (a1 < 0))) = true then (some (wrap64 ((wrap64 (Int.tdiv a0 a1)) + 1), true)) else (some (wrap64 (Int.tdiv a0 a1), true))))))) = some (r1, r2) := h
 clear h; replace H := Option.bind_eq_some_iff.mp H
 obtain ⟨t231, A30, H⟩ := H
 replace H : (if t231 = true then (some (0, false)) else (if a1 = 0 then (none) else (if (Int.tmod a0 a1) = 0 then (some (wrap64 (Int.tdiv a0 a1), true)) else (if ((decide (a0 < 0)) == (decide (a1 < 0))) = true then (some (wrap64 ((wrap64 (Int.tdiv a0 a1)) + 1), true)) else (some (wrap64 (Int.tdiv a0 a1), true)))))) = some (r1, r2) := H
 have A3 := zK A30; clear A30
 by_cases c4 : t231 = true
 ·subst c4
  have H1 : (some (0, false)) = some (r1, r2) := by rw [if_pos rfl] at H; exact H
  clear H; have H := H1; clear H1
  simp only [Option.some.injEq, Prod.mk.injEq] at H
  obtain ⟨rfl, rfl⟩ := H
  go_enter Try.func60, Try.ntmps60
  go_wp2_with (first | ((with_reducible refine zC (f := 90) rfl ?_); refine goesL_ (some 9) rfl rfl Try.func90 (by kernel_rfl) rfl #[.int .i64 a0, .int .i64 a1] rfl (by (try simp only [List.map_toArray, List.map_cons, List.map_nil]); first | done | rfl | (simp only [List.length_drop, List.length_take]; rfl)) ?_; (with_reducible refine (num_over.calls a0 a1 true _ A3.out).mono ?_); rintro e w' ⟨rfl, ⟨nd, rfl⟩⟩; refine ⟨_, rfl, ?_⟩))
  go_ret2
  exact ⟨by first | rfl | (simp; done) | (simp [*]; done), by repeat (first | exact Drawn0.refl _ | apply Drawn0.step)⟩
 ·replace c4 := Bool.eq_false_iff.mpr c4
  subst c4
  have H1 : (if a1 = 0 then (none) else (if (Int.tmod a0 a1) = 0 then (some (wrap64 (Int.tdiv a0 a1), true)) else (if ((decide (a0 < 0)) == (decide (a1 < 0))) = true then (some (wrap64 ((wrap64 (Int.tdiv a0 a1)) + 1), true)) else (some (wrap64 (Int.tdiv a0 a1), true))))) = some (r1, r2) := by rw [if_neg (show ¬ (false = true) by decide)] at H; exact H
  clear H; have H := H1; clear H1
  by_cases c5 : a1 = 0
  ·rw [if_pos c5] at H
   exact absurd H (by simp)
  ·rw [if_neg c5] at H
   have c5b0 : (a1 == 0) = false := beq_eq_false_iff_ne.mpr c5
   have c5b1 : (a1 != 0) = true := bne_iff_ne.mpr c5
   by_cases c6 : (Int.tmod a0 a1) = 0
   ·rw [if_pos c6] at H
    have c6b0 : ((Int.tmod a0 a1) == 0) = true := beq_iff_eq.mpr c6
    have c6b1 : ((Int.tmod a0 a1) != 0) = false := bne_eq_false_iff_eq.mpr c6
    clear c6
    simp only [Option.some.injEq, Prod.mk.injEq] at H
    obtain ⟨rfl, rfl⟩ := H
    go_enter Try.func60, Try.ntmps60
    go_wp2_with (first | ((with_reducible refine zC (f := 90) rfl ?_); refine goesL_ (some 9) rfl rfl Try.func90 (by kernel_rfl) rfl #[.int .i64 a0, .int .i64 a1] rfl (by (try simp only [List.map_toArray, List.map_cons, List.map_nil]); first | done | rfl | (simp only [List.length_drop, List.length_take]; rfl)) ?_; (with_reducible refine (num_over.calls a0 a1 false _ A3.out).mono ?_); rintro e w' ⟨rfl, ⟨nd, rfl⟩⟩; refine ⟨_, rfl, ?_⟩))
    go_ret2
    exact ⟨by first | rfl | (simp; done) | (simp [*]; done), by repeat (first | exact Drawn0.refl _ | apply Drawn0.step)⟩
   ·rw [if_neg c6] at H
    have c6b0 : ((Int.tmod a0 a1) == 0) = false := beq_eq_false_iff_ne.mpr c6
    have c6b1 : ((Int.tmod a0 a1) != 0) = true := bne_iff_ne.mpr c6
    by_cases c7 : ((decide (a0 < 0)) == (decide (a1 < 0))) = true
    ·rw [if_pos c7] at H
     have c7b0 : ((decide (a0 < 0)) == (decide (a1 < 0))) = true := c7
     (try (have c7b1 : decide ((decide (a0 < 0)) = (decide (a1 < 0))) = true := by simpa using c7))
     (try (have c7b2 : ((decide (a0 < 0)) == (decide (a1 < 0))) = true := by simpa using c7))
     clear c7
     simp only [Option.some.injEq, Prod.mk.injEq] at H
     obtain ⟨rfl, rfl⟩ := H
     go_enter Try.func60, Try.ntmps60
     go_wp2_with (first | ((with_reducible refine zC (f := 90) rfl ?_); refine goesL_ (some 9) rfl rfl Try.func90 (by kernel_rfl) rfl #[.int .i64 a0, .int .i64 a1] rfl (by (try simp only [List.map_toArray, List.map_cons, List.map_nil]); first | done | rfl | (simp only [List.length_drop, List.length_take]; rfl)) ?_; (with_reducible refine (num_over.calls a0 a1 false _ A3.out).mono ?_); rintro e w' ⟨rfl, ⟨nd, rfl⟩⟩; refine ⟨_, rfl, ?_⟩))
     go_ret2
     exact ⟨by first | rfl | (simp; done) | (simp [*]; done), by repeat (first | exact Drawn0.refl _ | apply Drawn0.step)⟩
    ·rw [if_neg c7] at H
     have c7b0 : ((decide (a0 < 0)) == (decide (a1 < 0))) = false := by simpa using c7
     (try (have c7b1 : decide ((decide (a0 < 0)) = (decide (a1 < 0))) = false := by simpa using c7))
     (try (have c7b2 : ((decide (a0 < 0)) == (decide (a1 < 0))) = false := by simpa using c7))
     (try (have c7b3 : ¬ ((decide (a0 < 0)) = (decide (a1 < 0))) := by simpa using c7))
     clear c7
     simp only [Option.some.injEq, Prod.mk.injEq] at H
     obtain ⟨rfl, rfl⟩ := H
     go_enter Try.func60, Try.ntmps60
     go_wp2_with (first | ((with_reducible refine zC (f := 90) rfl ?_); refine goesL_ (some 9) rfl rfl Try.func90 (by kernel_rfl) rfl #[.int .i64 a0, .int .i64 a1] rfl (by (try simp only [List.map_toArray, List.map_cons, List.map_nil]); first | done | rfl | (simp only [List.length_drop, List.length_take]; rfl)) ?_; (with_reducible refine (num_over.calls a0 a1 false _ A3.out).mono ?_); rintro e w' ⟨rfl, ⟨nd, rfl⟩⟩; refine ⟨_, rfl, ?_⟩))
     go_ret2
     exact ⟨by first | rfl | (simp; done) | (simp [*]; done), by repeat (first | exact Drawn0.refl _ | apply Drawn0.step)⟩

/-! ### num_told: function 110 -/
def num_told.f (a0 : Int) (a1 : Bool) : Option (Int × Bool) := if a1 = true then (some (a0, true)) else (some (0, false))
set_option maxHeartbeats 8000000 in
set_option maxRecDepth 100000 in
theorem num_told.calls (a0 : Int) (a1 : Bool) (r1 : Int) (r2 : Bool) (w : World) (h : num_told.f a0 a1 = some (r1, r2)) :
  Calls Try.prog 110 #[.int .i64 a0, .bool a1] w fun e w' => e = .returned (.tuple #[.int .i64 r1, .bool r2]) ∧ Drawn0 w w' := by
 have H : (if a1 = true then (some (a0, true)) else (some (0, false))) = some (r1, r2) := h
 clear h
 by_cases c3 : a1 = true
 ·subst c3
  have H1 : (some (a0, true)) = some (r1, r2) := by rw [if_pos rfl] at H; exact H
  clear H; have H := H1; clear H1
  simp only [Option.some.injEq, Prod.mk.injEq] at H
  obtain ⟨rfl, rfl⟩ := H
  go_enter Try.func110, Try.ntmps110
  go_wp2
  go_ret2
  exact ⟨by first | rfl | (simp; done) | (simp [*]; done), by repeat (first | exact Drawn0.refl _ | apply Drawn0.step)⟩
 ·replace c3 := Bool.eq_false_iff.mpr c3
  subst c3
  have H1 : (some (0, false)) = some (r1, r2) := by rw [if_neg (show ¬ (false = true) by decide)] at H; exact H
  clear H; have H := H1; clear H1
  simp only [Option.some.injEq, Prod.mk.injEq] at H
  obtain ⟨rfl, rfl⟩ := H
  go_enter Try.func110, Try.ntmps110
  go_wp2
  go_ret2
  exact ⟨by first | rfl | (simp; done) | (simp [*]; done), by repeat (first | exact Drawn0.refl _ | apply Drawn0.step)⟩

/-! ### num_Sub: function 91 -/
def num_Sub.f (a0 : Int) (a1 : Int) : Option (Int × Bool) := (num_told.f (wrap64 (a0 - a1)) ((decide ((wrap64 (a0 - a1)) < a0)) == (decide (a1 > 0)))).bind fun bt232 => (some (bt232.1, bt232.2))
set_option maxHeartbeats 8000000 in
set_option maxRecDepth 100000 in
theorem num_Sub.calls (a0 : Int) (a1 : Int) (r1 : Int) (r2 : Bool) (w : World) (h : num_Sub.f a0 a1 = some (r1, r2)) :
  Calls Try.prog 91 #[.int .i64 a0, .int .i64 a1] w fun e w' => e = .returned (.tuple #[.int .i64 r1, .bool r2]) ∧ Drawn0 w w' := by
 have H : ((num_told.f (wrap64 (a0 - a1)) ((decide ((wrap64 (a0 - a1)) < a0)) == (decide (a1 > 0)))).bind fun bt232 => (some (bt232.1, bt232.2))) = some (r1, r2) := h
 clear h; replace H := Option.bind_eq_some_iff.mp H
 obtain ⟨⟨t232, t233⟩, A30, H⟩ := H
 replace H : (some (t232, t233)) = some (r1, r2) := H
 have A3 := zK A30; clear A30
 simp only [Option.some.injEq, Prod.mk.injEq] at H
 obtain ⟨rfl, rfl⟩ := H
 go_enter Try.func91, Try.ntmps91
 go_wp2_with (first | ((with_reducible refine zC (f := 110) rfl ?_); refine goesL_ (some 17) rfl rfl Try.func110 (by kernel_rfl) rfl #[.int .i64 (wrap64 (a0 - a1)), .bool ((decide ((wrap64 (a0 - a1)) < a0)) == (decide (a1 > 0)))] rfl (by (try simp only [List.map_toArray, List.map_cons, List.map_nil]); first | done | rfl | (simp only [List.length_drop, List.length_take]; rfl)) ?_; (with_reducible refine (num_told.calls (wrap64 (a0 - a1)) ((decide ((wrap64 (a0 - a1)) < a0)) == (decide (a1 > 0))) t232 t233 _ A3.out).mono ?_); rintro e w' ⟨rfl, ⟨nd, rfl⟩⟩; refine ⟨_, rfl, ?_⟩))
 go_ret2
 exact ⟨by first | rfl | (simp; done) | (simp [*]; done), by repeat (first | exact Drawn0.refl _ | apply Drawn0.step)⟩

/-! ### num_Neg: function 61 -/
def num_Neg.f (a0 : Int) : Option (Int × Bool) := (num_Sub.f 0 a0).bind fun bt234 => (some (bt234.1, bt234.2))
set_option maxHeartbeats 8000000 in
set_option maxRecDepth 100000 in
theorem num_Neg.calls (a0 : Int) (r1 : Int) (r2 : Bool) (w : World) (h : num_Neg.f a0 = some (r1, r2)) :
  Calls Try.prog 61 #[.int .i64 a0] w fun e w' => e = .returned (.tuple #[.int .i64 r1, .bool r2]) ∧ Drawn0 w w' := by
 have H : ((num_Sub.f 0 a0).bind fun bt234 => (some (bt234.1, bt234.2))) = some (r1, r2) := h
 clear h; replace H := Option.bind_eq_some_iff.mp H
 obtain ⟨⟨t234, t235⟩, A20, H⟩ := H
 replace H : (some (t234, t235)) = some (r1, r2) := H
 have A2 := zK A20; clear A20
 simp only [Option.some.injEq, Prod.mk.injEq] at H
 obtain ⟨rfl, rfl⟩ := H
 go_enter Try.func61, Try.ntmps61
 go_wp2_with (first | ((with_reducible refine zC (f := 91) rfl ?_); refine goesL_ (some 5) rfl rfl Try.func91 (by kernel_rfl) rfl #[.int .i64 0, .int .i64 a0] rfl (by (try simp only [List.map_toArray, List.map_cons, List.map_nil]); first | done | rfl | (simp only [List.length_drop, List.length_take]; rfl)) ?_; (with_reducible refine (num_Sub.calls 0 a0 t234 t235 _ A2.out).mono ?_); rintro e w' ⟨rfl, ⟨nd, rfl⟩⟩; refine ⟨_, rfl, ?_⟩))
 go_ret2
 exact ⟨by first | rfl | (simp; done) | (simp [*]; done), by repeat (first | exact Drawn0.refl _ | apply Drawn0.step)⟩

/-! ### shadow_least: function 59 -/
def shadow_least.f (a0 : Int) (a1 : Int) : Option (Int) := (num_Neg.f a1).bind fun bt236 => (if bt236.2 = true then ((num_Ceil.f a0 bt236.1).bind fun bt238 => (some bt238.1)) else (if a0 > 0 then (some 1) else (if a0 = a1 then (some (-1)) else (some 0))))
set_option maxHeartbeats 8000000 in
set_option maxRecDepth 100000 in
theorem shadow_least.calls (a0 : Int) (a1 : Int) (r : Int) (w : World) (h : shadow_least.f a0 a1 = some r) :
  Calls Try.prog 59 #[.int .i64 a0, .int .i64 a1] w fun e w' => e = .returned (.int .i64 r) ∧ Drawn0 w w' := by
 have H : ((num_Neg.f a1).bind fun bt236 => (if bt236.2 = true then ((num_Ceil.f a0 bt236.1).bind fun bt238 => (some bt238.1)) else (if a0 > 0 then (some 1) else (if a0 = a1 then (some (-1)) else (some 0))))) = some r := h
 clear h; replace H := Option.bind_eq_some_iff.mp H
 obtain ⟨⟨t236, t237⟩, A30, H⟩ := H
 replace H : (if t237 = true then ((num_Ceil.f a0 t236).bind fun bt238 => (some bt238.1)) else (if a0 > 0 then (some 1) else (if a0 = a1 then (some (-1)) else (some 0)))) = some r := H
 have A3 := zK A30; clear A30
 by_cases c4 : t237 = true
 ·subst c4
  have H1 : ((num_Ceil.f a0 t236).bind fun bt238 => (some bt238.1)) = some r := by rw [if_pos rfl] at H; exact H
  clear H; have H := H1
  clear H1; replace H := Option.bind_eq_some_iff.mp H
  obtain ⟨⟨t238, t239⟩, A50, H⟩ := H; replace H : (some t238) = some r := H
  have A5 := zK A50; clear A50
  obtain rfl := Option.some.inj H
  go_enter Try.func59, Try.ntmps59
  go_wp2_with (first | ((with_reducible refine zC (f := 61) rfl ?_); refine goesL_ (some 11) rfl rfl Try.func61 (by kernel_rfl) rfl #[.int .i64 a1] rfl (by (try simp only [List.map_toArray, List.map_cons, List.map_nil]); first | done | rfl | (simp only [List.length_drop, List.length_take]; rfl)) ?_; (with_reducible refine (num_Neg.calls a1 t236 true _ A3.out).mono ?_); rintro e w' ⟨rfl, ⟨nd, rfl⟩⟩; refine ⟨_, rfl, ?_⟩) | ((with_reducible refine zC (f := 60) rfl ?_); refine goesL_ (some 18) rfl rfl Try.func60 (by kernel_rfl) rfl #[.int .i64 a0, .int .i64 t236] rfl (by (try simp only [List.map_toArray, List.map_cons, List.map_nil]); first | done | rfl | (simp only [List.length_drop, List.length_take]; rfl)) ?_; (with_reducible refine (num_Ceil.calls a0 t236 t238 t239 _ A5.out).mono ?_); rintro e w' ⟨rfl, ⟨nd, rfl⟩⟩; refine ⟨_, rfl, ?_⟩))
  go_ret
  exact ⟨by first | rfl | (simp; done) | (simp [*]; done), by repeat (first | exact Drawn0.refl _ | apply Drawn0.step)⟩
 ·replace c4 := Bool.eq_false_iff.mpr c4
  subst c4
  have H1 : (if a0 > 0 then (some 1) else (if a0 = a1 then (some (-1)) else (some 0))) = some r := by rw [if_neg (show ¬ (false = true) by decide)] at H; exact H
  clear H; have H := H1; clear H1
  by_cases c6 : a0 > 0
  ·rw [if_pos c6] at H
   have c6b0 : decide (0 < a0) = true := decide_eq_true c6; clear c6
   obtain rfl := Option.some.inj H
   go_enter Try.func59, Try.ntmps59
   go_wp2_with (first | ((with_reducible refine zC (f := 61) rfl ?_); refine goesL_ (some 11) rfl rfl Try.func61 (by kernel_rfl) rfl #[.int .i64 a1] rfl (by (try simp only [List.map_toArray, List.map_cons, List.map_nil]); first | done | rfl | (simp only [List.length_drop, List.length_take]; rfl)) ?_; (with_reducible refine (num_Neg.calls a1 t236 false _ A3.out).mono ?_); rintro e w' ⟨rfl, ⟨nd, rfl⟩⟩; refine ⟨_, rfl, ?_⟩))
   go_ret
   exact ⟨by first | rfl | (simp; done) | (simp [*]; done), by repeat (first | exact Drawn0.refl _ | apply Drawn0.step)⟩
  ·rw [if_neg c6] at H
   have c6b0 : decide (0 < a0) = false := decide_eq_false c6; clear c6
   by_cases c7 : a0 = a1
   ·rw [if_pos c7] at H
    have c7b0 : (a0 == a1) = true := beq_iff_eq.mpr c7
    have c7b1 : (a0 != a1) = false := bne_eq_false_iff_eq.mpr c7; clear c7
    obtain rfl := Option.some.inj H
    go_enter Try.func59, Try.ntmps59
    go_wp2_with (first | ((with_reducible refine zC (f := 61) rfl ?_); refine goesL_ (some 11) rfl rfl Try.func61 (by kernel_rfl) rfl #[.int .i64 a1] rfl (by (try simp only [List.map_toArray, List.map_cons, List.map_nil]); first | done | rfl | (simp only [List.length_drop, List.length_take]; rfl)) ?_; (with_reducible refine (num_Neg.calls a1 t236 false _ A3.out).mono ?_); rintro e w' ⟨rfl, ⟨nd, rfl⟩⟩; refine ⟨_, rfl, ?_⟩))
    go_ret
    exact ⟨by first | rfl | (simp; done) | (simp [*]; done), by repeat (first | exact Drawn0.refl _ | apply Drawn0.step)⟩
   ·rw [if_neg c7] at H
    have c7b0 : (a0 == a1) = false := beq_eq_false_iff_ne.mpr c7
    have c7b1 : (a0 != a1) = true := bne_iff_ne.mpr c7
    obtain rfl := Option.some.inj H
    go_enter Try.func59, Try.ntmps59
    go_wp2_with (first | ((with_reducible refine zC (f := 61) rfl ?_); refine goesL_ (some 11) rfl rfl Try.func61 (by kernel_rfl) rfl #[.int .i64 a1] rfl (by (try simp only [List.map_toArray, List.map_cons, List.map_nil]); first | done | rfl | (simp only [List.length_drop, List.length_take]; rfl)) ?_; (with_reducible refine (num_Neg.calls a1 t236 false _ A3.out).mono ?_); rintro e w' ⟨rfl, ⟨nd, rfl⟩⟩; refine ⟨_, rfl, ?_⟩))
    go_ret
    exact ⟨by first | rfl | (simp; done) | (simp [*]; done), by repeat (first | exact Drawn0.refl _ | apply Drawn0.step)⟩

end Go.Proofs.Ytkfbfgkdabljiaa.PShadowDark
