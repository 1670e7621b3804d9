/- What the call of each function that the law reaches comes to: it answers as the plain function of the same name does, wherever that one answers; and the law itself out of its plain form. Written by a program of this session (an extended copy of the printer); no condition but what stands in each theorem. -/
import Derived.Test.YtkfbfgkdabljiaaPBoxWithinx0
import Derived.Test.YtkfbfgkdabljiaaPBoxWithinx1
import Derived.Test.YtkfbfgkdabljiaaPBoxWithinx2
namespace Go.Proofs.Ytkfbfgkdabljiaa.PBoxWithin
open Go.RowKit Go.Proofs.YtkfbfgkdabljiaaW.PrintWords Go.Proofs.YtkfbfgkdabljiaaW.PrintLast Go.Proofs.YtkfbfgkdabljiaaW.PrintMore
open Go.Proofs.YtkfbfgkdabljiaaW.PrintWords renaming blk_drewN → zN, blk_drew → zD, blk_alloc → zA, below_alloc → yA, pw_below_drewN → yN, below_drew1 → yD, below_set → yS, gate_callee → zC
open Go.Proofs.YtkfbfgkdabljiaaW.PrintWords.Kd renaming C_alloc → cA, C_drewN → cN, C_drew → cD
open Go.Proofs.YtkfbfgkdabljiaaW.PrintWords.Aside0 renaming mk → zK
attribute [local go_sem] max2_int min2_int max_two min_two max_three min_three max_four min_four   -- for this text's walks alone
set_option linter.unusedVariables false
set_option linter.unusedSimpArgs false

/-! ### lin_Eval: function 57, by hand -/
theorem lit_event {P : Program} {ops : Array Oper} {Q : Exit → Act → World → Prop} {rest : List Oper} {o : Oper} {a : Act} {W : World} (hgd : o.guard = none) {N : Tmp} (_hd : o.dst = some N) {cs : Array Value} {t : TypeId} {n : Nat}
  (hrun : (execOp a.eval o).run P W = .ok (.value (.slice (some ⟨W.heap.size, 0, none⟩) n n)) (W.alloc (.cells cs t (0, 0))))
  (h : ∀ g, g = W.heap.size → ∀ w1, w1.heap[g]? = some (.cells cs t (0, 0)) → Below W.heap.size W w1 → wpList P ops Q rest (a.put o.dst (.slice (some ⟨g, 0, none⟩) n n)) w1) : wpList P ops Q (o :: rest) a W :=
 Kd.event_run hgd hrun (h _ rfl _ (blk_new W _) (yA (Below.refl _ _) _))
theorem C_oneLin {w : World} {g : Nat} {K : Int} {L : List S68} {A : Option Addr} {c : Nat} (hb : w.heap[g]? = some (.cells #[.int .i64 K, .slice A L.length c] 62 (0, 0))) (hL : Kd.C k68 w A L.length L) (hc : L.length ≤ c) : Kd.C k62 w (some ⟨g, 0, none⟩) 1 [⟨K, L⟩] := by
 refine ⟨rfl, by decide, fun _ => ⟨⟨g, 0, none⟩, rfl, fun j p hj => ?_⟩⟩
 cases j with
 | succ j => simp at hj
 | zero =>
  simp at hj
  subst hj
  refine ⟨[.int .i64 K, .slice A L.length c], rfl, k62_mk w ⟨K, L⟩ hc hL, fun i u hu => ?_⟩
  have := blk_cell hb i
  have e_ : (⟨g, 0, none⟩ : Addr).add (0 * k62.sz + i) = ⟨g, i, none⟩ := by cases i <;> simp [Addr.add]
  rw [e_, this]
  simpa using hu
/-- What a form comes to by numbers; a variable without a number is 0. -/
def evalStep (x : List Int) (s : Int) (m : S68) : Int := if m.f0 < (x.length : Int) then s + m.f1 * rd x m.f0 else s
def evalSum (K : Int) (L : List S68) (x : List Int) : Int := L.foldl (evalStep x) (0 + K * 1)
def evalOk (x : List Int) (m : S68) : Bool := decide (0 ≤ m.f0) && (decide ((x.length : Int) ≤ m.f0) || (in64 m.f1 && in64 (rd x m.f0)))
def lin_Eval.f (k : Nat) (a0_0 : Int) (l0_1 : List S68) (l1 : List Int) : Option (Int × Int) :=
 (lin_right.f k [⟨a0_0, l0_1⟩]).bind fun t => if t = true then (if (in64 a0_0 && l0_1.all (evalOk l1)) = true then some (if (fit192 (evalSum a0_0 l0_1 l1)).2 = true then ((fit192 (evalSum a0_0 l0_1 l1)).1, 0) else (0, 5)) else none) else some (0, 1)
theorem lin_Eval.mono : ∀ a0 a1 a2 k, LeO (lin_Eval.f k a0 a1 a2) (lin_Eval.f (k + 1) a0 a1 a2) := by
 intro a0 a1 a2 k
 unfold lin_Eval.f
 exact LeO.bind (lin_right.mono _ _) (fun _ => LeO.refl _)
set_option maxHeartbeats 8000000 in
set_option maxRecDepth 100000 in
theorem eval_walk (k : Nat) (a0 : Int) (A0 : Option Addr) (c0 : Nat) (l0 : List (S68)) (A1 : Option Addr) (c1 : Nat) (l1 : List Int) (w : World) (hr0 : Kd.C k68 w A0 l0.length l0) (hc0 : l0.length ≤ c0) (hr1 : Kd.C (Kd.int .i64) w A1 l1.length l1)
  (ht : lin_right.f k [⟨a0, l0⟩] = some true) (hga : in64 a0 = true) (hgl : l0.all (evalOk l1) = true) (r1 r2 : Int) (hr : (if (fit192 (evalSum a0 l0 l1)).2 = true then ((fit192 (evalSum a0 l0 l1)).1, (0 : Int)) else (0, 5)) = (r1, r2)) :
  Calls Try.prog 57 #[.agg #[.int .i64 a0, .slice A0 l0.length c0], .slice A1 l1.length c1] w fun e w' => e = .returned (.tuple #[.int .i64 r1, .int .i64 r2]) ∧ Below w.heap.size w w' := by
 have hu28 := Try.underlying62
 have hu47 := Try.underlying68
 have HR0 := zK hr0
 have HC0 := zK hc0
 have HR1 := zK hr1
 have HT := zK ht
 have HGA := zK hga
 have HGL := zK hgl
 obtain ⟨N0, hN0⟩ : ∃ N0, N0 = (fit192 (evalSum a0 l0 l1)).1 := ⟨_, rfl⟩
 obtain ⟨D0, hD0⟩ : ∃ D0, D0 = (fit192 (evalSum a0 l0 l1)).2 := ⟨_, rfl⟩
 rw [← hN0, ← hD0] at hr
 have HR := zK hr
 have HN0 := zK hN0
 have HD0 := zK hD0; clear hr0 hc0 hr1 ht hga hgl hr hN0 hD0
 go_enter Try.func57, Try.ntmps57
 go_wp2_with (first
  | ((with_reducible refine gate_dst (N := 2) rfl ?_); refine box_event ?hg (N := 2) ?hd (cs := #[.int .i64 a0, .slice A0 l0.length c0]) (t := 62) ?hr ?_; (case hd => rfl); (case hg => rfl); (case hr => first | (go_simp; done) | (go_simp; rfl)); intro gL hg_ w1 hbox_ hb_; have EL := zK hg_; have BL0 := zK hbox_; have HB1 := zK hb_; clear hg_ hbox_ hb_; have hl0 : w1.cell? ⟨gL, 0, none⟩ = some (.int .i64 a0) := (blk_cell BL0.out 0).trans rfl; have hl1 : w1.cell? ⟨gL, 1, none⟩ = some (.slice A0 l0.length c0) := (blk_cell BL0.out 1).trans rfl)
  | ((with_reducible refine gate_dst (N := 12) rfl ?_); refine lit_event ?hg (N := 12) ?hd (cs := #[.int .i64 a0, .slice A0 l0.length c0]) (t := 62) (n := 1) ?hr ?_; (case hd => rfl); (case hg => rfl); (case hr => first | (go_simp; done) | (go_simp; rfl)); intro gT hg_ w2 hbox_ hb_; have ET := zK hg_; have BT := zK hbox_; have HB2 := zK hb_; clear hg_ hbox_ hb_)
  | (go_at_call 87; (refine (lin_right.calls k (some ⟨gT, 0, none⟩) 1 [⟨a0, l0⟩] true w2 (C_oneLin BT.out (Kd.C_below (Kd.C_below HR0.out HB1.out) HB2.out) HC0.out) (Nat.le_refl _) HT.out).mono ?_); rintro e w3 ⟨rfl, hb_⟩; have HB3 := zK (below_step (below_step HB1.out HB2.out) hb_); have BL := zK (blk_below (blk_below BL0.out HB2.out) hb_); have GL := zK (Nat.le_of_eq EL.out.symm); clear hb_ HB1 HB2 BT ET EL BL0 hl0 hl1)
  | ((with_reducible refine gate_dst (N := 6) rfl ?_); refine box_event ?hg (N := 6) ?hd (cs := accCells [0]) (t := 128) ?hr ?_; (case hd => rfl); (case hg => rfl); (case hr => first | (go_simp; done) | (go_simp; rfl)); intro gS hg_ w4 hbox_ hb_; have ES := zK hg_; have BS0 := zK hbox_; have HB4 := zK hb_; clear hg_ hbox_ hb_; have hl0 : w4.cell? ⟨gL, 0, none⟩ = some (.int .i64 a0) := (blk_cell (blk_below BL.out HB4.out) 0).trans rfl)
  | (go_at_call 88; refine (exact_Add gS 0 0 a0 1 _ 128 (accCells [0]) (in64_iff HGA.out).1 (in64_iff HGA.out).2 (by decide) (by decide) BS0.out (accCells_at [0] 0 (by simp))).mono ?_; rintro e w5 ⟨rfl, hk_, hs_⟩; have BS5 : Aside0 (w5.heap[gS]? = some (.cells (accCells [0 + a0 * 1]) 128 (0, 0))) := zK (hk_.trans (congrArg (fun z => some (Obj.cells z 128 (0, 0))) ((accCells_put [0] 0 (0 + a0 * 1) (by simp)).trans rfl))); have NLS := zK (show gL ≠ gS by have := ES.out; have := blk_lt BL.out; omega); have GS := zK (show w.heap.size ≤ gS by have := ES.out; have := HB3.out.size; omega); have BL5 := zK ((hs_.block gL NLS.out).trans (blk_below BL.out HB4.out)); have HB5 := zK (Below.trans (below_step HB3.out HB4.out) (hs_.below GS.out)); clear hk_ hs_ BS0 HB4 HB3 BL ES; have hl0 : w5.cell? ⟨gL, 0, none⟩ = some (.int .i64 a0) := (blk_cell BL5.out 0).trans rfl; have hl1 : w5.cell? ⟨gL, 1, none⟩ = some (.slice A0 l0.length c0) := (blk_cell BL5.out 1).trans rfl))
 go_loopg [21] l0.length (fun gk v21 w' => ∃ (x : Int), v21 = .int .i64 x ∧ Aside0 (∃ i : Nat, x = i ∧ i + gk = l0.length ∧ w'.heap[gS]? = some (.cells (accCells [(l0.take i).foldl (evalStep l1) (0 + a0 * 1)]) 128 (0, 0))) ∧ Aside0 (w'.heap[gL]? = some (.cells #[.int .i64 a0, .slice A0 l0.length c0] 62 (0, 0))) ∧ Aside0 (Below w.heap.size w w'))
 case atStart => exact ⟨0, rfl, ⟨0, rfl, by omega, BS5.out⟩, ⟨BL5.out⟩, ⟨HB5.out⟩⟩
 case round =>
  clear BS5 BL5 HB5 hl0 hl1
  obtain ⟨x, rfl, HX, BL, HB⟩ := hrel
  obtain ⟨i, hxi, hgk, bs⟩ := HX.out; clear HX
  have BS := zK bs; clear bs
  have HI := zK hxi
  have HGK := zK hgk; clear hxi hgk
  cases gk with
  | zero =>
   have c1 : decide (x < (l0.length : Int)) = false := decide_eq_false (by have := HI.out; have := HGK.out; omega)
   have hti : l0.take i = l0 := List.take_of_length_le (by have := HGK.out; omega)
   have CF := zK (show ∀ m, Calls Try.prog 89 #[.pointer (some ⟨gS, 0, none⟩)] (wr.drewN m) fun e W' => e = .returned (.tuple #[.int .i64 N0, .bool D0]) ∧ Drawn0 (wr.drewN m) W' by
    intro m
    rw [HN0.out, HD0.out]
    have h_ := BS.out
    rw [hti] at h_
    exact exact_Fits gS 0 (evalSum a0 l0 l1) (wr.drewN m) 128 (accCells [evalSum a0 l0 l1]) h_ (accCells_at [evalSum a0 l0 l1] 0 (by simp)))
   clear hti
   have HRR := HR.out
   cases D0 with
   | true =>
    rw [if_pos rfl] at HRR
    simp only [Prod.mk.injEq] at HRR
    obtain ⟨e1, e2⟩ := HRR
    have E1 := zK e1
    have E2 := zK e2; clear e1 e2
    go_wp2_with (first | (go_at_call 89; refine (CF.out 0).mono ?_; rintro e w' ⟨rfl, ⟨nd, rfl⟩⟩))
    go_ret2
    exact ⟨by rw [← E1.out, ← E2.out]; rfl, yN HB.out _⟩
   | false =>
    rw [if_neg (by simp)] at HRR
    simp only [Prod.mk.injEq] at HRR
    obtain ⟨e1, e2⟩ := HRR
    have E1 := zK e1
    have E2 := zK e2; clear e1 e2
    go_wp2_with (first | (go_at_call 89; refine (CF.out 0).mono ?_; rintro e w' ⟨rfl, ⟨nd, rfl⟩⟩))
    go_ret2
    exact ⟨by rw [← E1.out, ← E2.out]; rfl, yN HB.out _⟩
  | succ gko =>
   have p2 : 0 ≤ x := by have := HI.out; omega
   have q2 : x < (l0.length : Int) := by have := HI.out; have := HGK.out; omega
   obtain ⟨XM, hXM⟩ : ∃ XM, XM = rd_T68 l0 x := ⟨_, rfl⟩
   have HXM := zK (show i < l0.length ∧ ∀ h : i < l0.length, XM = l0[i] by
    have := HI.out; have := HGK.out
    refine ⟨by omega, fun h => ?_⟩
    rw [hXM, HI.out]; simp [rd_T68, h])
   have HGM := zK (show evalOk l1 XM = true by rw [HXM.out.2 HXM.out.1]; exact List.all_eq_true.1 HGL.out _ (List.getElem_mem _))
   obtain ⟨ad2, e2, hm0, hm1⟩ := at_T68 HR0.out x p2 q2
   rw [← hXM] at hm0 hm1; clear hXM
   cases e2
   replace hm0 := (HB.out.cell (World.block_lt_of_cell? w _ hm0)).trans hm0
   replace hm1 := (HB.out.cell (World.block_lt_of_cell? w _ hm1)).trans hm1
   have c2 : decide (x < (l0.length : Int)) = true := decide_eq_true q2
   replace p2 := eq_true p2
   replace q2 := eq_true q2
   have hm := HGM.out
   unfold evalOk at hm
   rw [Bool.and_eq_true, Bool.or_eq_true, Bool.and_eq_true] at hm
   have v0 : 0 ≤ XM.f0 := of_decide_eq_true hm.1
   have HE := zK (show (l0.take (i + 1)).foldl (evalStep l1) (0 + a0 * 1) = evalStep l1 ((l0.take i).foldl (evalStep l1) (0 + a0 * 1)) XM by
    have e_ := HXM.out.2 HXM.out.1
    rw [List.take_succ_eq_append_getElem HXM.out.1, List.foldl_append, ← e_]; rfl)
   by_cases hv : XM.f0 < (l1.length : Int)
   ·have hm2 : in64 XM.f1 = true ∧ in64 (rd l1 XM.f0) = true := by
     rcases hm.2 with h | h
     ·have := of_decide_eq_true h; omega
     ·exact h
    have RM := zK hm2; clear hm hm2 HGM
    have HVV := zK (And.intro v0 hv)
    obtain ⟨YV, hYV⟩ : ∃ YV, YV = rd l1 XM.f0 := ⟨_, rfl⟩
    obtain ⟨ad3, e3, hy⟩ : ∃ ad, A1 = some ad ∧ w.cell? (ad.add XM.f0.toNat) = some (.int .i64 YV) := by
     obtain ⟨ad, c, e, hs, hk, hcell⟩ := Kd.C_get HR1.out 0 XM.f0 v0 hv
     refine ⟨ad, e, ?_⟩
     have hk' : c = [Value.int .i64 (l1.getD XM.f0.toNat 0)] := hk
     have := hcell 0 (.int .i64 (l1.getD XM.f0.toNat 0)) (by rw [hk']; rfl)
     have e2 : XM.f0.toNat * (Kd.int .i64).sz + 0 = XM.f0.toNat := Nat.mul_one _
     rw [e2] at this
     rw [hYV]
     exact this
    cases e3
    replace hy := (HB.out.cell (World.block_lt_of_cell? w _ hy)).trans hy
    have HYV := zK hYV; clear hYV
    have c3 : decide (XM.f0 < (l1.length : Int)) = true := decide_eq_true hv
    have hvv := eq_true hv
    have hv0 := eq_true v0
    go_wp2_with (first
     | ((with_reducible refine gate_dst (N := 8) rfl ?_); refine box_event ?hg (N := 8) ?hd (cs := #[.int .i64 0, .int .i64 0]) (t := 68) ?hr ?_; (case hd => rfl); (case hg => rfl); (case hr => first | (go_simp; done) | (go_simp; rfl)); intro gM hg_ w6 hbox_ hb_; have EM := zK hg_; have BM0 := zK hbox_; have HB6 := zK hb_; clear hg_ hbox_ hb_; have hz0 : w6.cell? ⟨gM, 0, none⟩ = some (.int .i64 0) := (blk_cell BM0.out 0).trans rfl; have hz1 : w6.cell? ⟨gM, 1, none⟩ = some (.int .i64 0) := (blk_cell BM0.out 1).trans rfl; have fz0 := blk_frozen BM0.out 0; have fz1 := blk_frozen BM0.out 1; have NSM := zK (show gS ≠ gM by have := EM.out; have := blk_lt BS.out; omega); have NLM := zK (show gL ≠ gM by have := EM.out; have := blk_lt BL.out; omega); have GM := zK (show w.heap.size ≤ gM by have := EM.out; have := HB.out.size; omega)))
    have HVE := zK (show evalStep l1 ((l0.take i).foldl (evalStep l1) (0 + a0 * 1)) XM = (l0.take i).foldl (evalStep l1) (0 + a0 * 1) + XM.f1 * YV by rw [HYV.out]; exact if_pos HVV.out.2)
    have hlt3 := World.block_lt_of_cell? wr _ hy
    have n3 : ad3.block ≠ gM := by rw [add_block] at hlt3; have := EM.out; omega
    have hyW : ((w6.setCell ⟨gM, 0, none⟩ (.int .i64 XM.f0)).setCell ⟨gM, 1, none⟩ (.int .i64 XM.f1)).cell? (ad3.add XM.f0.toNat) = some (.int .i64 YV) := by
     have hb : (ad3.add XM.f0.toNat).block ≠ gM := by rw [add_block]; exact n3
     have e1 := Below.heap_setCell (w6.setCell ⟨gM, 0, none⟩ (.int .i64 XM.f0)) ⟨gM, 1, none⟩ (.int .i64 XM.f1) (ad3.add XM.f0.toNat).block hb
     have e2 := Below.heap_setCell w6 ⟨gM, 0, none⟩ (.int .i64 XM.f0) (ad3.add XM.f0.toNat).block hb
     have h6 := (HB6.out.cell hlt3).trans hy
     unfold World.cell? at h6 ⊢
     rw [e1, e2]
     exact h6
    have BM6 := blk_put (cs' := #[.int .i64 XM.f0, .int .i64 XM.f1]) (blk_put (cs' := #[.int .i64 XM.f0, .int .i64 0]) BM0.out 0 (.int .i64 XM.f0) rfl) 1 (.int .i64 XM.f1) rfl
    have hM0 := (blk_cell BM6 0).trans rfl
    have hM1 := (blk_cell BM6 1).trans rfl
    have BS6 := zK (blk_far (blk_far (blk_below BS.out HB6.out) (p := ⟨gM, 0, none⟩) NSM.out (.int .i64 XM.f0)) (p := ⟨gM, 1, none⟩) NSM.out (.int .i64 XM.f1))
    have BL6 := zK (blk_far (blk_far (blk_below BL.out HB6.out) (p := ⟨gM, 0, none⟩) NLM.out (.int .i64 XM.f0)) (p := ⟨gM, 1, none⟩) NLM.out (.int .i64 XM.f1))
    have HB6' := zK (yS (yS (below_step HB.out HB6.out) GM.out (j := 0) (v := .int .i64 XM.f0)) GM.out (j := 1) (v := .int .i64 XM.f1))
    clear hlt3 hy n3 BM6 hz0 hz1 fz0 fz1 hm0 hm1
    generalize (w6.setCell ⟨gM, 0, none⟩ (.int .i64 XM.f0)).setCell ⟨gM, 1, none⟩ (.int .i64 XM.f1) = W6 at hyW hM0 hM1 BS6 BL6 HB6' ⊢
    go_region_with (go_at_call 88; refine (exact_Add gS 0 ((l0.take i).foldl (evalStep l1) (0 + a0 * 1)) XM.f1 YV _ 128 (accCells [(l0.take i).foldl (evalStep l1) (0 + a0 * 1)]) (in64_iff RM.out.1).1 (in64_iff RM.out.1).2 (by rw [HYV.out]; exact (in64_iff RM.out.2).1) (by rw [HYV.out]; exact (in64_iff RM.out.2).2) ?rb (accCells_at [(l0.take i).foldl (evalStep l1) (0 + a0 * 1)] 0 (by simp))).mono ?_; (case rb => exact zD BS6.out); rintro e w7 ⟨rfl, hk_, hs_⟩; have BS7 : Aside0 (w7.heap[gS]? = some (.cells (accCells [(l0.take (i + 1)).foldl (evalStep l1) (0 + a0 * 1)]) 128 (0, 0))) := zK (hk_.trans (congrArg (fun z => some (Obj.cells z 128 (0, 0))) ((accCells_put [(l0.take i).foldl (evalStep l1) (0 + a0 * 1)] 0 _ (by simp)).trans (by rw [HE.out, HVE.out]; rfl)))); have BL7 := zK ((hs_.block gL NLS.out).trans (zD BL6.out)); have HB7 := zK (Below.trans (yD HB6'.out) (hs_.below GS.out)))
    all_goals
     go_wp2
     go_roundg gko
     case measure => omega
     case rel =>
      refine ⟨_, (by first | rfl | (simp; done) | (simp [*]; done)), ⟨i + 1, ?_, by have := HGK.out; omega, BS7.out⟩, ⟨BL7.out⟩, ⟨HB7.out⟩⟩
      have := HI.out; have := HXM.out.1; have := HR0.out.2.1; first | omega | (unfold wrap64; omega)
   ·have c3 : decide (XM.f0 < (l1.length : Int)) = false := decide_eq_false hv
    have HVN := zK (show evalStep l1 ((l0.take i).foldl (evalStep l1) (0 + a0 * 1)) XM = (l0.take i).foldl (evalStep l1) (0 + a0 * 1) from if_neg hv)
    clear hm HGM hv
    go_wp2_with (first
     | ((with_reducible refine gate_dst (N := 8) rfl ?_); refine box_event ?hg (N := 8) ?hd (cs := #[.int .i64 0, .int .i64 0]) (t := 68) ?hr ?_; (case hd => rfl); (case hg => rfl); (case hr => first | (go_simp; done) | (go_simp; rfl)); intro gM hg_ w6 hbox_ hb_; have EM := zK hg_; have BM0 := zK hbox_; have HB6 := zK hb_; clear hg_ hbox_ hb_; have hz0 : w6.cell? ⟨gM, 0, none⟩ = some (.int .i64 0) := (blk_cell BM0.out 0).trans rfl; have hz1 : w6.cell? ⟨gM, 1, none⟩ = some (.int .i64 0) := (blk_cell BM0.out 1).trans rfl; have fz0 := blk_frozen BM0.out 0; have fz1 := blk_frozen BM0.out 1; have NSM := zK (show gS ≠ gM by have := EM.out; have := blk_lt BS.out; omega); have NLM := zK (show gL ≠ gM by have := EM.out; have := blk_lt BL.out; omega); have GM := zK (show w.heap.size ≤ gM by have := EM.out; have := HB.out.size; omega)))
    go_roundg gko
    case measure => omega
    case rel =>
     refine ⟨_, (by first | rfl | (simp; done) | (simp [*]; done)), ⟨i + 1, ?_, by have := HGK.out; omega, ?_⟩, ⟨?_⟩, ⟨?_⟩⟩
     ·have := HI.out; have := HXM.out.1; have := HR0.out.2.1; first | omega | (unfold wrap64; omega)
     ·rw [HE.out]
      rw [HVN.out]
      exact blk_far (blk_far (blk_below BS.out HB6.out) (p := ⟨gM, 0, none⟩) NSM.out _) (p := ⟨gM, 1, none⟩) NSM.out _
     ·exact blk_far (blk_far (blk_below BL.out HB6.out) (p := ⟨gM, 0, none⟩) NLM.out _) (p := ⟨gM, 1, none⟩) NLM.out _
     ·exact yS (yS (below_step HB.out HB6.out) GM.out) GM.out
set_option maxHeartbeats 8000000 in
set_option maxRecDepth 100000 in
theorem eval_wrong (k : Nat) (a0 : Int) (A0 : Option Addr) (c0 : Nat) (l0 : List (S68)) (A1 : Option Addr) (c1 : Nat) (l1 : List Int) (w : World) (hr0 : Kd.C k68 w A0 l0.length l0) (hc0 : l0.length ≤ c0)
  (ht : lin_right.f k [⟨a0, l0⟩] = some false) :
  Calls Try.prog 57 #[.agg #[.int .i64 a0, .slice A0 l0.length c0], .slice A1 l1.length c1] w fun e w' => e = .returned (.tuple #[.int .i64 0, .int .i64 1]) ∧ Below w.heap.size w w' := by
 have hu28 := Try.underlying62
 have HR0 := zK hr0
 have HC0 := zK hc0
 have HT := zK ht; clear hr0 hc0 ht
 go_enter Try.func57, Try.ntmps57
 go_wp2_with (first
  | ((with_reducible refine gate_dst (N := 2) rfl ?_); refine box_event ?hg (N := 2) ?hd (cs := #[.int .i64 a0, .slice A0 l0.length c0]) (t := 62) ?hr ?_; (case hd => rfl); (case hg => rfl); (case hr => first | (go_simp; done) | (go_simp; rfl)); intro gL hg_ w1 hbox_ hb_; have EL := zK hg_; have BL0 := zK hbox_; have HB1 := zK hb_; clear hg_ hbox_ hb_; have hl0 : w1.cell? ⟨gL, 0, none⟩ = some (.int .i64 a0) := (blk_cell BL0.out 0).trans rfl; have hl1 : w1.cell? ⟨gL, 1, none⟩ = some (.slice A0 l0.length c0) := (blk_cell BL0.out 1).trans rfl)
  | ((with_reducible refine gate_dst (N := 12) rfl ?_); refine lit_event ?hg (N := 12) ?hd (cs := #[.int .i64 a0, .slice A0 l0.length c0]) (t := 62) (n := 1) ?hr ?_; (case hd => rfl); (case hg => rfl); (case hr => first | (go_simp; done) | (go_simp; rfl)); intro gT hg_ w2 hbox_ hb_; have ET := zK hg_; have BT := zK hbox_; have HB2 := zK hb_; clear hg_ hbox_ hb_)
  | (go_at_call 87; (refine (lin_right.calls k (some ⟨gT, 0, none⟩) 1 [⟨a0, l0⟩] false w2 (C_oneLin BT.out (Kd.C_below (Kd.C_below HR0.out HB1.out) HB2.out) HC0.out) (Nat.le_refl _) HT.out).mono ?_); rintro e w3 ⟨rfl, hb_⟩; have HB3 := zK (below_step (below_step HB1.out HB2.out) hb_); clear hb_))
 go_ret2
 exact ⟨rfl, HB3.out⟩
theorem lin_Eval.calls (k : Nat) (a0_0 : Int) (A0_1 : Option Addr) (c0_1 : Nat) (l0_1 : List (S68)) (A1 : Option Addr) (c1 : Nat) (l1 : List Int) (r1 : Int) (r2 : Int) (w : World) (hr0_1 : Kd.C k68 w A0_1 l0_1.length l0_1) (hc0_1 : l0_1.length ≤ c0_1) (hr1 : Kd.C (Kd.int .i64) w A1 l1.length l1) (hc1 : l1.length ≤ c1) (h : lin_Eval.f k a0_0 l0_1 l1 = some (r1, r2)) :
  Calls Try.prog 57 #[.agg #[.int .i64 a0_0, .slice A0_1 l0_1.length c0_1], .slice A1 l1.length c1] w fun e w' => e = .returned (.tuple #[.int .i64 r1, .int .i64 r2]) ∧ Below w.heap.size w w' := by
 unfold lin_Eval.f at h
 obtain ⟨t, ht, h⟩ := Option.bind_eq_some_iff.1 h
 cases t with
 | true =>
  rw [if_pos rfl] at h
  split at h
  ·rename_i hg
   rw [Bool.and_eq_true] at hg
   exact eval_walk k a0_0 A0_1 c0_1 l0_1 A1 c1 l1 w hr0_1 hc0_1 hr1 ht hg.1 hg.2 r1 r2 (Option.some.inj h)
  ·cases h
 | false =>
  rw [if_neg (by simp)] at h
  simp only [Option.some.injEq, Prod.mk.injEq] at h
  obtain ⟨rfl, rfl⟩ := h
  exact eval_wrong k a0_0 A0_1 c0_1 l0_1 A1 c1 l1 w hr0_1 hc0_1 ht

/-! ### ineq_Right: function 74 -/
def ineq_Right.f (k : Nat) (a0_0 : Int) (l0_1 : List (S68)) (a0_2 : Bool) : Option (Int) := (lin_Right.f k a0_0 l0_1).bind fun t120 => (some t120)
theorem ineq_Right.mono : ∀ a0 a1 a2 k, LeO (ineq_Right.f k a0 a1 a2) (ineq_Right.f (k + 1) a0 a1 a2) := by
 intro a0 a1 a2 k
 unfold ineq_Right.f
 repeat' first
   | (with_reducible exact lin_Right.mono _ _ _)
   | (with_reducible exact LeO.refl _)
   | (with_reducible exact LeO.none _)
   | (with_reducible refine LeO.ite ?_ ?_)
   | (with_reducible refine LeO.bind ?_ (fun _ => ?_))
   | exact lin_Right.mono _ _ _
   | exact LeO.none _
   | refine LeO.ite ?_ ?_
   | refine LeO.bind ?_ (fun _ => ?_)
set_option maxHeartbeats 8000000 in
set_option maxRecDepth 100000 in
theorem ineq_Right.calls (k : Nat) (a0_0 : Int) (A0_1 : Option Addr) (c0_1 : Nat) (l0_1 : List (S68)) (a0_2 : Bool) (r : Int) (w : World) (hr0_1 : Kd.C k68 w A0_1 l0_1.length l0_1) (hc0_1 : l0_1.length ≤ c0_1) (h : ineq_Right.f k a0_0 l0_1 a0_2 = some r) :
  Calls Try.prog 74 #[.agg #[.int .i64 a0_0, .slice A0_1 l0_1.length c0_1, .bool a0_2]] w fun e w' => e = .returned (.int .i64 r) ∧ Below w.heap.size w w' := by
 have hu70 := Try.underlying70
 have hu62 := Try.underlying62
 have HR0_1 := zK hr0_1
 have HC0_1 := zK hc0_1; clear hr0_1 hc0_1
 have HB := zK (Below.refl w.heap.size w)
 have H : ((lin_Right.f k a0_0 l0_1).bind fun t120 => (some t120)) = some r := h
 clear h; replace H := Option.bind_eq_some_iff.mp H
 obtain ⟨t120, A20, H⟩ := H; replace H : (some t120) = some r := H
 have A2 := zK A20; clear A20
 obtain rfl := Option.some.inj H
 go_enter Try.func74, Try.ntmps74
 go_wp2_with (first | ((with_reducible refine gate_dst (N := 1) rfl ?_); refine box_event ?hg (N := 1) ?hd (cs := #[.int .i64 a0_0, .slice A0_1 l0_1.length c0_1, .bool a0_2]) (t := 70) ?hr ?_; (case hd => rfl); (case hg => rfl); (case hr => first | (go_simp; done) | (go_simp; rfl)); intro gb119 hg w3 hbox hb; have BK119 := zK (hbox); have GW119 := zK ((by rw [hg]; exact (below_size (zo HB)) : w.heap.size ≤ gb119)); have GE119 := zK ((by rw [hg]; exact (below_size (zo HB)) : w.heap.size ≤ gb119)); replace HB := zK (below_step (zo HB) hb); clear hb hbox hg; have hcz4_0 : w3.cell? ⟨gb119, 0, none⟩ = some (.int .i64 a0_0) := (blk_cell BK119.out 0).trans rfl; have hcz4_1 : w3.cell? ⟨gb119, 1, none⟩ = some (.slice A0_1 l0_1.length c0_1) := (blk_cell BK119.out 1).trans rfl; have hcz4_2 : w3.cell? ⟨gb119, 2, none⟩ = some (.bool a0_2) := (blk_cell BK119.out 2).trans rfl; have hfz4_0 := blk_frozen BK119.out 0; have hfz4_1 := blk_frozen BK119.out 1; have hfz4_2 := blk_frozen BK119.out 2) | ((with_reducible refine zC (f := 100) rfl ?_); refine goesL_ (some 5) rfl rfl Try.func100 (by kernel_rfl) rfl #[.agg #[.int .i64 a0_0, .slice A0_1 l0_1.length c0_1]] rfl (by (try simp only [List.map_toArray, List.map_cons, List.map_nil]); first | done | rfl | (simp only [List.length_drop, List.length_take]; rfl)) ?_; (with_reducible refine (lin_Right.calls k a0_0 _ _ l0_1 t120 _ ?side1 ?side2 A2.out).mono ?_); (case side1 => repeat (first | exact (Kd.C_below HR0_1.out HB.out) | (with_reducible refine cA ?_ _) | (with_reducible refine cN ?_ _) | (with_reducible refine cD ?_))); (case side2 => exact HC0_1.out); rintro e w5 ⟨rfl, hb⟩; refine ⟨_, rfl, ?_⟩; replace BK119 := zK (blk_below (g := gb119) (o := .cells #[.int .i64 a0_0, .slice A0_1 l0_1.length c0_1, .bool a0_2] 70 (0, 0)) (zb BK119) hb); replace HB := zK (below_step (zo HB) hb); (try clear hb); (try clear hb2); (try clear hk); (try clear hi)))
 go_ret
 exact ⟨by first | rfl | (simp [errW_none, errW_some] <;> rfl) | (simp [*, errW_none, errW_some] <;> rfl), zo HB⟩

/-! ### ineq_Holds: function 55 -/
def ineq_Holds.f (k : Nat) (a0_0 : Int) (l0_1 : List (S68)) (a0_2 : Bool) (l1 : List Int) : Option (Bool × Int) := (ineq_Right.f k a0_0 l0_1 a0_2).bind fun t122 => (if t122 = 0 then ((lin_Eval.f k a0_0 l0_1 l1).bind fun bt123 => (if bt123.2 = 0 then (if bt123.1 = 0 then (some (true, 0)) else (if bt123.1 < 0 then (some (!a0_2, 0)) else (some (false, 0)))) else (some (false, bt123.2)))) else (some (false, t122)))
theorem ineq_Holds.mono : ∀ a0 a1 a2 a3 k, LeO (ineq_Holds.f k a0 a1 a2 a3) (ineq_Holds.f (k + 1) a0 a1 a2 a3) := by
 intro a0 a1 a2 a3 k
 unfold ineq_Holds.f
 repeat' first
   | (with_reducible exact ineq_Right.mono _ _ _ _)
   | (with_reducible exact lin_Eval.mono _ _ _ _)
   | (with_reducible exact LeO.refl _)
   | (with_reducible exact LeO.none _)
   | (with_reducible refine LeO.ite ?_ ?_)
   | (with_reducible refine LeO.bind ?_ (fun _ => ?_))
   | exact ineq_Right.mono _ _ _ _
   | exact lin_Eval.mono _ _ _ _
   | exact LeO.none _
   | refine LeO.ite ?_ ?_
   | refine LeO.bind ?_ (fun _ => ?_)
set_option maxHeartbeats 8000000 in
set_option maxRecDepth 100000 in
theorem ineq_Holds.calls (k : Nat) (a0_0 : Int) (A0_1 : Option Addr) (c0_1 : Nat) (l0_1 : List (S68)) (a0_2 : Bool) (A1 : Option Addr) (c1 : Nat) (l1 : List Int) (r1 : Bool) (r2 : Int) (w : World) (hr0_1 : Kd.C k68 w A0_1 l0_1.length l0_1) (hc0_1 : l0_1.length ≤ c0_1) (hr1 : Kd.C (Kd.int .i64) w A1 l1.length l1) (hc1 : l1.length ≤ c1) (h : ineq_Holds.f k a0_0 l0_1 a0_2 l1 = some (r1, r2)) :
  Calls Try.prog 55 #[.agg #[.int .i64 a0_0, .slice A0_1 l0_1.length c0_1, .bool a0_2], .slice A1 l1.length c1] w fun e w' => e = .returned (.tuple #[.bool r1, .int .i64 r2]) ∧ Below w.heap.size w w' := by
 have hu70 := Try.underlying70
 have hu62 := Try.underlying62
 have HR0_1 := zK hr0_1
 have HC0_1 := zK hc0_1; clear hr0_1 hc0_1
 have HR1 := zK hr1
 have HC1 := zK hc1; clear hr1 hc1
 have HB := zK (Below.refl w.heap.size w)
 have H : ((ineq_Right.f k a0_0 l0_1 a0_2).bind fun t122 => (if t122 = 0 then ((lin_Eval.f k a0_0 l0_1 l1).bind fun bt123 => (if bt123.2 = 0 then (if bt123.1 = 0 then (some (true, 0)) else (if bt123.1 < 0 then (some (!a0_2, 0)) else (some (false, 0)))) else (some (false, bt123.2)))) else (some (false, t122)))) = some (r1, r2) := h
 clear h; replace H := Option.bind_eq_some_iff.mp H
 obtain ⟨t122, A30, H⟩ := H
 replace H : (if t122 = 0 then ((lin_Eval.f k a0_0 l0_1 l1).bind fun bt123 => (if bt123.2 = 0 then (if bt123.1 = 0 then (some (true, 0)) else (if bt123.1 < 0 then (some (!a0_2, 0)) else (some (false, 0)))) else (some (false, bt123.2)))) else (some (false, t122))) = some (r1, r2) := H
 have A3 := zK A30; clear A30
 by_cases c4 : t122 = 0
 ·rw [if_pos c4] at H
  have c4b0 : (t122 == 0) = true := beq_iff_eq.mpr c4
  have c4b1 : (t122 != 0) = false := bne_eq_false_iff_eq.mpr c4; clear c4
  replace H := Option.bind_eq_some_iff.mp H
  obtain ⟨⟨t123, t124⟩, A50, H⟩ := H
  replace H : (if t124 = 0 then (if t123 = 0 then (some (true, 0)) else (if t123 < 0 then (some (!a0_2, 0)) else (some (false, 0)))) else (some (false, t124))) = some (r1, r2) := H
  have A5 := zK A50; clear A50
  by_cases c6 : t124 = 0
  ·rw [if_pos c6] at H
   have c6b0 : (t124 == 0) = true := beq_iff_eq.mpr c6
   have c6b1 : (t124 != 0) = false := bne_eq_false_iff_eq.mpr c6; clear c6
   by_cases c7 : t123 = 0
   ·rw [if_pos c7] at H
    have c7b0 : (t123 == 0) = true := beq_iff_eq.mpr c7
    have c7b1 : (t123 != 0) = false := bne_eq_false_iff_eq.mpr c7; clear c7
    simp only [Option.some.injEq, Prod.mk.injEq] at H
    obtain ⟨rfl, rfl⟩ := H
    go_enter Try.func55, Try.ntmps55
    go_wp2_with (first | ((with_reducible refine gate_dst (N := 2) rfl ?_); refine box_event ?hg (N := 2) ?hd (cs := #[.int .i64 a0_0, .slice A0_1 l0_1.length c0_1, .bool a0_2]) (t := 70) ?hr ?_; (case hd => rfl); (case hg => rfl); (case hr => first | (go_simp; done) | (go_simp; rfl)); intro gb121 hg w8 hbox hb; have BK121 := zK (hbox); have GW121 := zK ((by rw [hg]; exact (below_size (zo HB)) : w.heap.size ≤ gb121)); have GE121 := zK ((by rw [hg]; exact (below_size (zo HB)) : w.heap.size ≤ gb121)); replace HB := zK (below_step (zo HB) hb); clear hb hbox hg; have hcz9_0 : w8.cell? ⟨gb121, 0, none⟩ = some (.int .i64 a0_0) := (blk_cell BK121.out 0).trans rfl; have hcz9_1 : w8.cell? ⟨gb121, 1, none⟩ = some (.slice A0_1 l0_1.length c0_1) := (blk_cell BK121.out 1).trans rfl; have hcz9_2 : w8.cell? ⟨gb121, 2, none⟩ = some (.bool a0_2) := (blk_cell BK121.out 2).trans rfl; have hfz9_0 := blk_frozen BK121.out 0; have hfz9_1 := blk_frozen BK121.out 1; have hfz9_2 := blk_frozen BK121.out 2) | ((with_reducible refine zC (f := 74) rfl ?_); refine goesL_ (some 10) rfl rfl Try.func74 (by kernel_rfl) rfl #[.agg #[.int .i64 a0_0, .slice A0_1 l0_1.length c0_1, .bool a0_2]] rfl (by (try simp only [List.map_toArray, List.map_cons, List.map_nil]); first | done | rfl | (simp only [List.length_drop, List.length_take]; rfl)) ?_; (with_reducible refine (ineq_Right.calls k a0_0 _ _ l0_1 a0_2 t122 _ ?side1 ?side2 A3.out).mono ?_); (case side1 => repeat (first | exact (Kd.C_below HR0_1.out HB.out) | (with_reducible refine cA ?_ _) | (with_reducible refine cN ?_ _) | (with_reducible refine cD ?_))); (case side2 => exact HC0_1.out); rintro e w10 ⟨rfl, hb⟩; refine ⟨_, rfl, ?_⟩; replace BK121 := zK (blk_below (g := gb121) (o := .cells #[.int .i64 a0_0, .slice A0_1 l0_1.length c0_1, .bool a0_2] 70 (0, 0)) (zb BK121) hb); replace HB := zK (below_step (zo HB) hb); (try clear hb); (try clear hb2); (try clear hk); (try clear hi); have hcz11_0 : w10.cell? ⟨gb121, 0, none⟩ = some (.int .i64 a0_0) := (blk_cell BK121.out 0).trans rfl; have hcz11_1 : w10.cell? ⟨gb121, 1, none⟩ = some (.slice A0_1 l0_1.length c0_1) := (blk_cell BK121.out 1).trans rfl; have hcz11_2 : w10.cell? ⟨gb121, 2, none⟩ = some (.bool a0_2) := (blk_cell BK121.out 2).trans rfl; have hfz11_0 := blk_frozen BK121.out 0; have hfz11_1 := blk_frozen BK121.out 1; have hfz11_2 := blk_frozen BK121.out 2) | ((with_reducible refine zC (f := 57) rfl ?_); refine goesL_ (some 18) rfl rfl Try.func57 (by kernel_rfl) rfl #[.agg #[.int .i64 a0_0, .slice A0_1 l0_1.length c0_1], .slice A1 l1.length c1] rfl (by (try simp only [List.map_toArray, List.map_cons, List.map_nil]); first | done | rfl | (simp only [List.length_drop, List.length_take]; rfl)) ?_; (with_reducible refine (lin_Eval.calls k a0_0 _ _ l0_1 _ _ l1 t123 t124 _ ?side1 ?side2 ?side3 ?side4 A5.out).mono ?_); (case side1 => repeat (first | exact (Kd.C_below HR0_1.out HB.out) | (with_reducible refine cA ?_ _) | (with_reducible refine cN ?_ _) | (with_reducible refine cD ?_))); (case side2 => exact HC0_1.out); (case side3 => repeat (first | exact (Kd.C_below HR1.out HB.out) | (with_reducible refine cA ?_ _) | (with_reducible refine cN ?_ _) | (with_reducible refine cD ?_))); (case side4 => exact HC1.out); rintro e w12 ⟨rfl, hb⟩; refine ⟨_, rfl, ?_⟩; replace BK121 := zK (blk_below (g := gb121) (o := .cells #[.int .i64 a0_0, .slice A0_1 l0_1.length c0_1, .bool a0_2] 70 (0, 0)) (zb BK121) hb); replace HB := zK (below_step (zo HB) hb); (try clear hb); (try clear hb2); (try clear hk); (try clear hi)))
    go_ret2
    exact ⟨by first | rfl | (simp [errW_none, errW_some] <;> rfl) | (simp [*, errW_none, errW_some] <;> rfl), zo HB⟩
   ·rw [if_neg c7] at H
    have c7b0 : (t123 == 0) = false := beq_eq_false_iff_ne.mpr c7
    have c7b1 : (t123 != 0) = true := bne_iff_ne.mpr c7
    by_cases c13 : t123 < 0
    ·rw [if_pos c13] at H
     have c13b0 : decide (t123 < 0) = true := decide_eq_true c13; clear c13
     simp only [Option.some.injEq, Prod.mk.injEq] at H
     obtain ⟨rfl, rfl⟩ := H
     go_enter Try.func55, Try.ntmps55
     go_wp2_with (first | ((with_reducible refine gate_dst (N := 2) rfl ?_); refine box_event ?hg (N := 2) ?hd (cs := #[.int .i64 a0_0, .slice A0_1 l0_1.length c0_1, .bool a0_2]) (t := 70) ?hr ?_; (case hd => rfl); (case hg => rfl); (case hr => first | (go_simp; done) | (go_simp; rfl)); intro gb121 hg w14 hbox hb; have BK121 := zK (hbox); have GW121 := zK ((by rw [hg]; exact (below_size (zo HB)) : w.heap.size ≤ gb121)); have GE121 := zK ((by rw [hg]; exact (below_size (zo HB)) : w.heap.size ≤ gb121)); replace HB := zK (below_step (zo HB) hb); clear hb hbox hg; have hcz15_0 : w14.cell? ⟨gb121, 0, none⟩ = some (.int .i64 a0_0) := (blk_cell BK121.out 0).trans rfl; have hcz15_1 : w14.cell? ⟨gb121, 1, none⟩ = some (.slice A0_1 l0_1.length c0_1) := (blk_cell BK121.out 1).trans rfl; have hcz15_2 : w14.cell? ⟨gb121, 2, none⟩ = some (.bool a0_2) := (blk_cell BK121.out 2).trans rfl; have hfz15_0 := blk_frozen BK121.out 0; have hfz15_1 := blk_frozen BK121.out 1; have hfz15_2 := blk_frozen BK121.out 2) | ((with_reducible refine zC (f := 74) rfl ?_); refine goesL_ (some 10) rfl rfl Try.func74 (by kernel_rfl) rfl #[.agg #[.int .i64 a0_0, .slice A0_1 l0_1.length c0_1, .bool a0_2]] rfl (by (try simp only [List.map_toArray, List.map_cons, List.map_nil]); first | done | rfl | (simp only [List.length_drop, List.length_take]; rfl)) ?_; (with_reducible refine (ineq_Right.calls k a0_0 _ _ l0_1 a0_2 t122 _ ?side1 ?side2 A3.out).mono ?_); (case side1 => repeat (first | exact (Kd.C_below HR0_1.out HB.out) | (with_reducible refine cA ?_ _) | (with_reducible refine cN ?_ _) | (with_reducible refine cD ?_))); (case side2 => exact HC0_1.out); rintro e w16 ⟨rfl, hb⟩; refine ⟨_, rfl, ?_⟩; replace BK121 := zK (blk_below (g := gb121) (o := .cells #[.int .i64 a0_0, .slice A0_1 l0_1.length c0_1, .bool a0_2] 70 (0, 0)) (zb BK121) hb); replace HB := zK (below_step (zo HB) hb); (try clear hb); (try clear hb2); (try clear hk); (try clear hi); have hcz17_0 : w16.cell? ⟨gb121, 0, none⟩ = some (.int .i64 a0_0) := (blk_cell BK121.out 0).trans rfl; have hcz17_1 : w16.cell? ⟨gb121, 1, none⟩ = some (.slice A0_1 l0_1.length c0_1) := (blk_cell BK121.out 1).trans rfl; have hcz17_2 : w16.cell? ⟨gb121, 2, none⟩ = some (.bool a0_2) := (blk_cell BK121.out 2).trans rfl; have hfz17_0 := blk_frozen BK121.out 0; have hfz17_1 := blk_frozen BK121.out 1; have hfz17_2 := blk_frozen BK121.out 2) | ((with_reducible refine zC (f := 57) rfl ?_); refine goesL_ (some 18) rfl rfl Try.func57 (by kernel_rfl) rfl #[.agg #[.int .i64 a0_0, .slice A0_1 l0_1.length c0_1], .slice A1 l1.length c1] rfl (by (try simp only [List.map_toArray, List.map_cons, List.map_nil]); first | done | rfl | (simp only [List.length_drop, List.length_take]; rfl)) ?_; (with_reducible refine (lin_Eval.calls k a0_0 _ _ l0_1 _ _ l1 t123 t124 _ ?side1 ?side2 ?side3 ?side4 A5.out).mono ?_); (case side1 => repeat (first | exact (Kd.C_below HR0_1.out HB.out) | (with_reducible refine cA ?_ _) | (with_reducible refine cN ?_ _) | (with_reducible refine cD ?_))); (case side2 => exact HC0_1.out); (case side3 => repeat (first | exact (Kd.C_below HR1.out HB.out) | (with_reducible refine cA ?_ _) | (with_reducible refine cN ?_ _) | (with_reducible refine cD ?_))); (case side4 => exact HC1.out); rintro e w18 ⟨rfl, hb⟩; refine ⟨_, rfl, ?_⟩; replace BK121 := zK (blk_below (g := gb121) (o := .cells #[.int .i64 a0_0, .slice A0_1 l0_1.length c0_1, .bool a0_2] 70 (0, 0)) (zb BK121) hb); replace HB := zK (below_step (zo HB) hb); (try clear hb); (try clear hb2); (try clear hk); (try clear hi); have hcz19_0 : w18.cell? ⟨gb121, 0, none⟩ = some (.int .i64 a0_0) := (blk_cell BK121.out 0).trans rfl; have hcz19_1 : w18.cell? ⟨gb121, 1, none⟩ = some (.slice A0_1 l0_1.length c0_1) := (blk_cell BK121.out 1).trans rfl; have hcz19_2 : w18.cell? ⟨gb121, 2, none⟩ = some (.bool a0_2) := (blk_cell BK121.out 2).trans rfl; have hfz19_0 := blk_frozen BK121.out 0; have hfz19_1 := blk_frozen BK121.out 1; have hfz19_2 := blk_frozen BK121.out 2))
     go_ret2
     exact ⟨by first | rfl | (simp [errW_none, errW_some] <;> rfl) | (simp [*, errW_none, errW_some] <;> rfl), zo HB⟩
    ·rw [if_neg c13] at H
     have c13b0 : decide (t123 < 0) = false := decide_eq_false c13; clear c13
     simp only [Option.some.injEq, Prod.mk.injEq] at H
     obtain ⟨rfl, rfl⟩ := H
     go_enter Try.func55, Try.ntmps55
     go_wp2_with (first | ((with_reducible refine gate_dst (N := 2) rfl ?_); refine box_event ?hg (N := 2) ?hd (cs := #[.int .i64 a0_0, .slice A0_1 l0_1.length c0_1, .bool a0_2]) (t := 70) ?hr ?_; (case hd => rfl); (case hg => rfl); (case hr => first | (go_simp; done) | (go_simp; rfl)); intro gb121 hg w20 hbox hb; have BK121 := zK (hbox); have GW121 := zK ((by rw [hg]; exact (below_size (zo HB)) : w.heap.size ≤ gb121)); have GE121 := zK ((by rw [hg]; exact (below_size (zo HB)) : w.heap.size ≤ gb121)); replace HB := zK (below_step (zo HB) hb); clear hb hbox hg; have hcz21_0 : w20.cell? ⟨gb121, 0, none⟩ = some (.int .i64 a0_0) := (blk_cell BK121.out 0).trans rfl; have hcz21_1 : w20.cell? ⟨gb121, 1, none⟩ = some (.slice A0_1 l0_1.length c0_1) := (blk_cell BK121.out 1).trans rfl; have hcz21_2 : w20.cell? ⟨gb121, 2, none⟩ = some (.bool a0_2) := (blk_cell BK121.out 2).trans rfl; have hfz21_0 := blk_frozen BK121.out 0; have hfz21_1 := blk_frozen BK121.out 1; have hfz21_2 := blk_frozen BK121.out 2) | ((with_reducible refine zC (f := 74) rfl ?_); refine goesL_ (some 10) rfl rfl Try.func74 (by kernel_rfl) rfl #[.agg #[.int .i64 a0_0, .slice A0_1 l0_1.length c0_1, .bool a0_2]] rfl (by (try simp only [List.map_toArray, List.map_cons, List.map_nil]); first | done | rfl | (simp only [List.length_drop, List.length_take]; rfl)) ?_; (with_reducible refine (ineq_Right.calls k a0_0 _ _ l0_1 a0_2 t122 _ ?side1 ?side2 A3.out).mono ?_); (case side1 => repeat (first | exact (Kd.C_below HR0_1.out HB.out) | (with_reducible refine cA ?_ _) | (with_reducible refine cN ?_ _) | (with_reducible refine cD ?_))); (case side2 => exact HC0_1.out); rintro e w22 ⟨rfl, hb⟩; refine ⟨_, rfl, ?_⟩; replace BK121 := zK (blk_below (g := gb121) (o := .cells #[.int .i64 a0_0, .slice A0_1 l0_1.length c0_1, .bool a0_2] 70 (0, 0)) (zb BK121) hb); replace HB := zK (below_step (zo HB) hb); (try clear hb); (try clear hb2); (try clear hk); (try clear hi); have hcz23_0 : w22.cell? ⟨gb121, 0, none⟩ = some (.int .i64 a0_0) := (blk_cell BK121.out 0).trans rfl; have hcz23_1 : w22.cell? ⟨gb121, 1, none⟩ = some (.slice A0_1 l0_1.length c0_1) := (blk_cell BK121.out 1).trans rfl; have hcz23_2 : w22.cell? ⟨gb121, 2, none⟩ = some (.bool a0_2) := (blk_cell BK121.out 2).trans rfl; have hfz23_0 := blk_frozen BK121.out 0; have hfz23_1 := blk_frozen BK121.out 1; have hfz23_2 := blk_frozen BK121.out 2) | ((with_reducible refine zC (f := 57) rfl ?_); refine goesL_ (some 18) rfl rfl Try.func57 (by kernel_rfl) rfl #[.agg #[.int .i64 a0_0, .slice A0_1 l0_1.length c0_1], .slice A1 l1.length c1] rfl (by (try simp only [List.map_toArray, List.map_cons, List.map_nil]); first | done | rfl | (simp only [List.length_drop, List.length_take]; rfl)) ?_; (with_reducible refine (lin_Eval.calls k a0_0 _ _ l0_1 _ _ l1 t123 t124 _ ?side1 ?side2 ?side3 ?side4 A5.out).mono ?_); (case side1 => repeat (first | exact (Kd.C_below HR0_1.out HB.out) | (with_reducible refine cA ?_ _) | (with_reducible refine cN ?_ _) | (with_reducible refine cD ?_))); (case side2 => exact HC0_1.out); (case side3 => repeat (first | exact (Kd.C_below HR1.out HB.out) | (with_reducible refine cA ?_ _) | (with_reducible refine cN ?_ _) | (with_reducible refine cD ?_))); (case side4 => exact HC1.out); rintro e w24 ⟨rfl, hb⟩; refine ⟨_, rfl, ?_⟩; replace BK121 := zK (blk_below (g := gb121) (o := .cells #[.int .i64 a0_0, .slice A0_1 l0_1.length c0_1, .bool a0_2] 70 (0, 0)) (zb BK121) hb); replace HB := zK (below_step (zo HB) hb); (try clear hb); (try clear hb2); (try clear hk); (try clear hi)))
     go_ret2
     exact ⟨by first | rfl | (simp [errW_none, errW_some] <;> rfl) | (simp [*, errW_none, errW_some] <;> rfl), zo HB⟩
  ·rw [if_neg c6] at H
   have c6b0 : (t124 == 0) = false := beq_eq_false_iff_ne.mpr c6
   have c6b1 : (t124 != 0) = true := bne_iff_ne.mpr c6
   simp only [Option.some.injEq, Prod.mk.injEq] at H
   obtain ⟨rfl, rfl⟩ := H
   go_enter Try.func55, Try.ntmps55
   go_wp2_with (first | ((with_reducible refine gate_dst (N := 2) rfl ?_); refine box_event ?hg (N := 2) ?hd (cs := #[.int .i64 a0_0, .slice A0_1 l0_1.length c0_1, .bool a0_2]) (t := 70) ?hr ?_; (case hd => rfl); (case hg => rfl); (case hr => first | (go_simp; done) | (go_simp; rfl)); intro gb121 hg w25 hbox hb; have BK121 := zK (hbox); have GW121 := zK ((by rw [hg]; exact (below_size (zo HB)) : w.heap.size ≤ gb121)); have GE121 := zK ((by rw [hg]; exact (below_size (zo HB)) : w.heap.size ≤ gb121)); replace HB := zK (below_step (zo HB) hb); clear hb hbox hg; have hcz26_0 : w25.cell? ⟨gb121, 0, none⟩ = some (.int .i64 a0_0) := (blk_cell BK121.out 0).trans rfl; have hcz26_1 : w25.cell? ⟨gb121, 1, none⟩ = some (.slice A0_1 l0_1.length c0_1) := (blk_cell BK121.out 1).trans rfl; have hcz26_2 : w25.cell? ⟨gb121, 2, none⟩ = some (.bool a0_2) := (blk_cell BK121.out 2).trans rfl; have hfz26_0 := blk_frozen BK121.out 0; have hfz26_1 := blk_frozen BK121.out 1; have hfz26_2 := blk_frozen BK121.out 2) | ((with_reducible refine zC (f := 74) rfl ?_); refine goesL_ (some 10) rfl rfl Try.func74 (by kernel_rfl) rfl #[.agg #[.int .i64 a0_0, .slice A0_1 l0_1.length c0_1, .bool a0_2]] rfl (by (try simp only [List.map_toArray, List.map_cons, List.map_nil]); first | done | rfl | (simp only [List.length_drop, List.length_take]; rfl)) ?_; (with_reducible refine (ineq_Right.calls k a0_0 _ _ l0_1 a0_2 t122 _ ?side1 ?side2 A3.out).mono ?_); (case side1 => repeat (first | exact (Kd.C_below HR0_1.out HB.out) | (with_reducible refine cA ?_ _) | (with_reducible refine cN ?_ _) | (with_reducible refine cD ?_))); (case side2 => exact HC0_1.out); rintro e w27 ⟨rfl, hb⟩; refine ⟨_, rfl, ?_⟩; replace BK121 := zK (blk_below (g := gb121) (o := .cells #[.int .i64 a0_0, .slice A0_1 l0_1.length c0_1, .bool a0_2] 70 (0, 0)) (zb BK121) hb); replace HB := zK (below_step (zo HB) hb); (try clear hb); (try clear hb2); (try clear hk); (try clear hi); have hcz28_0 : w27.cell? ⟨gb121, 0, none⟩ = some (.int .i64 a0_0) := (blk_cell BK121.out 0).trans rfl; have hcz28_1 : w27.cell? ⟨gb121, 1, none⟩ = some (.slice A0_1 l0_1.length c0_1) := (blk_cell BK121.out 1).trans rfl; have hcz28_2 : w27.cell? ⟨gb121, 2, none⟩ = some (.bool a0_2) := (blk_cell BK121.out 2).trans rfl; have hfz28_0 := blk_frozen BK121.out 0; have hfz28_1 := blk_frozen BK121.out 1; have hfz28_2 := blk_frozen BK121.out 2) | ((with_reducible refine zC (f := 57) rfl ?_); refine goesL_ (some 18) rfl rfl Try.func57 (by kernel_rfl) rfl #[.agg #[.int .i64 a0_0, .slice A0_1 l0_1.length c0_1], .slice A1 l1.length c1] rfl (by (try simp only [List.map_toArray, List.map_cons, List.map_nil]); first | done | rfl | (simp only [List.length_drop, List.length_take]; rfl)) ?_; (with_reducible refine (lin_Eval.calls k a0_0 _ _ l0_1 _ _ l1 t123 t124 _ ?side1 ?side2 ?side3 ?side4 A5.out).mono ?_); (case side1 => repeat (first | exact (Kd.C_below HR0_1.out HB.out) | (with_reducible refine cA ?_ _) | (with_reducible refine cN ?_ _) | (with_reducible refine cD ?_))); (case side2 => exact HC0_1.out); (case side3 => repeat (first | exact (Kd.C_below HR1.out HB.out) | (with_reducible refine cA ?_ _) | (with_reducible refine cN ?_ _) | (with_reducible refine cD ?_))); (case side4 => exact HC1.out); rintro e w29 ⟨rfl, hb⟩; refine ⟨_, rfl, ?_⟩; replace BK121 := zK (blk_below (g := gb121) (o := .cells #[.int .i64 a0_0, .slice A0_1 l0_1.length c0_1, .bool a0_2] 70 (0, 0)) (zb BK121) hb); replace HB := zK (below_step (zo HB) hb); (try clear hb); (try clear hb2); (try clear hk); (try clear hi)))
   go_ret2
   exact ⟨by first | rfl | (simp [errW_none, errW_some] <;> rfl) | (simp [*, errW_none, errW_some] <;> rfl), zo HB⟩
 ·rw [if_neg c4] at H
  have c4b0 : (t122 == 0) = false := beq_eq_false_iff_ne.mpr c4
  have c4b1 : (t122 != 0) = true := bne_iff_ne.mpr c4
  simp only [Option.some.injEq, Prod.mk.injEq] at H
  obtain ⟨rfl, rfl⟩ := H
  go_enter Try.func55, Try.ntmps55
  go_wp2_with (first | ((with_reducible refine gate_dst (N := 2) rfl ?_); refine box_event ?hg (N := 2) ?hd (cs := #[.int .i64 a0_0, .slice A0_1 l0_1.length c0_1, .bool a0_2]) (t := 70) ?hr ?_; (case hd => rfl); (case hg => rfl); (case hr => first | (go_simp; done) | (go_simp; rfl)); intro gb121 hg w30 hbox hb; have BK121 := zK (hbox); have GW121 := zK ((by rw [hg]; exact (below_size (zo HB)) : w.heap.size ≤ gb121)); have GE121 := zK ((by rw [hg]; exact (below_size (zo HB)) : w.heap.size ≤ gb121)); replace HB := zK (below_step (zo HB) hb); clear hb hbox hg; have hcz31_0 : w30.cell? ⟨gb121, 0, none⟩ = some (.int .i64 a0_0) := (blk_cell BK121.out 0).trans rfl; have hcz31_1 : w30.cell? ⟨gb121, 1, none⟩ = some (.slice A0_1 l0_1.length c0_1) := (blk_cell BK121.out 1).trans rfl; have hcz31_2 : w30.cell? ⟨gb121, 2, none⟩ = some (.bool a0_2) := (blk_cell BK121.out 2).trans rfl; have hfz31_0 := blk_frozen BK121.out 0; have hfz31_1 := blk_frozen BK121.out 1; have hfz31_2 := blk_frozen BK121.out 2) | ((with_reducible refine zC (f := 74) rfl ?_); refine goesL_ (some 10) rfl rfl Try.func74 (by kernel_rfl) rfl #[.agg #[.int .i64 a0_0, .slice A0_1 l0_1.length c0_1, .bool a0_2]] rfl (by (try simp only [List.map_toArray, List.map_cons, List.map_nil]); first | done | rfl | (simp only [List.length_drop, List.length_take]; rfl)) ?_; (with_reducible refine (ineq_Right.calls k a0_0 _ _ l0_1 a0_2 t122 _ ?side1 ?side2 A3.out).mono ?_); (case side1 => repeat (first | exact (Kd.C_below HR0_1.out HB.out) | (with_reducible refine cA ?_ _) | (with_reducible refine cN ?_ _) | (with_reducible refine cD ?_))); (case side2 => exact HC0_1.out); rintro e w32 ⟨rfl, hb⟩; refine ⟨_, rfl, ?_⟩; replace BK121 := zK (blk_below (g := gb121) (o := .cells #[.int .i64 a0_0, .slice A0_1 l0_1.length c0_1, .bool a0_2] 70 (0, 0)) (zb BK121) hb); replace HB := zK (below_step (zo HB) hb); (try clear hb); (try clear hb2); (try clear hk); (try clear hi)))
  go_ret2
  exact ⟨by first | rfl | (simp [errW_none, errW_some] <;> rfl) | (simp [*, errW_none, errW_some] <;> rfl), zo HB⟩

/-! ### ineq_All: function 28 -/
def ineq_All.l0 : Nat → List Int → List (S70) → Int → Int → Option (Int × Int)
 | 0, _, _, _, _ => none
 | k + 1, x1, x10, x11, x12 => if x12 < x11 then (if 0 ≤ x12 then (if x12 < (x10.length : Int) then ((ineq_Holds.f k ((rd_T70 x10 x12).f0.f0) ((rd_T70 x10 x12).f0.f1) ((rd_T70 x10 x12).f1) x1).bind fun bt127 => (if bt127.2 = 0 then (if bt127.1 = true then (ineq_All.l0 k x1 x10 x11 (wrap64 (x12 + 1))) else (some (x12, bt127.2))) else (some (x12, bt127.2)))) else (none)) else (none)) else (some ((-1), 0))
def ineq_All.f (k : Nat) (l0 : List (S70)) (l1 : List Int) : Option (Int × Int) := ineq_All.l0 k l1 l0 (l0.length : Int) 0
theorem ineq_All.mono_l : ∀ k, (∀ y0 y1 y2 y3, LeO (ineq_All.l0 k y0 y1 y2 y3) (ineq_All.l0 (k + 1) y0 y1 y2 y3))
 | 0 => fun _ _ _ _ r h => by simp [ineq_All.l0] at h
 | k + 1 => by
  have ih0 := ineq_All.mono_l k
  ·intro y0 y1 y2 y3
   unfold ineq_All.l0
   repeat' first
   | (with_reducible exact ih0 _ _ _ _)
   | (with_reducible exact ineq_Holds.mono _ _ _ _ _)
   | (with_reducible exact LeO.refl _)
   | (with_reducible exact LeO.none _)
   | (with_reducible refine LeO.ite ?_ ?_)
   | (with_reducible refine LeO.bind ?_ (fun _ => ?_))
   | exact ih0 _ _ _ _
   | exact ineq_Holds.mono _ _ _ _ _
   | exact LeO.none _
   | refine LeO.ite ?_ ?_
   | refine LeO.bind ?_ (fun _ => ?_)
theorem ineq_All.mono : ∀ a0 a1 k, LeO (ineq_All.f k a0 a1) (ineq_All.f (k + 1) a0 a1) := by
 intro a0 a1 k
 have ih0 := ineq_All.mono_l k
 unfold ineq_All.f
 repeat' first
   | (with_reducible exact ih0 _ _ _ _)
   | (with_reducible exact ineq_Holds.mono _ _ _ _ _)
   | (with_reducible exact LeO.refl _)
   | (with_reducible exact LeO.none _)
   | (with_reducible refine LeO.ite ?_ ?_)
   | (with_reducible refine LeO.bind ?_ (fun _ => ?_))
   | exact ih0 _ _ _ _
   | exact ineq_Holds.mono _ _ _ _ _
   | exact LeO.none _
   | refine LeO.ite ?_ ?_
   | refine LeO.bind ?_ (fun _ => ?_)
set_option maxHeartbeats 8000000 in
set_option maxRecDepth 100000 in
theorem ineq_All.calls (k : Nat) (A0 : Option Addr) (c0 : Nat) (l0 : List (S70)) (A1 : Option Addr) (c1 : Nat) (l1 : List Int) (r1 : Int) (r2 : Int) (w : World) (hr0 : Kd.C k70 w A0 l0.length l0) (hc0 : l0.length ≤ c0) (hr1 : Kd.C (Kd.int .i64) w A1 l1.length l1) (hc1 : l1.length ≤ c1) (h : ineq_All.f k l0 l1 = some (r1, r2)) :
  Calls Try.prog 28 #[.slice A0 l0.length c0, .slice A1 l1.length c1] w fun e w' => e = .returned (.tuple #[.int .i64 r1, .int .i64 r2]) ∧ Below w.heap.size w w' := by
 have hu70 := Try.underlying70
 have HR0 := zK hr0
 have HC0 := zK hc0; clear hr0 hc0
 have HR1 := zK hr1
 have HC1 := zK hc1; clear hr1 hc1
 have HB := zK (Below.refl w.heap.size w)
 have H : (ineq_All.l0 k l1 l0 (l0.length : Int) 0) = some (r1, r2) := h
 clear h
 have H' := zK H; clear H
 go_enter Try.func28, Try.ntmps28
 go_wp2
 go_loopg [12] k (fun kq v12 w' => ∃ (x12_1 : Int), v12 = .int .i64 x12_1 ∧ Aside0 (ineq_All.l0 kq l1 l0 (l0.length : Int) x12_1 = some (r1, r2)) ∧ Aside0 (kq ≤ k) ∧ Aside0 (Below w.heap.size w w'))
 case atStart => exact ⟨(0), (by first | rfl | (simp; done) | (simp [*]; done)), H', ⟨Nat.le_refl _⟩, ⟨zo HB⟩⟩
 case round =>
  clear H'; try clear c1; try clear c2; try clear p2
  obtain ⟨x12_1, rfl, HA, HK1, HB⟩ := hrel
  cases gk with
  | zero => exact absurd HA.out (by simp [ineq_All.l0])
  | succ k1 =>
   have H := HA.out; clear HA
   simp only [ineq_All.l0] at H
   by_cases c3 : x12_1 < (l0.length : Int)
   ·rw [if_pos c3] at H
    have c3b0 : decide (x12_1 < (l0.length : Int)) = true := decide_eq_true c3
    clear c3
    by_cases c4 : 0 ≤ x12_1
    ·rw [if_pos c4] at H
     have c4b0 : decide (0 ≤ x12_1) = true := decide_eq_true c4; clear c4
     by_cases c5 : x12_1 < (l0.length : Int)
     ·rw [if_pos c5] at H
      have c5b0 : decide (x12_1 < (l0.length : Int)) = true := decide_eq_true c5
      clear c5; replace H := Option.bind_eq_some_iff.mp H
      obtain ⟨⟨t127, t128⟩, A60, H⟩ := H
      replace H : (if t128 = 0 then (if t127 = true then (ineq_All.l0 k1 l1 l0 (l0.length : Int) (wrap64 (x12_1 + 1))) else (some (x12_1, t128))) else (some (x12_1, t128))) = some (r1, r2) := H
      have A6 := zK A60; clear A60
      by_cases c7 : t128 = 0
      ·rw [if_pos c7] at H
       have c7b0 : (t128 == 0) = true := beq_iff_eq.mpr c7
       have c7b1 : (t128 != 0) = false := bne_eq_false_iff_eq.mpr c7; clear c7
       by_cases c8 : t127 = true
       ·subst c8
        have H1 : (ineq_All.l0 k1 l1 l0 (l0.length : Int) (wrap64 (x12_1 + 1))) = some (r1, r2) := by rw [if_pos rfl] at H; exact H
        clear H; have H := H1; clear H1
        have H' := zK H; clear H
        have p125 : 0 ≤ (x12_1 : Int) := of_decide_eq_true (by first | (with_reducible assumption) | assumption)
        have q125 : x12_1 < (l0.length : Int) := of_decide_eq_true (by first | (with_reducible assumption) | assumption)
        obtain ⟨ad125, A125_1, c125_1, e125, hx125_0, hx125_1, hx125_2, hl125_1, hi125_1⟩ := at_T70 HR0.out x12_1 p125 q125
        cases e125
        replace hx125_0 := (HB.out.cell (World.block_lt_of_cell? w _ hx125_0)).trans hx125_0
        replace hx125_1 := (HB.out.cell (World.block_lt_of_cell? w _ hx125_1)).trans hx125_1
        replace hx125_2 := (HB.out.cell (World.block_lt_of_cell? w _ hx125_2)).trans hx125_2
        have HR125_1 := zK hi125_1
        have HC125_1 := zK hl125_1; clear hi125_1 hl125_1
        replace p125 := eq_true p125
        replace q125 := eq_true q125
        go_wp2_with (first | ((with_reducible refine gate_dst (N := 7) rfl ?_); refine box_event ?hg (N := 7) ?hd (cs := #[.int .i64 0, .slice none 0 0, .bool false]) (t := 70) ?hr ?_; (case hd => rfl); (case hg => rfl); (case hr => first | (go_simp; done) | (go_simp; rfl)); intro gb126 hg w9 hbox hb; have BK126 := zK (hbox); have GW126 := zK ((by rw [hg]; exact (below_size (zo HB)) : w.heap.size ≤ gb126)); have GE126 := zK ((by rw [hg]; exact (below_size (zo HB)) : w.heap.size ≤ gb126)); replace HB := zK (below_step (zo HB) hb); clear hb hbox hg; have hcz10_0 : w9.cell? ⟨gb126, 0, none⟩ = some (.int .i64 0) := (blk_cell BK126.out 0).trans rfl; have hcz10_1 : w9.cell? ⟨gb126, 1, none⟩ = some (.slice none 0 0) := (blk_cell BK126.out 1).trans rfl; have hcz10_2 : w9.cell? ⟨gb126, 2, none⟩ = some (.bool false) := (blk_cell BK126.out 2).trans rfl; have hfz10_0 := blk_frozen BK126.out 0; have hfz10_1 := blk_frozen BK126.out 1; have hfz10_2 := blk_frozen BK126.out 2) | ((with_reducible refine zC (f := 55) rfl ?_); refine goesL_ (some 20) rfl rfl Try.func55 (by kernel_rfl) rfl #[.agg #[.int .i64 ((rd_T70 l0 x12_1).f0.f0), .slice A125_1 ((rd_T70 l0 x12_1).f0.f1).length c125_1, .bool ((rd_T70 l0 x12_1).f1)], .slice A1 l1.length c1] rfl (by (try simp only [List.map_toArray, List.map_cons, List.map_nil]); first | done | rfl | (simp only [List.length_drop, List.length_take]; rfl)) ?_; (with_reducible refine (ineq_Holds.calls k1 ((rd_T70 l0 x12_1).f0.f0) _ _ ((rd_T70 l0 x12_1).f0.f1) ((rd_T70 l0 x12_1).f1) _ _ l1 true t128 _ ?side1 ?side2 ?side3 ?side4 A6.out).mono ?_); (case side1 => exact Kd.C_below HR125_1.out (zo HB)); (case side2 => exact HC125_1.out); (case side3 => exact Kd.C_below HR1.out (zo HB)); (case side4 => exact HC1.out); rintro e w11 ⟨rfl, hb⟩; refine ⟨_, rfl, ?_⟩; replace BK126 := zK (blk_below (g := gb126) (o := .cells #[.int .i64 ((rd_T70 l0 x12_1).f0.f0), .slice A125_1 ((rd_T70 l0 x12_1).f0.f1).length c125_1, .bool ((rd_T70 l0 x12_1).f1)] 70 (0, 0)) (by refine zM ?_; refine blk_put (cs := #[.int .i64 ((rd_T70 l0 x12_1).f0.f0), .slice A125_1 ((rd_T70 l0 x12_1).f0.f1).length c125_1, .bool false]) ?_ 2 _ rfl; refine zM ?_; refine blk_put (cs := #[.int .i64 ((rd_T70 l0 x12_1).f0.f0), .slice none 0 0, .bool false]) ?_ 1 _ rfl; refine zM ?_; refine blk_put (cs := #[.int .i64 0, .slice none 0 0, .bool false]) ?_ 0 _ rfl; refine zM ?_; exact BK126.out) hb); replace HB := zK (below_step (zo HB) hb); (try clear hb); (try clear hb2); (try clear hk); (try clear hi)))
        go_roundg k1
        case measure => have := HK1.out; omega
        case rel => exact ⟨(wrap64 (x12_1 + 1)), (by first | rfl | (simp; done) | (simp [*]; done)), H', ⟨by have := HK1.out; omega⟩, ⟨zo HB⟩⟩
       ·replace c8 := Bool.eq_false_iff.mpr c8
        subst c8
        have H1 : (some (x12_1, t128)) = some (r1, r2) := by rw [if_neg (show ¬ (false = true) by decide)] at H; exact H
        clear H; have H := H1; clear H1
        simp only [Option.some.injEq, Prod.mk.injEq] at H
        obtain ⟨rfl, rfl⟩ := H
        have p125 : 0 ≤ (x12_1 : Int) := of_decide_eq_true (by first | (with_reducible assumption) | assumption)
        have q125 : x12_1 < (l0.length : Int) := of_decide_eq_true (by first | (with_reducible assumption) | assumption)
        obtain ⟨ad125, A125_1, c125_1, e125, hx125_0, hx125_1, hx125_2, hl125_1, hi125_1⟩ := at_T70 HR0.out x12_1 p125 q125
        cases e125
        replace hx125_0 := (HB.out.cell (World.block_lt_of_cell? w _ hx125_0)).trans hx125_0
        replace hx125_1 := (HB.out.cell (World.block_lt_of_cell? w _ hx125_1)).trans hx125_1
        replace hx125_2 := (HB.out.cell (World.block_lt_of_cell? w _ hx125_2)).trans hx125_2
        have HR125_1 := zK hi125_1
        have HC125_1 := zK hl125_1; clear hi125_1 hl125_1
        replace p125 := eq_true p125
        replace q125 := eq_true q125
        go_wp2_with (first | ((with_reducible refine gate_dst (N := 7) rfl ?_); refine box_event ?hg (N := 7) ?hd (cs := #[.int .i64 0, .slice none 0 0, .bool false]) (t := 70) ?hr ?_; (case hd => rfl); (case hg => rfl); (case hr => first | (go_simp; done) | (go_simp; rfl)); intro gb126 hg w12 hbox hb; have BK126 := zK (hbox); have GW126 := zK ((by rw [hg]; exact (below_size (zo HB)) : w.heap.size ≤ gb126)); have GE126 := zK ((by rw [hg]; exact (below_size (zo HB)) : w.heap.size ≤ gb126)); replace HB := zK (below_step (zo HB) hb); clear hb hbox hg; have hcz13_0 : w12.cell? ⟨gb126, 0, none⟩ = some (.int .i64 0) := (blk_cell BK126.out 0).trans rfl; have hcz13_1 : w12.cell? ⟨gb126, 1, none⟩ = some (.slice none 0 0) := (blk_cell BK126.out 1).trans rfl; have hcz13_2 : w12.cell? ⟨gb126, 2, none⟩ = some (.bool false) := (blk_cell BK126.out 2).trans rfl; have hfz13_0 := blk_frozen BK126.out 0; have hfz13_1 := blk_frozen BK126.out 1; have hfz13_2 := blk_frozen BK126.out 2) | ((with_reducible refine zC (f := 55) rfl ?_); refine goesL_ (some 20) rfl rfl Try.func55 (by kernel_rfl) rfl #[.agg #[.int .i64 ((rd_T70 l0 x12_1).f0.f0), .slice A125_1 ((rd_T70 l0 x12_1).f0.f1).length c125_1, .bool ((rd_T70 l0 x12_1).f1)], .slice A1 l1.length c1] rfl (by (try simp only [List.map_toArray, List.map_cons, List.map_nil]); first | done | rfl | (simp only [List.length_drop, List.length_take]; rfl)) ?_; (with_reducible refine (ineq_Holds.calls k1 ((rd_T70 l0 x12_1).f0.f0) _ _ ((rd_T70 l0 x12_1).f0.f1) ((rd_T70 l0 x12_1).f1) _ _ l1 false t128 _ ?side1 ?side2 ?side3 ?side4 A6.out).mono ?_); (case side1 => exact Kd.C_below HR125_1.out (zo HB)); (case side2 => exact HC125_1.out); (case side3 => exact Kd.C_below HR1.out (zo HB)); (case side4 => exact HC1.out); rintro e w14 ⟨rfl, hb⟩; refine ⟨_, rfl, ?_⟩; replace BK126 := zK (blk_below (g := gb126) (o := .cells #[.int .i64 ((rd_T70 l0 x12_1).f0.f0), .slice A125_1 ((rd_T70 l0 x12_1).f0.f1).length c125_1, .bool ((rd_T70 l0 x12_1).f1)] 70 (0, 0)) (by refine zM ?_; refine blk_put (cs := #[.int .i64 ((rd_T70 l0 x12_1).f0.f0), .slice A125_1 ((rd_T70 l0 x12_1).f0.f1).length c125_1, .bool false]) ?_ 2 _ rfl; refine zM ?_; refine blk_put (cs := #[.int .i64 ((rd_T70 l0 x12_1).f0.f0), .slice none 0 0, .bool false]) ?_ 1 _ rfl; refine zM ?_; refine blk_put (cs := #[.int .i64 0, .slice none 0 0, .bool false]) ?_ 0 _ rfl; refine zM ?_; exact BK126.out) hb); replace HB := zK (below_step (zo HB) hb); (try clear hb); (try clear hb2); (try clear hk); (try clear hi)))
        go_ret2
        exact ⟨by first | rfl | (simp [errW_none, errW_some] <;> rfl) | (simp [*, errW_none, errW_some] <;> rfl), zo HB⟩
      ·rw [if_neg c7] at H
       have c7b0 : (t128 == 0) = false := beq_eq_false_iff_ne.mpr c7
       have c7b1 : (t128 != 0) = true := bne_iff_ne.mpr c7
       simp only [Option.some.injEq, Prod.mk.injEq] at H
       obtain ⟨rfl, rfl⟩ := H
       have p125 : 0 ≤ (x12_1 : Int) := of_decide_eq_true (by first | (with_reducible assumption) | assumption)
       have q125 : x12_1 < (l0.length : Int) := of_decide_eq_true (by first | (with_reducible assumption) | assumption)
       obtain ⟨ad125, A125_1, c125_1, e125, hx125_0, hx125_1, hx125_2, hl125_1, hi125_1⟩ := at_T70 HR0.out x12_1 p125 q125
       cases e125
       replace hx125_0 := (HB.out.cell (World.block_lt_of_cell? w _ hx125_0)).trans hx125_0
       replace hx125_1 := (HB.out.cell (World.block_lt_of_cell? w _ hx125_1)).trans hx125_1
       replace hx125_2 := (HB.out.cell (World.block_lt_of_cell? w _ hx125_2)).trans hx125_2
       have HR125_1 := zK hi125_1
       have HC125_1 := zK hl125_1; clear hi125_1 hl125_1
       replace p125 := eq_true p125
       replace q125 := eq_true q125
       go_wp2_with (first | ((with_reducible refine gate_dst (N := 7) rfl ?_); refine box_event ?hg (N := 7) ?hd (cs := #[.int .i64 0, .slice none 0 0, .bool false]) (t := 70) ?hr ?_; (case hd => rfl); (case hg => rfl); (case hr => first | (go_simp; done) | (go_simp; rfl)); intro gb126 hg w15 hbox hb; have BK126 := zK (hbox); have GW126 := zK ((by rw [hg]; exact (below_size (zo HB)) : w.heap.size ≤ gb126)); have GE126 := zK ((by rw [hg]; exact (below_size (zo HB)) : w.heap.size ≤ gb126)); replace HB := zK (below_step (zo HB) hb); clear hb hbox hg; have hcz16_0 : w15.cell? ⟨gb126, 0, none⟩ = some (.int .i64 0) := (blk_cell BK126.out 0).trans rfl; have hcz16_1 : w15.cell? ⟨gb126, 1, none⟩ = some (.slice none 0 0) := (blk_cell BK126.out 1).trans rfl; have hcz16_2 : w15.cell? ⟨gb126, 2, none⟩ = some (.bool false) := (blk_cell BK126.out 2).trans rfl; have hfz16_0 := blk_frozen BK126.out 0; have hfz16_1 := blk_frozen BK126.out 1; have hfz16_2 := blk_frozen BK126.out 2) | ((with_reducible refine zC (f := 55) rfl ?_); refine goesL_ (some 20) rfl rfl Try.func55 (by kernel_rfl) rfl #[.agg #[.int .i64 ((rd_T70 l0 x12_1).f0.f0), .slice A125_1 ((rd_T70 l0 x12_1).f0.f1).length c125_1, .bool ((rd_T70 l0 x12_1).f1)], .slice A1 l1.length c1] rfl (by (try simp only [List.map_toArray, List.map_cons, List.map_nil]); first | done | rfl | (simp only [List.length_drop, List.length_take]; rfl)) ?_; (with_reducible refine (ineq_Holds.calls k1 ((rd_T70 l0 x12_1).f0.f0) _ _ ((rd_T70 l0 x12_1).f0.f1) ((rd_T70 l0 x12_1).f1) _ _ l1 t127 t128 _ ?side1 ?side2 ?side3 ?side4 A6.out).mono ?_); (case side1 => exact Kd.C_below HR125_1.out (zo HB)); (case side2 => exact HC125_1.out); (case side3 => exact Kd.C_below HR1.out (zo HB)); (case side4 => exact HC1.out); rintro e w17 ⟨rfl, hb⟩; refine ⟨_, rfl, ?_⟩; replace BK126 := zK (blk_below (g := gb126) (o := .cells #[.int .i64 ((rd_T70 l0 x12_1).f0.f0), .slice A125_1 ((rd_T70 l0 x12_1).f0.f1).length c125_1, .bool ((rd_T70 l0 x12_1).f1)] 70 (0, 0)) (by refine zM ?_; refine blk_put (cs := #[.int .i64 ((rd_T70 l0 x12_1).f0.f0), .slice A125_1 ((rd_T70 l0 x12_1).f0.f1).length c125_1, .bool false]) ?_ 2 _ rfl; refine zM ?_; refine blk_put (cs := #[.int .i64 ((rd_T70 l0 x12_1).f0.f0), .slice none 0 0, .bool false]) ?_ 1 _ rfl; refine zM ?_; refine blk_put (cs := #[.int .i64 0, .slice none 0 0, .bool false]) ?_ 0 _ rfl; refine zM ?_; exact BK126.out) hb); replace HB := zK (below_step (zo HB) hb); (try clear hb); (try clear hb2); (try clear hk); (try clear hi)))
       go_ret2
       exact ⟨by first | rfl | (simp [errW_none, errW_some] <;> rfl) | (simp [*, errW_none, errW_some] <;> rfl), zo HB⟩
     ·rw [if_neg c5] at H
      exact absurd H (by simp)
    ·rw [if_neg c4] at H
     exact absurd H (by simp)
   ·rw [if_neg c3] at H
    have c3b0 : decide (x12_1 < (l0.length : Int)) = false := decide_eq_false c3
    clear c3
    simp only [Option.some.injEq, Prod.mk.injEq] at H
    obtain ⟨rfl, rfl⟩ := H
    go_wp2
    go_ret2
    exact ⟨by first | rfl | (simp [errW_none, errW_some] <;> rfl) | (simp [*, errW_none, errW_some] <;> rfl), zo HB⟩

/-! ### box_size: function 54 -/
mutual
def box_size.l0 : Nat → List Int → List Int → Int → Int → Option (Int × Int)
 | 0, _, _, _, _ => none
 | k + 1, x0, x1, x16, x17 => if x17 < x16 then (if 0 ≤ x17 then (if x17 < (x0.length : Int) then (if x17 < (x1.length : Int) then (if (rd x0 x17) > (rd x1 x17) then (some (0, 1)) else (box_size.l0 k x0 x1 x16 (wrap64 (x17 + 1)))) else (none)) else (none)) else (none)) else (box_size.l1 k x0 x1 1 (x0.length : Int) 0)
def box_size.l1 : Nat → List Int → List Int → Int → Int → Int → Option (Int × Int)
 | 0, _, _, _, _, _ => none
 | k + 1, x0, x1, x7, x31, x32 => if x32 < x31 then (if 0 ≤ x32 then (if x32 < (x1.length : Int) then (if x32 < (x0.length : Int) then (if (IntKind.u64.wrap ((IntKind.u64.wrap (rd x1 x32)) - (IntKind.u64.wrap (rd x0 x32)))) ≥ 65536 then (some (0, 2)) else (if (IntKind.u64.wrap (x7 * (IntKind.u64.wrap ((IntKind.u64.wrap ((IntKind.u64.wrap (rd x1 x32)) - (IntKind.u64.wrap (rd x0 x32)))) + 1)))) > 65536 then (some (0, 2)) else (box_size.l1 k x0 x1 (IntKind.u64.wrap (x7 * (IntKind.u64.wrap ((IntKind.u64.wrap ((IntKind.u64.wrap (rd x1 x32)) - (IntKind.u64.wrap (rd x0 x32)))) + 1)))) x31 (wrap64 (x32 + 1))))) else (none)) else (none)) else (none)) else (some (wrap64 (x7), 0))
end
def box_size.f (k : Nat) (l0 : List Int) (l1 : List Int) : Option (Int × Int) := if (l0.length : Int) = (l1.length : Int) then (box_size.l0 k l0 l1 (l0.length : Int) 0) else (some (0, 1))
theorem box_size.mono_l : ∀ k, (∀ y0 y1 y2 y3, LeO (box_size.l0 k y0 y1 y2 y3) (box_size.l0 (k + 1) y0 y1 y2 y3)) ∧ (∀ y0 y1 y2 y3 y4, LeO (box_size.l1 k y0 y1 y2 y3 y4) (box_size.l1 (k + 1) y0 y1 y2 y3 y4))
 | 0 => ⟨fun _ _ _ _ r h => by simp [box_size.l0] at h, fun _ _ _ _ _ r h => by simp [box_size.l1] at h⟩
 | k + 1 => by
  obtain ⟨ih0, ih1⟩ := box_size.mono_l k
  refine ⟨?_, ?_⟩
  ·intro y0 y1 y2 y3
   unfold box_size.l0
   repeat' first
   | (with_reducible exact ih0 _ _ _ _)
   | (with_reducible exact ih1 _ _ _ _ _)
   | (with_reducible exact LeO.refl _)
   | (with_reducible exact LeO.none _)
   | (with_reducible refine LeO.ite ?_ ?_)
   | (with_reducible refine LeO.bind ?_ (fun _ => ?_))
   | exact ih0 _ _ _ _
   | exact ih1 _ _ _ _ _
   | exact LeO.none _
   | refine LeO.ite ?_ ?_
   | refine LeO.bind ?_ (fun _ => ?_)
  ·intro y0 y1 y2 y3 y4
   unfold box_size.l1
   repeat' first
   | (with_reducible exact ih0 _ _ _ _)
   | (with_reducible exact ih1 _ _ _ _ _)
   | (with_reducible exact LeO.refl _)
   | (with_reducible exact LeO.none _)
   | (with_reducible refine LeO.ite ?_ ?_)
   | (with_reducible refine LeO.bind ?_ (fun _ => ?_))
   | exact ih0 _ _ _ _
   | exact ih1 _ _ _ _ _
   | exact LeO.none _
   | refine LeO.ite ?_ ?_
   | refine LeO.bind ?_ (fun _ => ?_)
theorem box_size.mono : ∀ a0 a1 k, LeO (box_size.f k a0 a1) (box_size.f (k + 1) a0 a1) := by
 intro a0 a1 k
 obtain ⟨ih0, ih1⟩ := box_size.mono_l k
 unfold box_size.f
 repeat' first
   | (with_reducible exact ih0 _ _ _ _)
   | (with_reducible exact ih1 _ _ _ _ _)
   | (with_reducible exact LeO.refl _)
   | (with_reducible exact LeO.none _)
   | (with_reducible refine LeO.ite ?_ ?_)
   | (with_reducible refine LeO.bind ?_ (fun _ => ?_))
   | exact ih0 _ _ _ _
   | exact ih1 _ _ _ _ _
   | exact LeO.none _
   | refine LeO.ite ?_ ?_
   | refine LeO.bind ?_ (fun _ => ?_)
set_option maxHeartbeats 8000000 in
set_option maxRecDepth 100000 in
theorem box_size.calls (k : Nat) (A0 : Option Addr) (c0 : Nat) (l0 : List Int) (A1 : Option Addr) (c1 : Nat) (l1 : List Int) (r1 : Int) (r2 : Int) (w : World) (hr0 : Kd.C (Kd.int .i64) w A0 l0.length l0) (hc0 : l0.length ≤ c0) (hr1 : Kd.C (Kd.int .i64) w A1 l1.length l1) (hc1 : l1.length ≤ c1) (h : box_size.f k l0 l1 = some (r1, r2)) :
  Calls Try.prog 54 #[.slice A0 l0.length c0, .slice A1 l1.length c1] w fun e w' => e = .returned (.tuple #[.int .i64 r1, .int .i64 r2]) ∧ Drawn0 w w' := by
 have HR0 := zK hr0
 have HC0 := zK hc0; clear hr0 hc0
 have HR1 := zK hr1
 have HC1 := zK hc1; clear hr1 hc1
 have H : (if (l0.length : Int) = (l1.length : Int) then (box_size.l0 k l0 l1 (l0.length : Int) 0) else (some (0, 1))) = some (r1, r2) := h
 clear h
 by_cases c3 : (l0.length : Int) = (l1.length : Int)
 ·rw [if_pos c3] at H
  have c3b0 : ((l0.length : Int) == (l1.length : Int)) = true := beq_iff_eq.mpr c3
  have c3b1 : ((l0.length : Int) != (l1.length : Int)) = false := bne_eq_false_iff_eq.mpr c3
  have c3b2 : (l0.length == l1.length) = true := by first | simpa using c3 | (simp at c3 ⊢; omega)
  clear c3
  have H' := zK H; clear H
  go_enter Try.func54, Try.ntmps54
  go_wp2
  repeat (go_quiet (fail); try go_wp2)
  go_loopg [17] k (fun kq v17 w' => ∃ (x17_1 : Int), v17 = .int .i64 x17_1 ∧ Aside0 (box_size.l0 kq l0 l1 (l0.length : Int) x17_1 = some (r1, r2)) ∧ Aside0 (kq ≤ k) ∧ Drawn0 w w')
  case atStart => exact ⟨(0), (by first | rfl | (simp; done) | (simp [*]; done)), H', ⟨Nat.le_refl _⟩, by repeat (first | exact Drawn0.refl _ | apply Drawn0.step)⟩
  case round =>
   clear H'; try clear c1; try clear p2; try clear c3; try clear c3b0; try clear c3b1; try clear c3b2
   obtain ⟨x17_1, rfl, HA, HK1, ⟨m1, rfl⟩⟩ := hrel
   cases gk with
   | zero => exact absurd HA.out (by simp [box_size.l0])
   | succ k1 =>
    have H := HA.out; clear HA
    simp only [box_size.l0] at H
    by_cases c4 : x17_1 < (l0.length : Int)
    ·rw [if_pos c4] at H
     have c4b0 : decide (x17_1 < (l0.length : Int)) = true := decide_eq_true c4
     clear c4
     by_cases c5 : 0 ≤ x17_1
     ·rw [if_pos c5] at H
      have c5b0 : decide (0 ≤ x17_1) = true := decide_eq_true c5; clear c5
      by_cases c6 : x17_1 < (l0.length : Int)
      ·rw [if_pos c6] at H
       have c6b0 : decide (x17_1 < (l0.length : Int)) = true := decide_eq_true c6
       clear c6
       by_cases c7 : x17_1 < (l1.length : Int)
       ·rw [if_pos c7] at H
        have c7b0 : decide (x17_1 < (l1.length : Int)) = true := decide_eq_true c7
        clear c7
        by_cases c8 : (rd l0 x17_1) > (rd l1 x17_1)
        ·rw [if_pos c8] at H
         have c8b0 : decide ((rd l1 x17_1) < (rd l0 x17_1)) = true := decide_eq_true c8
         clear c8
         simp only [Option.some.injEq, Prod.mk.injEq] at H
         obtain ⟨rfl, rfl⟩ := H
         have p129 : 0 ≤ (x17_1 : Int) := of_decide_eq_true (by first | (with_reducible assumption) | assumption)
         have q129 : x17_1 < (l0.length : Int) := of_decide_eq_true (by first | (with_reducible assumption) | assumption)
         obtain ⟨ad129, e129, hx129_0⟩ := Kd.at_int HR0.out x17_1 p129 q129
         cases e129
         replace p129 := eq_true p129
         replace q129 := eq_true q129
         have p130 : 0 ≤ (x17_1 : Int) := of_decide_eq_true (by first | (with_reducible assumption) | assumption)
         have q130 : x17_1 < (l1.length : Int) := of_decide_eq_true (by first | (with_reducible assumption) | assumption)
         obtain ⟨ad130, e130, hx130_0⟩ := Kd.at_int HR1.out x17_1 p130 q130
         cases e130
         replace p130 := eq_true p130
         replace q130 := eq_true q130
         go_wp2
         repeat (go_quiet (fail); try go_wp2)
         go_ret2
         exact ⟨by first | rfl | (simp; done) | (simp [*]; done), by repeat (first | exact Drawn0.refl _ | apply Drawn0.step)⟩
        ·rw [if_neg c8] at H
         have c8b0 : decide ((rd l1 x17_1) < (rd l0 x17_1)) = false := decide_eq_false c8
         clear c8
         have H' := zK H; clear H
         have p129 : 0 ≤ (x17_1 : Int) := of_decide_eq_true (by first | (with_reducible assumption) | assumption)
         have q129 : x17_1 < (l0.length : Int) := of_decide_eq_true (by first | (with_reducible assumption) | assumption)
         obtain ⟨ad129, e129, hx129_0⟩ := Kd.at_int HR0.out x17_1 p129 q129
         cases e129
         replace p129 := eq_true p129
         replace q129 := eq_true q129
         have p130 : 0 ≤ (x17_1 : Int) := of_decide_eq_true (by first | (with_reducible assumption) | assumption)
         have q130 : x17_1 < (l1.length : Int) := of_decide_eq_true (by first | (with_reducible assumption) | assumption)
         obtain ⟨ad130, e130, hx130_0⟩ := Kd.at_int HR1.out x17_1 p130 q130
         cases e130
         replace p130 := eq_true p130
         replace q130 := eq_true q130
         go_wp2
         repeat (go_quiet (fail); try go_wp2)
         go_roundg k1
         case measure => have := HK1.out; omega
         case rel => exact ⟨(wrap64 (x17_1 + 1)), (by first | rfl | (simp; done) | (simp [*]; done)), H', ⟨by have := HK1.out; omega⟩, by repeat (first | exact Drawn0.refl _ | apply Drawn0.step)⟩
       ·rw [if_neg c7] at H
        exact absurd H (by simp)
      ·rw [if_neg c6] at H
       exact absurd H (by simp)
     ·rw [if_neg c5] at H
      exact absurd H (by simp)
    ·rw [if_neg c4] at H
     have c4b0 : decide (x17_1 < (l0.length : Int)) = false := decide_eq_false c4
     clear c4
     have H' := zK H; clear H
     go_wp2
     repeat (go_quiet (fail); try go_wp2)
     go_loopg [7, 32] k1 (fun kq v7 v32 w' => ∃ (x7_2 : Int) (x32_2 : Int), v7 = .int .u64 x7_2 ∧ v32 = .int .i64 x32_2 ∧ Aside0 (box_size.l1 kq l0 l1 x7_2 (l0.length : Int) x32_2 = some (r1, r2)) ∧ Aside0 (kq ≤ k1) ∧ Drawn0 w w')
     case atStart => exact ⟨(1), (0), (by first | rfl | (simp; done) | (simp [*]; done)), (by first | rfl | (simp; done) | (simp [*]; done)), H', ⟨Nat.le_refl _⟩, by repeat (first | exact Drawn0.refl _ | apply Drawn0.step)⟩
     case round =>
      clear H'; try clear c1; try clear p1; try clear q1
      try clear hx1; try clear p2; try clear c3; try clear c3b0
      try clear c3b1; try clear c3b2; try clear c4; try clear c4b0
      try clear c5; try clear c5b0; try clear c6; try clear c6b0
      try clear p6; try clear c7; try clear c7b0; try clear c8
      try clear c8b0; try clear hx129_0; try clear hx130_0; try clear p129
      try clear p130; try clear p2; try clear q129; try clear q130
      obtain ⟨x7_2, x32_2, rfl, rfl, HA, HK2, ⟨m2, rfl⟩⟩ := hrel
      cases gk with
      | zero => exact absurd HA.out (by simp [box_size.l1])
      | succ k2 =>
       have H := HA.out; clear HA
       simp only [box_size.l1] at H
       by_cases c9 : x32_2 < (l0.length : Int)
       ·rw [if_pos c9] at H
        have c9b0 : decide (x32_2 < (l0.length : Int)) = true := decide_eq_true c9
        clear c9
        by_cases c10 : 0 ≤ x32_2
        ·rw [if_pos c10] at H
         have c10b0 : decide (0 ≤ x32_2) = true := decide_eq_true c10; clear c10
         by_cases c11 : x32_2 < (l1.length : Int)
         ·rw [if_pos c11] at H
          have c11b0 : decide (x32_2 < (l1.length : Int)) = true := decide_eq_true c11
          clear c11
          by_cases c12 : x32_2 < (l0.length : Int)
          ·rw [if_pos c12] at H
           have c12b0 : decide (x32_2 < (l0.length : Int)) = true := decide_eq_true c12
           clear c12
           by_cases c13 : (IntKind.u64.wrap ((IntKind.u64.wrap (rd l1 x32_2)) - (IntKind.u64.wrap (rd l0 x32_2)))) ≥ 65536
           ·rw [if_pos c13] at H
            have c13b0 : decide (65536 ≤ (IntKind.u64.wrap ((IntKind.u64.wrap (rd l1 x32_2)) - (IntKind.u64.wrap (rd l0 x32_2))))) = true := decide_eq_true c13
            clear c13
            simp only [Option.some.injEq, Prod.mk.injEq] at H
            obtain ⟨rfl, rfl⟩ := H
            have p131 : 0 ≤ (x32_2 : Int) := of_decide_eq_true (by first | (with_reducible assumption) | assumption)
            have q131 : x32_2 < (l1.length : Int) := of_decide_eq_true (by first | (with_reducible assumption) | assumption)
            obtain ⟨ad131, e131, hx131_0⟩ := Kd.at_int HR1.out x32_2 p131 q131
            cases e131
            replace p131 := eq_true p131
            replace q131 := eq_true q131
            have p132 : 0 ≤ (x32_2 : Int) := of_decide_eq_true (by first | (with_reducible assumption) | assumption)
            have q132 : x32_2 < (l0.length : Int) := of_decide_eq_true (by first | (with_reducible assumption) | assumption)
            obtain ⟨ad132, e132, hx132_0⟩ := Kd.at_int HR0.out x32_2 p132 q132
            cases e132
            replace p132 := eq_true p132
            replace q132 := eq_true q132
            go_wp2
            repeat (go_quiet (fail); try go_wp2)
            go_ret2
            exact ⟨by first | rfl | (simp; done) | (simp [*]; done), by repeat (first | exact Drawn0.refl _ | apply Drawn0.step)⟩
           ·rw [if_neg c13] at H
            have c13b0 : decide (65536 ≤ (IntKind.u64.wrap ((IntKind.u64.wrap (rd l1 x32_2)) - (IntKind.u64.wrap (rd l0 x32_2))))) = false := decide_eq_false c13
            clear c13
            by_cases c14 : (IntKind.u64.wrap (x7_2 * (IntKind.u64.wrap ((IntKind.u64.wrap ((IntKind.u64.wrap (rd l1 x32_2)) - (IntKind.u64.wrap (rd l0 x32_2)))) + 1)))) > 65536
            ·rw [if_pos c14] at H
             have c14b0 : decide (65536 < (IntKind.u64.wrap (x7_2 * (IntKind.u64.wrap ((IntKind.u64.wrap ((IntKind.u64.wrap (rd l1 x32_2)) - (IntKind.u64.wrap (rd l0 x32_2)))) + 1))))) = true := decide_eq_true c14
             clear c14
             simp only [Option.some.injEq, Prod.mk.injEq] at H
             obtain ⟨rfl, rfl⟩ := H
             have p131 : 0 ≤ (x32_2 : Int) := of_decide_eq_true (by first | (with_reducible assumption) | assumption)
             have q131 : x32_2 < (l1.length : Int) := of_decide_eq_true (by first | (with_reducible assumption) | assumption)
             obtain ⟨ad131, e131, hx131_0⟩ := Kd.at_int HR1.out x32_2 p131 q131
             cases e131
             replace p131 := eq_true p131
             replace q131 := eq_true q131
             have p132 : 0 ≤ (x32_2 : Int) := of_decide_eq_true (by first | (with_reducible assumption) | assumption)
             have q132 : x32_2 < (l0.length : Int) := of_decide_eq_true (by first | (with_reducible assumption) | assumption)
             obtain ⟨ad132, e132, hx132_0⟩ := Kd.at_int HR0.out x32_2 p132 q132
             cases e132
             replace p132 := eq_true p132
             replace q132 := eq_true q132
             go_wp2
             repeat (go_quiet (fail); try go_wp2)
             go_ret2
             exact ⟨by first | rfl | (simp; done) | (simp [*]; done), by repeat (first | exact Drawn0.refl _ | apply Drawn0.step)⟩
            ·rw [if_neg c14] at H
             have c14b0 : decide (65536 < (IntKind.u64.wrap (x7_2 * (IntKind.u64.wrap ((IntKind.u64.wrap ((IntKind.u64.wrap (rd l1 x32_2)) - (IntKind.u64.wrap (rd l0 x32_2)))) + 1))))) = false := decide_eq_false c14
             clear c14
             have H' := zK H; clear H
             have p131 : 0 ≤ (x32_2 : Int) := of_decide_eq_true (by first | (with_reducible assumption) | assumption)
             have q131 : x32_2 < (l1.length : Int) := of_decide_eq_true (by first | (with_reducible assumption) | assumption)
             obtain ⟨ad131, e131, hx131_0⟩ := Kd.at_int HR1.out x32_2 p131 q131
             cases e131
             replace p131 := eq_true p131
             replace q131 := eq_true q131
             have p132 : 0 ≤ (x32_2 : Int) := of_decide_eq_true (by first | (with_reducible assumption) | assumption)
             have q132 : x32_2 < (l0.length : Int) := of_decide_eq_true (by first | (with_reducible assumption) | assumption)
             obtain ⟨ad132, e132, hx132_0⟩ := Kd.at_int HR0.out x32_2 p132 q132
             cases e132
             replace p132 := eq_true p132
             replace q132 := eq_true q132
             go_wp2
             repeat (go_quiet (fail); try go_wp2)
             go_roundg k2
             case measure => have := HK1.out; have := HK2.out; omega
             case rel => exact ⟨(IntKind.u64.wrap (x7_2 * (IntKind.u64.wrap ((IntKind.u64.wrap ((IntKind.u64.wrap (rd l1 x32_2)) - (IntKind.u64.wrap (rd l0 x32_2)))) + 1)))), (wrap64 (x32_2 + 1)), (by first | rfl | (simp; done) | (simp [*]; done)), (by first | rfl | (simp; done) | (simp [*]; done)), H', ⟨by have := HK1.out; have := HK2.out; omega⟩, by repeat (first | exact Drawn0.refl _ | apply Drawn0.step)⟩
          ·rw [if_neg c12] at H
           exact absurd H (by simp)
         ·rw [if_neg c11] at H
          exact absurd H (by simp)
        ·rw [if_neg c10] at H
         exact absurd H (by simp)
       ·rw [if_neg c9] at H
        have c9b0 : decide (x32_2 < (l0.length : Int)) = false := decide_eq_false c9
        clear c9
        simp only [Option.some.injEq, Prod.mk.injEq] at H
        obtain ⟨rfl, rfl⟩ := H
        go_wp2
        repeat (go_quiet (fail); try go_wp2)
        go_ret2
        exact ⟨by first | rfl | (simp; done) | (simp [*]; done), by repeat (first | exact Drawn0.refl _ | apply Drawn0.step)⟩
 ·rw [if_neg c3] at H
  have c3b0 : ((l0.length : Int) == (l1.length : Int)) = false := beq_eq_false_iff_ne.mpr c3
  have c3b1 : ((l0.length : Int) != (l1.length : Int)) = true := bne_iff_ne.mpr c3
  have c3b2 : (l0.length == l1.length) = false := by first | simpa using c3 | (simp at c3 ⊢; omega)
  simp only [Option.some.injEq, Prod.mk.injEq] at H
  obtain ⟨rfl, rfl⟩ := H
  go_enter Try.func54, Try.ntmps54
  go_wp2
  repeat (go_quiet (fail); try go_wp2)
  go_ret2
  exact ⟨by first | rfl | (simp; done) | (simp [*]; done), by repeat (first | exact Drawn0.refl _ | apply Drawn0.step)⟩

end Go.Proofs.Ytkfbfgkdabljiaa.PBoxWithin
