/- What the call of each function that the law reaches comes to: it answers as the plain function of the same name does, wherever that one answers; and the law itself out of its plain form. Written by a program of this session (an extended copy of the printer); no condition but what stands in each theorem. -/
import Derived.Test.YtmedciidghmkkaaPIneqSoundx0
import Derived.Test.YtmedciidghmkkaaPIneqSoundx1
import Derived.Test.YtmedciidghmkkaaPIneqSoundx2
import Derived.Test.YtmedciidghmkkaaPIneqSoundx4
import Derived.Test.YtmedciidghmkkaaPIneqSoundx6
namespace Go.Proofs.Ytmedciidghmkkaa.PIneqSound
open Go.RowKit Go.Proofs.YtmedciidghmkkaaW.PrintWords Go.Proofs.YtmedciidghmkkaaW.PrintLast Go.Proofs.YtmedciidghmkkaaW.PrintMore
open Go.Proofs.YtmedciidghmkkaaW.PrintWords renaming blk_drewN → zN, blk_drew → zD, blk_alloc → zA, below_alloc → yA, pw_below_drewN → yN, below_drew1 → yD, below_set → yS, gate_callee → zC, gate_guard → zG
open Go.Proofs.YtmedciidghmkkaaW.PrintWords.Kd renaming C_alloc → cA, C_drewN → cN, C_drew → cD
open Go.Proofs.YtmedciidghmkkaaW.PrintWords.Aside0 renaming mk → zK
attribute [local go_sem] max2_int min2_int max_two min_two max_three min_three max_four min_four   -- for this text's walks alone
set_option linter.unusedVariables false
set_option linter.unusedSimpArgs false

/-! ### lin_Eval: function 35, by hand -/
theorem lit_event {P : Program} {ops : Array Oper} {Q : Exit → Act → World → Prop} {rest : List Oper} {o : Oper} {a : Act} {W : World} (hgd : o.guard = none) {N : Tmp} (_hd : o.dst = some N) {cs : Array Value} {t : TypeId} {n : Nat}
  (hrun : (execOp a.eval o).run P W = .ok (.value (.slice (some ⟨W.heap.size, 0, none⟩) n n)) (W.alloc (.cells cs t (0, 0))))
  (h : ∀ g, g = W.heap.size → ∀ w1, w1.heap[g]? = some (.cells cs t (0, 0)) → Below W.heap.size W w1 → wpList P ops Q rest (a.put o.dst (.slice (some ⟨g, 0, none⟩) n n)) w1) : wpList P ops Q (o :: rest) a W :=
 Kd.event_run hgd hrun (h _ rfl _ (blk_new W _) (yA (Below.refl _ _) _))
theorem C_oneLin {w : World} {g : Nat} {K : Int} {L : List S47} {A : Option Addr} {c : Nat} (hb : w.heap[g]? = some (.cells #[.int .i64 K, .slice A L.length c] 28 (0, 0))) (hL : Kd.C k47 w A L.length L) (hc : L.length ≤ c) : Kd.C k28 w (some ⟨g, 0, none⟩) 1 [⟨K, L⟩] := by
 refine ⟨rfl, by decide, fun _ => ⟨⟨g, 0, none⟩, rfl, fun j p hj => ?_⟩⟩
 cases j with
 | succ j => simp at hj
 | zero =>
  simp at hj
  subst hj
  refine ⟨[.int .i64 K, .slice A L.length c], rfl, k28_mk w ⟨K, L⟩ hc hL, fun i u hu => ?_⟩
  have := blk_cell hb i
  have e_ : (⟨g, 0, none⟩ : Addr).add (0 * k28.sz + i) = ⟨g, i, none⟩ := by cases i <;> simp [Addr.add]
  rw [e_, this]
  simpa using hu
/-- What a form comes to by numbers; a variable without a number is 0. -/
def evalStep (x : List Int) (s : Int) (m : S47) : Int := if m.f0 < (x.length : Int) then s + m.f1 * rd x m.f0 else s
def evalSum (K : Int) (L : List S47) (x : List Int) : Int := L.foldl (evalStep x) (0 + K * 1)
def evalOk (x : List Int) (m : S47) : Bool := decide (0 ≤ m.f0) && (decide ((x.length : Int) ≤ m.f0) || (in64 m.f1 && in64 (rd x m.f0)))
def lin_Eval.f (k : Nat) (a0_0 : Int) (l0_1 : List S47) (l1 : List Int) : Option (Int × Int) :=
 (lin_right.f k [⟨a0_0, l0_1⟩]).bind fun t => if t = true then (if (in64 a0_0 && l0_1.all (evalOk l1)) = true then some (if (fit192 (evalSum a0_0 l0_1 l1)).2 = true then ((fit192 (evalSum a0_0 l0_1 l1)).1, 0) else (0, 5)) else none) else some (0, 1)
theorem lin_Eval.mono : ∀ a0 a1 a2 k, LeO (lin_Eval.f k a0 a1 a2) (lin_Eval.f (k + 1) a0 a1 a2) := by
 intro a0 a1 a2 k
 unfold lin_Eval.f
 exact LeO.bind (lin_right.mono _ _) (fun _ => LeO.refl _)
set_option maxHeartbeats 8000000 in
set_option maxRecDepth 100000 in
theorem eval_walk (k : Nat) (a0 : Int) (A0 : Option Addr) (c0 : Nat) (l0 : List (S47)) (A1 : Option Addr) (c1 : Nat) (l1 : List Int) (w : World) (hr0 : Kd.C k47 w A0 l0.length l0) (hc0 : l0.length ≤ c0) (hr1 : Kd.C (Kd.int .i64) w A1 l1.length l1)
  (ht : lin_right.f k [⟨a0, l0⟩] = some true) (hga : in64 a0 = true) (hgl : l0.all (evalOk l1) = true) (r1 r2 : Int) (hr : (if (fit192 (evalSum a0 l0 l1)).2 = true then ((fit192 (evalSum a0 l0 l1)).1, (0 : Int)) else (0, 5)) = (r1, r2)) :
  Calls Try.prog 35 #[.agg #[.int .i64 a0, .slice A0 l0.length c0], .slice A1 l1.length c1] w fun e w' => e = .returned (.tuple #[.int .i64 r1, .int .i64 r2]) ∧ Below w.heap.size w w' := by
 have hu28 := Try.underlying28
 have hu47 := Try.underlying47
 have HR0 := zK hr0
 have HC0 := zK hc0
 have HR1 := zK hr1
 have HT := zK ht
 have HGA := zK hga
 have HGL := zK hgl
 obtain ⟨N0, hN0⟩ : ∃ N0, N0 = (fit192 (evalSum a0 l0 l1)).1 := ⟨_, rfl⟩
 obtain ⟨D0, hD0⟩ : ∃ D0, D0 = (fit192 (evalSum a0 l0 l1)).2 := ⟨_, rfl⟩
 rw [← hN0, ← hD0] at hr
 have HR := zK hr
 have HN0 := zK hN0
 have HD0 := zK hD0
 clear hr0 hc0 hr1 ht hga hgl hr hN0 hD0
 go_enter Try.func35, Try.ntmps35
 go_wp2_with (first
  | ((with_reducible refine gate_dst (N := 2) rfl ?_); refine box_event ?hg (N := 2) ?hd (cs := #[.int .i64 a0, .slice A0 l0.length c0]) (t := 28) ?hr ?_; (case hd => rfl); (case hg => rfl); (case hr => first | (go_simp; done) | (go_simp; rfl)); intro gL hg_ w1 hbox_ hb_; have EL := zK hg_; have BL0 := zK hbox_; have HB1 := zK hb_; clear hg_ hbox_ hb_; have hl0 : w1.cell? ⟨gL, 0, none⟩ = some (.int .i64 a0) := (blk_cell BL0.out 0).trans rfl; have hl1 : w1.cell? ⟨gL, 1, none⟩ = some (.slice A0 l0.length c0) := (blk_cell BL0.out 1).trans rfl)
  | ((with_reducible refine gate_dst (N := 12) rfl ?_); refine lit_event ?hg (N := 12) ?hd (cs := #[.int .i64 a0, .slice A0 l0.length c0]) (t := 28) (n := 1) ?hr ?_; (case hd => rfl); (case hg => rfl); (case hr => first | (go_simp; done) | (go_simp; rfl)); intro gT hg_ w2 hbox_ hb_; have ET := zK hg_; have BT := zK hbox_; have HB2 := zK hb_; clear hg_ hbox_ hb_)
  | (go_at_call 46; (refine (lin_right.calls k (some ⟨gT, 0, none⟩) 1 [⟨a0, l0⟩] true w2 (C_oneLin BT.out (Kd.C_below (Kd.C_below HR0.out HB1.out) HB2.out) HC0.out) (Nat.le_refl _) HT.out).mono ?_); rintro e w3 ⟨rfl, hb_⟩; have HB3 := zK (below_step (below_step HB1.out HB2.out) hb_); have BL := zK (blk_below (blk_below BL0.out HB2.out) hb_); have GL := zK (Nat.le_of_eq EL.out.symm); clear hb_ HB1 HB2 BT ET EL BL0 hl0 hl1)
  | ((with_reducible refine gate_dst (N := 6) rfl ?_); refine box_event ?hg (N := 6) ?hd (cs := accCells [0]) (t := 82) ?hr ?_; (case hd => rfl); (case hg => rfl); (case hr => first | (go_simp; done) | (go_simp; rfl)); intro gS hg_ w4 hbox_ hb_; have ES := zK hg_; have BS0 := zK hbox_; have HB4 := zK hb_; clear hg_ hbox_ hb_; have hl0 : w4.cell? ⟨gL, 0, none⟩ = some (.int .i64 a0) := (blk_cell (blk_below BL.out HB4.out) 0).trans rfl)
  | (go_at_call 56; refine (exact_Add gS 0 0 a0 1 _ 82 (accCells [0]) (in64_iff HGA.out).1 (in64_iff HGA.out).2 (by decide) (by decide) BS0.out (accCells_at [0] 0 (by simp))).mono ?_; rintro e w5 ⟨rfl, hk_, hs_⟩; have BS5 : Aside0 (w5.heap[gS]? = some (.cells (accCells [0 + a0 * 1]) 82 (0, 0))) := zK (hk_.trans (congrArg (fun z => some (Obj.cells z 82 (0, 0))) ((accCells_put [0] 0 (0 + a0 * 1) (by simp)).trans rfl))); have NLS := zK (show gL ≠ gS by have := ES.out; have := blk_lt BL.out; omega); have GS := zK (show w.heap.size ≤ gS by have := ES.out; have := HB3.out.size; omega); have BL5 := zK ((hs_.block gL NLS.out).trans (blk_below BL.out HB4.out)); have HB5 := zK (Below.trans (below_step HB3.out HB4.out) (hs_.below GS.out)); clear hk_ hs_ BS0 HB4 HB3 BL ES; have hl0 : w5.cell? ⟨gL, 0, none⟩ = some (.int .i64 a0) := (blk_cell BL5.out 0).trans rfl; have hl1 : w5.cell? ⟨gL, 1, none⟩ = some (.slice A0 l0.length c0) := (blk_cell BL5.out 1).trans rfl))
 go_loopg [21] l0.length (fun gk v21 w' => ∃ (x : Int), v21 = .int .i64 x ∧ Aside0 (∃ i : Nat, x = i ∧ i + gk = l0.length ∧ w'.heap[gS]? = some (.cells (accCells [(l0.take i).foldl (evalStep l1) (0 + a0 * 1)]) 82 (0, 0))) ∧ Aside0 (w'.heap[gL]? = some (.cells #[.int .i64 a0, .slice A0 l0.length c0] 28 (0, 0))) ∧ Aside0 (Below w.heap.size w w'))
 case atStart => exact ⟨0, rfl, ⟨0, rfl, by omega, BS5.out⟩, ⟨BL5.out⟩, ⟨HB5.out⟩⟩
 case round =>
  clear BS5 BL5 HB5 hl0 hl1
  obtain ⟨x, rfl, HX, BL, HB⟩ := hrel
  obtain ⟨i, hxi, hgk, bs⟩ := HX.out
  clear HX
  have BS := zK bs
  clear bs
  have HI := zK hxi
  have HGK := zK hgk
  clear hxi hgk
  cases gk with
  | zero =>
   have c1 : decide (x < (l0.length : Int)) = false := decide_eq_false (by have := HI.out; have := HGK.out; omega)
   have hti : l0.take i = l0 := List.take_of_length_le (by have := HGK.out; omega)
   have CF := zK (show ∀ m, Calls Try.prog 57 #[.pointer (some ⟨gS, 0, none⟩)] (wr.drewN m) fun e W' => e = .returned (.tuple #[.int .i64 N0, .bool D0]) ∧ Drawn0 (wr.drewN m) W' by
    intro m
    rw [HN0.out, HD0.out]
    have h_ := BS.out
    rw [hti] at h_
    exact exact_Fits gS 0 (evalSum a0 l0 l1) (wr.drewN m) 82 (accCells [evalSum a0 l0 l1]) h_ (accCells_at [evalSum a0 l0 l1] 0 (by simp)))
   clear hti
   have HRR := HR.out
   cases D0 with
   | true =>
    rw [if_pos rfl] at HRR
    simp only [Prod.mk.injEq] at HRR
    obtain ⟨e1, e2⟩ := HRR
    have E1 := zK e1
    have E2 := zK e2
    clear e1 e2
    go_wp2_with (first | (go_at_call 57; refine (CF.out 0).mono ?_; rintro e w' ⟨rfl, ⟨nd, rfl⟩⟩))
    go_ret2
    exact ⟨by rw [← E1.out, ← E2.out]; rfl, yN HB.out _⟩
   | false =>
    rw [if_neg (by simp)] at HRR
    simp only [Prod.mk.injEq] at HRR
    obtain ⟨e1, e2⟩ := HRR
    have E1 := zK e1
    have E2 := zK e2
    clear e1 e2
    go_wp2_with (first | (go_at_call 57; refine (CF.out 0).mono ?_; rintro e w' ⟨rfl, ⟨nd, rfl⟩⟩))
    go_ret2
    exact ⟨by rw [← E1.out, ← E2.out]; rfl, yN HB.out _⟩
  | succ gko =>
   have p2 : 0 ≤ x := by have := HI.out; omega
   have q2 : x < (l0.length : Int) := by have := HI.out; have := HGK.out; omega
   obtain ⟨XM, hXM⟩ : ∃ XM, XM = rd_T47 l0 x := ⟨_, rfl⟩
   have HXM := zK (show i < l0.length ∧ ∀ h : i < l0.length, XM = l0[i] by
    have := HI.out; have := HGK.out
    refine ⟨by omega, fun h => ?_⟩
    rw [hXM, HI.out]; simp [rd_T47, h])
   have HGM := zK (show evalOk l1 XM = true by rw [HXM.out.2 HXM.out.1]; exact List.all_eq_true.1 HGL.out _ (List.getElem_mem _))
   obtain ⟨ad2, e2, hm0, hm1⟩ := at_T47 HR0.out x p2 q2
   rw [← hXM] at hm0 hm1
   clear hXM
   cases e2
   replace hm0 := (HB.out.cell (World.block_lt_of_cell? w _ hm0)).trans hm0
   replace hm1 := (HB.out.cell (World.block_lt_of_cell? w _ hm1)).trans hm1
   have c2 : decide (x < (l0.length : Int)) = true := decide_eq_true q2
   replace p2 := eq_true p2
   replace q2 := eq_true q2
   have hm := HGM.out
   unfold evalOk at hm
   rw [Bool.and_eq_true, Bool.or_eq_true, Bool.and_eq_true] at hm
   have v0 : 0 ≤ XM.f0 := of_decide_eq_true hm.1
   have HE := zK (show (l0.take (i + 1)).foldl (evalStep l1) (0 + a0 * 1) = evalStep l1 ((l0.take i).foldl (evalStep l1) (0 + a0 * 1)) XM by
    have e_ := HXM.out.2 HXM.out.1
    rw [List.take_succ_eq_append_getElem HXM.out.1, List.foldl_append, ← e_]; rfl)
   by_cases hv : XM.f0 < (l1.length : Int)
   ·have hm2 : in64 XM.f1 = true ∧ in64 (rd l1 XM.f0) = true := by
     rcases hm.2 with h | h
     ·have := of_decide_eq_true h; omega
     ·exact h
    have RM := zK hm2
    clear hm hm2 HGM
    have HVV := zK (And.intro v0 hv)
    obtain ⟨YV, hYV⟩ : ∃ YV, YV = rd l1 XM.f0 := ⟨_, rfl⟩
    obtain ⟨ad3, e3, hy⟩ : ∃ ad, A1 = some ad ∧ w.cell? (ad.add XM.f0.toNat) = some (.int .i64 YV) := by
     obtain ⟨ad, c, e, hs, hk, hcell⟩ := Kd.C_get HR1.out 0 XM.f0 v0 hv
     refine ⟨ad, e, ?_⟩
     have hk' : c = [Value.int .i64 (l1.getD XM.f0.toNat 0)] := hk
     have := hcell 0 (.int .i64 (l1.getD XM.f0.toNat 0)) (by rw [hk']; rfl)
     have e2 : XM.f0.toNat * (Kd.int .i64).sz + 0 = XM.f0.toNat := Nat.mul_one _
     rw [e2] at this
     rw [hYV]
     exact this
    cases e3
    replace hy := (HB.out.cell (World.block_lt_of_cell? w _ hy)).trans hy
    have HYV := zK hYV
    clear hYV
    have c3 : decide (XM.f0 < (l1.length : Int)) = true := decide_eq_true hv
    have hvv := eq_true hv
    have hv0 := eq_true v0
    go_wp2_with (first
     | ((with_reducible refine gate_dst (N := 8) rfl ?_); refine box_event ?hg (N := 8) ?hd (cs := #[.int .i64 0, .int .i64 0]) (t := 47) ?hr ?_; (case hd => rfl); (case hg => rfl); (case hr => first | (go_simp; done) | (go_simp; rfl)); intro gM hg_ w6 hbox_ hb_; have EM := zK hg_; have BM0 := zK hbox_; have HB6 := zK hb_; clear hg_ hbox_ hb_; have hz0 : w6.cell? ⟨gM, 0, none⟩ = some (.int .i64 0) := (blk_cell BM0.out 0).trans rfl; have hz1 : w6.cell? ⟨gM, 1, none⟩ = some (.int .i64 0) := (blk_cell BM0.out 1).trans rfl; have fz0 := blk_frozen BM0.out 0; have fz1 := blk_frozen BM0.out 1; have NSM := zK (show gS ≠ gM by have := EM.out; have := blk_lt BS.out; omega); have NLM := zK (show gL ≠ gM by have := EM.out; have := blk_lt BL.out; omega); have GM := zK (show w.heap.size ≤ gM by have := EM.out; have := HB.out.size; omega)))
    have HVE := zK (show evalStep l1 ((l0.take i).foldl (evalStep l1) (0 + a0 * 1)) XM = (l0.take i).foldl (evalStep l1) (0 + a0 * 1) + XM.f1 * YV by rw [HYV.out]; exact if_pos HVV.out.2)
    have hlt3 := World.block_lt_of_cell? wr _ hy
    have n3 : ad3.block ≠ gM := by rw [add_block] at hlt3; have := EM.out; omega
    have hyW : ((w6.setCell ⟨gM, 0, none⟩ (.int .i64 XM.f0)).setCell ⟨gM, 1, none⟩ (.int .i64 XM.f1)).cell? (ad3.add XM.f0.toNat) = some (.int .i64 YV) := by
     have hb : (ad3.add XM.f0.toNat).block ≠ gM := by rw [add_block]; exact n3
     have e1 := Below.heap_setCell (w6.setCell ⟨gM, 0, none⟩ (.int .i64 XM.f0)) ⟨gM, 1, none⟩ (.int .i64 XM.f1) (ad3.add XM.f0.toNat).block hb
     have e2 := Below.heap_setCell w6 ⟨gM, 0, none⟩ (.int .i64 XM.f0) (ad3.add XM.f0.toNat).block hb
     have h6 := (HB6.out.cell hlt3).trans hy
     unfold World.cell? at h6 ⊢
     rw [e1, e2]
     exact h6
    have BM6 := blk_put (cs' := #[.int .i64 XM.f0, .int .i64 XM.f1]) (blk_put (cs' := #[.int .i64 XM.f0, .int .i64 0]) BM0.out 0 (.int .i64 XM.f0) rfl) 1 (.int .i64 XM.f1) rfl
    have hM0 := (blk_cell BM6 0).trans rfl
    have hM1 := (blk_cell BM6 1).trans rfl
    have BS6 := zK (blk_far (blk_far (blk_below BS.out HB6.out) (p := ⟨gM, 0, none⟩) NSM.out (.int .i64 XM.f0)) (p := ⟨gM, 1, none⟩) NSM.out (.int .i64 XM.f1))
    have BL6 := zK (blk_far (blk_far (blk_below BL.out HB6.out) (p := ⟨gM, 0, none⟩) NLM.out (.int .i64 XM.f0)) (p := ⟨gM, 1, none⟩) NLM.out (.int .i64 XM.f1))
    have HB6' := zK (yS (yS (below_step HB.out HB6.out) GM.out (j := 0) (v := .int .i64 XM.f0)) GM.out (j := 1) (v := .int .i64 XM.f1))
    clear hlt3 hy n3 BM6 hz0 hz1 fz0 fz1 hm0 hm1
    generalize (w6.setCell ⟨gM, 0, none⟩ (.int .i64 XM.f0)).setCell ⟨gM, 1, none⟩ (.int .i64 XM.f1) = W6 at hyW hM0 hM1 BS6 BL6 HB6' ⊢
    go_region_with (go_at_call 56; refine (exact_Add gS 0 ((l0.take i).foldl (evalStep l1) (0 + a0 * 1)) XM.f1 YV _ 82 (accCells [(l0.take i).foldl (evalStep l1) (0 + a0 * 1)]) (in64_iff RM.out.1).1 (in64_iff RM.out.1).2 (by rw [HYV.out]; exact (in64_iff RM.out.2).1) (by rw [HYV.out]; exact (in64_iff RM.out.2).2) ?rb (accCells_at [(l0.take i).foldl (evalStep l1) (0 + a0 * 1)] 0 (by simp))).mono ?_; (case rb => exact zD BS6.out); rintro e w7 ⟨rfl, hk_, hs_⟩; have BS7 : Aside0 (w7.heap[gS]? = some (.cells (accCells [(l0.take (i + 1)).foldl (evalStep l1) (0 + a0 * 1)]) 82 (0, 0))) := zK (hk_.trans (congrArg (fun z => some (Obj.cells z 82 (0, 0))) ((accCells_put [(l0.take i).foldl (evalStep l1) (0 + a0 * 1)] 0 _ (by simp)).trans (by rw [HE.out, HVE.out]; rfl)))); have BL7 := zK ((hs_.block gL NLS.out).trans (zD BL6.out)); have HB7 := zK (Below.trans (yD HB6'.out) (hs_.below GS.out)))
    all_goals
     go_wp2
     go_roundg gko
     case measure => omega
     case rel =>
      refine ⟨_, (by first | rfl | (simp; done) | (simp [*]; done)), ⟨i + 1, ?_, by have := HGK.out; omega, BS7.out⟩, ⟨BL7.out⟩, ⟨HB7.out⟩⟩
      have := HI.out; have := HXM.out.1; have := HR0.out.2.1; first | omega | (unfold wrap64; omega)
   ·have c3 : decide (XM.f0 < (l1.length : Int)) = false := decide_eq_false hv
    have HVN := zK (show evalStep l1 ((l0.take i).foldl (evalStep l1) (0 + a0 * 1)) XM = (l0.take i).foldl (evalStep l1) (0 + a0 * 1) from if_neg hv)
    clear hm HGM hv
    go_wp2_with (first
     | ((with_reducible refine gate_dst (N := 8) rfl ?_); refine box_event ?hg (N := 8) ?hd (cs := #[.int .i64 0, .int .i64 0]) (t := 47) ?hr ?_; (case hd => rfl); (case hg => rfl); (case hr => first | (go_simp; done) | (go_simp; rfl)); intro gM hg_ w6 hbox_ hb_; have EM := zK hg_; have BM0 := zK hbox_; have HB6 := zK hb_; clear hg_ hbox_ hb_; have hz0 : w6.cell? ⟨gM, 0, none⟩ = some (.int .i64 0) := (blk_cell BM0.out 0).trans rfl; have hz1 : w6.cell? ⟨gM, 1, none⟩ = some (.int .i64 0) := (blk_cell BM0.out 1).trans rfl; have fz0 := blk_frozen BM0.out 0; have fz1 := blk_frozen BM0.out 1; have NSM := zK (show gS ≠ gM by have := EM.out; have := blk_lt BS.out; omega); have NLM := zK (show gL ≠ gM by have := EM.out; have := blk_lt BL.out; omega); have GM := zK (show w.heap.size ≤ gM by have := EM.out; have := HB.out.size; omega)))
    go_roundg gko
    case measure => omega
    case rel =>
     refine ⟨_, (by first | rfl | (simp; done) | (simp [*]; done)), ⟨i + 1, ?_, by have := HGK.out; omega, ?_⟩, ⟨?_⟩, ⟨?_⟩⟩
     ·have := HI.out; have := HXM.out.1; have := HR0.out.2.1; first | omega | (unfold wrap64; omega)
     ·rw [HE.out]
      rw [HVN.out]
      exact blk_far (blk_far (blk_below BS.out HB6.out) (p := ⟨gM, 0, none⟩) NSM.out _) (p := ⟨gM, 1, none⟩) NSM.out _
     ·exact blk_far (blk_far (blk_below BL.out HB6.out) (p := ⟨gM, 0, none⟩) NLM.out _) (p := ⟨gM, 1, none⟩) NLM.out _
     ·exact yS (yS (below_step HB.out HB6.out) GM.out) GM.out
set_option maxHeartbeats 8000000 in
set_option maxRecDepth 100000 in
theorem eval_wrong (k : Nat) (a0 : Int) (A0 : Option Addr) (c0 : Nat) (l0 : List (S47)) (A1 : Option Addr) (c1 : Nat) (l1 : List Int) (w : World) (hr0 : Kd.C k47 w A0 l0.length l0) (hc0 : l0.length ≤ c0)
  (ht : lin_right.f k [⟨a0, l0⟩] = some false) :
  Calls Try.prog 35 #[.agg #[.int .i64 a0, .slice A0 l0.length c0], .slice A1 l1.length c1] w fun e w' => e = .returned (.tuple #[.int .i64 0, .int .i64 1]) ∧ Below w.heap.size w w' := by
 have hu28 := Try.underlying28
 have HR0 := zK hr0
 have HC0 := zK hc0
 have HT := zK ht
 clear hr0 hc0 ht
 go_enter Try.func35, Try.ntmps35
 go_wp2_with (first
  | ((with_reducible refine gate_dst (N := 2) rfl ?_); refine box_event ?hg (N := 2) ?hd (cs := #[.int .i64 a0, .slice A0 l0.length c0]) (t := 28) ?hr ?_; (case hd => rfl); (case hg => rfl); (case hr => first | (go_simp; done) | (go_simp; rfl)); intro gL hg_ w1 hbox_ hb_; have EL := zK hg_; have BL0 := zK hbox_; have HB1 := zK hb_; clear hg_ hbox_ hb_; have hl0 : w1.cell? ⟨gL, 0, none⟩ = some (.int .i64 a0) := (blk_cell BL0.out 0).trans rfl; have hl1 : w1.cell? ⟨gL, 1, none⟩ = some (.slice A0 l0.length c0) := (blk_cell BL0.out 1).trans rfl)
  | ((with_reducible refine gate_dst (N := 12) rfl ?_); refine lit_event ?hg (N := 12) ?hd (cs := #[.int .i64 a0, .slice A0 l0.length c0]) (t := 28) (n := 1) ?hr ?_; (case hd => rfl); (case hg => rfl); (case hr => first | (go_simp; done) | (go_simp; rfl)); intro gT hg_ w2 hbox_ hb_; have ET := zK hg_; have BT := zK hbox_; have HB2 := zK hb_; clear hg_ hbox_ hb_)
  | (go_at_call 46; (refine (lin_right.calls k (some ⟨gT, 0, none⟩) 1 [⟨a0, l0⟩] false w2 (C_oneLin BT.out (Kd.C_below (Kd.C_below HR0.out HB1.out) HB2.out) HC0.out) (Nat.le_refl _) HT.out).mono ?_); rintro e w3 ⟨rfl, hb_⟩; have HB3 := zK (below_step (below_step HB1.out HB2.out) hb_); clear hb_))
 go_ret2
 exact ⟨rfl, HB3.out⟩
theorem lin_Eval.calls (k : Nat) (a0_0 : Int) (A0_1 : Option Addr) (c0_1 : Nat) (l0_1 : List (S47)) (A1 : Option Addr) (c1 : Nat) (l1 : List Int) (r1 : Int) (r2 : Int) (w : World) (hr0_1 : Kd.C k47 w A0_1 l0_1.length l0_1) (hc0_1 : l0_1.length ≤ c0_1) (hr1 : Kd.C (Kd.int .i64) w A1 l1.length l1) (hc1 : l1.length ≤ c1) (h : lin_Eval.f k a0_0 l0_1 l1 = some (r1, r2)) :
  Calls Try.prog 35 #[.agg #[.int .i64 a0_0, .slice A0_1 l0_1.length c0_1], .slice A1 l1.length c1] w fun e w' => e = .returned (.tuple #[.int .i64 r1, .int .i64 r2]) ∧ Below w.heap.size w w' := by
 unfold lin_Eval.f at h
 obtain ⟨t, ht, h⟩ := Option.bind_eq_some_iff.1 h
 cases t with
 | true =>
  rw [if_pos rfl] at h
  split at h
  ·rename_i hg
   rw [Bool.and_eq_true] at hg
   exact eval_walk k a0_0 A0_1 c0_1 l0_1 A1 c1 l1 w hr0_1 hc0_1 hr1 ht hg.1 hg.2 r1 r2 (Option.some.inj h)
  ·cases h
 | false =>
  rw [if_neg (by simp)] at h
  simp only [Option.some.injEq, Prod.mk.injEq] at h
  obtain ⟨rfl, rfl⟩ := h
  exact eval_wrong k a0_0 A0_1 c0_1 l0_1 A1 c1 l1 w hr0_1 hc0_1 ht

/-! ### ineq_Holds: function 14 -/
def ineq_Holds.f (k : Nat) (a0_0 : Int) (l0_1 : List (S47)) (a0_2 : Bool) (l1 : List Int) : Option (Bool × Int) := (ineq_Right.f k a0_0 l0_1 a0_2).bind fun t245 => (if t245 = 0 then ((lin_Eval.f k a0_0 l0_1 l1).bind fun bt246 => (if bt246.2 = 0 then (if bt246.1 = 0 then (some (true, 0)) else (if bt246.1 < 0 then (some (!a0_2, 0)) else (some (false, 0)))) else (some (false, bt246.2)))) else (some (false, t245)))
theorem ineq_Holds.mono : ∀ a0 a1 a2 a3 k, LeO (ineq_Holds.f k a0 a1 a2 a3) (ineq_Holds.f (k + 1) a0 a1 a2 a3) := by
 intro a0 a1 a2 a3 k
 unfold ineq_Holds.f
 repeat' first
   | (with_reducible exact ineq_Right.mono _ _ _ _)
   | (with_reducible exact lin_Eval.mono _ _ _ _)
   | (with_reducible exact LeO.refl _)
   | (with_reducible exact LeO.none _)
   | (with_reducible refine LeO.ite ?_ ?_)
   | (with_reducible refine LeO.bind ?_ (fun _ => ?_))
   | exact ineq_Right.mono _ _ _ _
   | exact lin_Eval.mono _ _ _ _
   | exact LeO.none _
   | refine LeO.ite ?_ ?_
   | refine LeO.bind ?_ (fun _ => ?_)
set_option maxHeartbeats 8000000 in
set_option maxRecDepth 100000 in
theorem ineq_Holds.calls (k : Nat) (a0_0 : Int) (A0_1 : Option Addr) (c0_1 : Nat) (l0_1 : List (S47)) (a0_2 : Bool) (A1 : Option Addr) (c1 : Nat) (l1 : List Int) (r1 : Bool) (r2 : Int) (w : World) (hr0_1 : Kd.C k47 w A0_1 l0_1.length l0_1) (hc0_1 : l0_1.length ≤ c0_1) (hr1 : Kd.C (Kd.int .i64) w A1 l1.length l1) (hc1 : l1.length ≤ c1) (h : ineq_Holds.f k a0_0 l0_1 a0_2 l1 = some (r1, r2)) :
  Calls Try.prog 14 #[.agg #[.int .i64 a0_0, .slice A0_1 l0_1.length c0_1, .bool a0_2], .slice A1 l1.length c1] w fun e w' => e = .returned (.tuple #[.bool r1, .int .i64 r2]) ∧ Below w.heap.size w w' := by
 have hu30 := Try.underlying30
 have hu28 := Try.underlying28
 have HR0_1 := zK hr0_1
 have HC0_1 := zK hc0_1
 clear hr0_1 hc0_1
 have HR1 := zK hr1
 have HC1 := zK hc1
 clear hr1 hc1
 have HB := zK (Below.refl w.heap.size w)
 have H : ((ineq_Right.f k a0_0 l0_1 a0_2).bind fun t245 => (if t245 = 0 then ((lin_Eval.f k a0_0 l0_1 l1).bind fun bt246 => (if bt246.2 = 0 then (if bt246.1 = 0 then (some (true, 0)) else (if bt246.1 < 0 then (some (!a0_2, 0)) else (some (false, 0)))) else (some (false, bt246.2)))) else (some (false, t245)))) = some (r1, r2) := h
 clear h
 replace H := Option.bind_eq_some_iff.mp H
 obtain ⟨t245, A30, H⟩ := H
 replace H : (if t245 = 0 then ((lin_Eval.f k a0_0 l0_1 l1).bind fun bt246 => (if bt246.2 = 0 then (if bt246.1 = 0 then (some (true, 0)) else (if bt246.1 < 0 then (some (!a0_2, 0)) else (some (false, 0)))) else (some (false, bt246.2)))) else (some (false, t245))) = some (r1, r2) := H
 have A3 := zK A30
 clear A30
 by_cases c4 : t245 = 0
 ·rw [if_pos c4] at H
  have c4b0 : (t245 == 0) = true := beq_iff_eq.mpr c4
  have c4b1 : (t245 != 0) = false := bne_eq_false_iff_eq.mpr c4
  clear c4
  replace H := Option.bind_eq_some_iff.mp H
  obtain ⟨⟨t246, t247⟩, A50, H⟩ := H
  replace H : (if t247 = 0 then (if t246 = 0 then (some (true, 0)) else (if t246 < 0 then (some (!a0_2, 0)) else (some (false, 0)))) else (some (false, t247))) = some (r1, r2) := H
  have A5 := zK A50
  clear A50
  by_cases c6 : t247 = 0
  ·rw [if_pos c6] at H
   have c6b0 : (t247 == 0) = true := beq_iff_eq.mpr c6
   have c6b1 : (t247 != 0) = false := bne_eq_false_iff_eq.mpr c6
   clear c6
   by_cases c7 : t246 = 0
   ·rw [if_pos c7] at H
    have c7b0 : (t246 == 0) = true := beq_iff_eq.mpr c7
    have c7b1 : (t246 != 0) = false := bne_eq_false_iff_eq.mpr c7
    clear c7
    simp only [Option.some.injEq, Prod.mk.injEq] at H
    obtain ⟨rfl, rfl⟩ := H
    go_enter Try.func14, Try.ntmps14
    go_wp2_with (first | ((with_reducible refine gate_dst (N := 2) rfl ?_); refine box_event ?hg (N := 2) ?hd (cs := #[.int .i64 a0_0, .slice A0_1 l0_1.length c0_1, .bool a0_2]) (t := 30) ?hr ?_; (case hd => rfl); (case hg => rfl); (case hr => first | (go_simp; done) | (go_simp; rfl)); intro gb244 hg w8 hbox hb; have n0_ := zK (below_step (by repeat (first | (with_reducible first | exact HB.out | apply yA | apply yN | apply yD) | exact HB.out)) hb); have n1_ := zK (hbox); have n2_ := zK ((by rw [hg]; exact (below_size (by repeat (first | (with_reducible first | exact HB.out | apply yA | apply yN | apply yD) | exact HB.out))) : w.heap.size ≤ gb244)); have n3_ := zK ((by rw [hg]; exact (below_size (by repeat (first | (with_reducible first | exact HB.out | apply yA | apply yN | apply yD) | exact HB.out))) : w.heap.size ≤ gb244)); clear HB; have HB := n0_; have BK244 := n1_; have GW244 := n2_; have GE244 := n3_; clear n0_ n1_ n2_ n3_; clear hb hbox hg; have hcz9_0 : w8.cell? ⟨gb244, 0, none⟩ = some (.int .i64 a0_0) := (blk_cell BK244.out 0).trans rfl; have hcz9_1 : w8.cell? ⟨gb244, 1, none⟩ = some (.slice A0_1 l0_1.length c0_1) := (blk_cell BK244.out 1).trans rfl; have hcz9_2 : w8.cell? ⟨gb244, 2, none⟩ = some (.bool a0_2) := (blk_cell BK244.out 2).trans rfl; have hfz9_0 := blk_frozen BK244.out 0; have hfz9_1 := blk_frozen BK244.out 1; have hfz9_2 := blk_frozen BK244.out 2) | ((with_reducible refine zC (f := 18) rfl ?_); refine goesL_ (some 10) rfl rfl Try.func18 (by kernel_rfl) rfl #[.agg #[.int .i64 a0_0, .slice A0_1 l0_1.length c0_1, .bool a0_2]] rfl (by (try simp only [List.map_toArray, List.map_cons, List.map_nil]); first | done | rfl | (simp only [List.length_drop, List.length_take]; rfl)) ?_; (with_reducible refine (ineq_Right.calls k a0_0 _ _ l0_1 a0_2 t245 _ ?side1 ?side2 A3.out).mono ?_); (case side1 => repeat (first | exact (Kd.C_below HR0_1.out HB.out) | (with_reducible refine cA ?_ _) | (with_reducible refine cN ?_ _) | (with_reducible refine cD ?_))); (case side2 => exact HC0_1.out); rintro e w10 ⟨rfl, hb⟩; refine ⟨_, rfl, ?_⟩; have n0_ := zK (blk_below (g := gb244) (o := .cells #[.int .i64 a0_0, .slice A0_1 l0_1.length c0_1, .bool a0_2] 30 (0, 0)) (by (with_reducible repeat (first | refine zN ?_ _ | refine zD ?_ | refine zA ?_ _)); exact BK244.out) hb); have n1_ := zK (below_step (by repeat (first | (with_reducible first | exact HB.out | apply yA | apply yN | apply yD | refine yS ?_ GE244.out) | exact HB.out)) hb); clear BK244; clear HB; have BK244 := n0_; have HB := n1_; clear n0_ n1_; (try clear hb); (try clear hb2); (try clear hk); (try clear hi); have hcz11_0 : w10.cell? ⟨gb244, 0, none⟩ = some (.int .i64 a0_0) := (blk_cell BK244.out 0).trans rfl; have hcz11_1 : w10.cell? ⟨gb244, 1, none⟩ = some (.slice A0_1 l0_1.length c0_1) := (blk_cell BK244.out 1).trans rfl; have hcz11_2 : w10.cell? ⟨gb244, 2, none⟩ = some (.bool a0_2) := (blk_cell BK244.out 2).trans rfl; have hfz11_0 := blk_frozen BK244.out 0; have hfz11_1 := blk_frozen BK244.out 1; have hfz11_2 := blk_frozen BK244.out 2) | ((with_reducible refine zC (f := 35) rfl ?_); refine goesL_ (some 18) rfl rfl Try.func35 (by kernel_rfl) rfl #[.agg #[.int .i64 a0_0, .slice A0_1 l0_1.length c0_1], .slice A1 l1.length c1] rfl (by (try simp only [List.map_toArray, List.map_cons, List.map_nil]); first | done | rfl | (simp only [List.length_drop, List.length_take]; rfl)) ?_; (with_reducible refine (lin_Eval.calls k a0_0 _ _ l0_1 _ _ l1 t246 t247 _ ?side1 ?side2 ?side3 ?side4 A5.out).mono ?_); (case side1 => repeat (first | exact (Kd.C_below HR0_1.out HB.out) | (with_reducible refine cA ?_ _) | (with_reducible refine cN ?_ _) | (with_reducible refine cD ?_))); (case side2 => exact HC0_1.out); (case side3 => repeat (first | exact (Kd.C_below HR1.out HB.out) | (with_reducible refine cA ?_ _) | (with_reducible refine cN ?_ _) | (with_reducible refine cD ?_))); (case side4 => exact HC1.out); rintro e w12 ⟨rfl, hb⟩; refine ⟨_, rfl, ?_⟩; have n0_ := zK (blk_below (g := gb244) (o := .cells #[.int .i64 a0_0, .slice A0_1 l0_1.length c0_1, .bool a0_2] 30 (0, 0)) (by (with_reducible repeat (first | refine zN ?_ _ | refine zD ?_ | refine zA ?_ _)); exact BK244.out) hb); have n1_ := zK (below_step (by repeat (first | (with_reducible first | exact HB.out | apply yA | apply yN | apply yD | refine yS ?_ GE244.out) | exact HB.out)) hb); clear BK244; clear HB; have BK244 := n0_; have HB := n1_; clear n0_ n1_; (try clear hb); (try clear hb2); (try clear hk); (try clear hi)))
    go_ret2
    exact ⟨by first | rfl | (simp [errW_none, errW_some] <;> rfl) | (simp [*, errW_none, errW_some] <;> rfl), by repeat (first | (with_reducible first | exact HB.out | apply yA | apply yN | apply yD | refine yS ?_ GE244.out) | exact HB.out)⟩
   ·rw [if_neg c7] at H
    have c7b0 : (t246 == 0) = false := beq_eq_false_iff_ne.mpr c7
    have c7b1 : (t246 != 0) = true := bne_iff_ne.mpr c7
    by_cases c13 : t246 < 0
    ·rw [if_pos c13] at H
     have c13b0 : decide (t246 < 0) = true := decide_eq_true c13
     clear c13
     simp only [Option.some.injEq, Prod.mk.injEq] at H
     obtain ⟨rfl, rfl⟩ := H
     go_enter Try.func14, Try.ntmps14
     go_wp2_with (first | ((with_reducible refine gate_dst (N := 2) rfl ?_); refine box_event ?hg (N := 2) ?hd (cs := #[.int .i64 a0_0, .slice A0_1 l0_1.length c0_1, .bool a0_2]) (t := 30) ?hr ?_; (case hd => rfl); (case hg => rfl); (case hr => first | (go_simp; done) | (go_simp; rfl)); intro gb244 hg w14 hbox hb; have n0_ := zK (below_step (by repeat (first | (with_reducible first | exact HB.out | apply yA | apply yN | apply yD) | exact HB.out)) hb); have n1_ := zK (hbox); have n2_ := zK ((by rw [hg]; exact (below_size (by repeat (first | (with_reducible first | exact HB.out | apply yA | apply yN | apply yD) | exact HB.out))) : w.heap.size ≤ gb244)); have n3_ := zK ((by rw [hg]; exact (below_size (by repeat (first | (with_reducible first | exact HB.out | apply yA | apply yN | apply yD) | exact HB.out))) : w.heap.size ≤ gb244)); clear HB; have HB := n0_; have BK244 := n1_; have GW244 := n2_; have GE244 := n3_; clear n0_ n1_ n2_ n3_; clear hb hbox hg; have hcz15_0 : w14.cell? ⟨gb244, 0, none⟩ = some (.int .i64 a0_0) := (blk_cell BK244.out 0).trans rfl; have hcz15_1 : w14.cell? ⟨gb244, 1, none⟩ = some (.slice A0_1 l0_1.length c0_1) := (blk_cell BK244.out 1).trans rfl; have hcz15_2 : w14.cell? ⟨gb244, 2, none⟩ = some (.bool a0_2) := (blk_cell BK244.out 2).trans rfl; have hfz15_0 := blk_frozen BK244.out 0; have hfz15_1 := blk_frozen BK244.out 1; have hfz15_2 := blk_frozen BK244.out 2) | ((with_reducible refine zC (f := 18) rfl ?_); refine goesL_ (some 10) rfl rfl Try.func18 (by kernel_rfl) rfl #[.agg #[.int .i64 a0_0, .slice A0_1 l0_1.length c0_1, .bool a0_2]] rfl (by (try simp only [List.map_toArray, List.map_cons, List.map_nil]); first | done | rfl | (simp only [List.length_drop, List.length_take]; rfl)) ?_; (with_reducible refine (ineq_Right.calls k a0_0 _ _ l0_1 a0_2 t245 _ ?side1 ?side2 A3.out).mono ?_); (case side1 => repeat (first | exact (Kd.C_below HR0_1.out HB.out) | (with_reducible refine cA ?_ _) | (with_reducible refine cN ?_ _) | (with_reducible refine cD ?_))); (case side2 => exact HC0_1.out); rintro e w16 ⟨rfl, hb⟩; refine ⟨_, rfl, ?_⟩; have n0_ := zK (blk_below (g := gb244) (o := .cells #[.int .i64 a0_0, .slice A0_1 l0_1.length c0_1, .bool a0_2] 30 (0, 0)) (by (with_reducible repeat (first | refine zN ?_ _ | refine zD ?_ | refine zA ?_ _)); exact BK244.out) hb); have n1_ := zK (below_step (by repeat (first | (with_reducible first | exact HB.out | apply yA | apply yN | apply yD | refine yS ?_ GE244.out) | exact HB.out)) hb); clear BK244; clear HB; have BK244 := n0_; have HB := n1_; clear n0_ n1_; (try clear hb); (try clear hb2); (try clear hk); (try clear hi); have hcz17_0 : w16.cell? ⟨gb244, 0, none⟩ = some (.int .i64 a0_0) := (blk_cell BK244.out 0).trans rfl; have hcz17_1 : w16.cell? ⟨gb244, 1, none⟩ = some (.slice A0_1 l0_1.length c0_1) := (blk_cell BK244.out 1).trans rfl; have hcz17_2 : w16.cell? ⟨gb244, 2, none⟩ = some (.bool a0_2) := (blk_cell BK244.out 2).trans rfl; have hfz17_0 := blk_frozen BK244.out 0; have hfz17_1 := blk_frozen BK244.out 1; have hfz17_2 := blk_frozen BK244.out 2) | ((with_reducible refine zC (f := 35) rfl ?_); refine goesL_ (some 18) rfl rfl Try.func35 (by kernel_rfl) rfl #[.agg #[.int .i64 a0_0, .slice A0_1 l0_1.length c0_1], .slice A1 l1.length c1] rfl (by (try simp only [List.map_toArray, List.map_cons, List.map_nil]); first | done | rfl | (simp only [List.length_drop, List.length_take]; rfl)) ?_; (with_reducible refine (lin_Eval.calls k a0_0 _ _ l0_1 _ _ l1 t246 t247 _ ?side1 ?side2 ?side3 ?side4 A5.out).mono ?_); (case side1 => repeat (first | exact (Kd.C_below HR0_1.out HB.out) | (with_reducible refine cA ?_ _) | (with_reducible refine cN ?_ _) | (with_reducible refine cD ?_))); (case side2 => exact HC0_1.out); (case side3 => repeat (first | exact (Kd.C_below HR1.out HB.out) | (with_reducible refine cA ?_ _) | (with_reducible refine cN ?_ _) | (with_reducible refine cD ?_))); (case side4 => exact HC1.out); rintro e w18 ⟨rfl, hb⟩; refine ⟨_, rfl, ?_⟩; have n0_ := zK (blk_below (g := gb244) (o := .cells #[.int .i64 a0_0, .slice A0_1 l0_1.length c0_1, .bool a0_2] 30 (0, 0)) (by (with_reducible repeat (first | refine zN ?_ _ | refine zD ?_ | refine zA ?_ _)); exact BK244.out) hb); have n1_ := zK (below_step (by repeat (first | (with_reducible first | exact HB.out | apply yA | apply yN | apply yD | refine yS ?_ GE244.out) | exact HB.out)) hb); clear BK244; clear HB; have BK244 := n0_; have HB := n1_; clear n0_ n1_; (try clear hb); (try clear hb2); (try clear hk); (try clear hi); have hcz19_0 : w18.cell? ⟨gb244, 0, none⟩ = some (.int .i64 a0_0) := (blk_cell BK244.out 0).trans rfl; have hcz19_1 : w18.cell? ⟨gb244, 1, none⟩ = some (.slice A0_1 l0_1.length c0_1) := (blk_cell BK244.out 1).trans rfl; have hcz19_2 : w18.cell? ⟨gb244, 2, none⟩ = some (.bool a0_2) := (blk_cell BK244.out 2).trans rfl; have hfz19_0 := blk_frozen BK244.out 0; have hfz19_1 := blk_frozen BK244.out 1; have hfz19_2 := blk_frozen BK244.out 2))
     go_ret2
     exact ⟨by first | rfl | (simp [errW_none, errW_some] <;> rfl) | (simp [*, errW_none, errW_some] <;> rfl), by repeat (first | (with_reducible first | exact HB.out | apply yA | apply yN | apply yD | refine yS ?_ GE244.out) | exact HB.out)⟩
    ·rw [if_neg c13] at H
     have c13b0 : decide (t246 < 0) = false := decide_eq_false c13
     clear c13
     simp only [Option.some.injEq, Prod.mk.injEq] at H
     obtain ⟨rfl, rfl⟩ := H
     go_enter Try.func14, Try.ntmps14
     go_wp2_with (first | ((with_reducible refine gate_dst (N := 2) rfl ?_); refine box_event ?hg (N := 2) ?hd (cs := #[.int .i64 a0_0, .slice A0_1 l0_1.length c0_1, .bool a0_2]) (t := 30) ?hr ?_; (case hd => rfl); (case hg => rfl); (case hr => first | (go_simp; done) | (go_simp; rfl)); intro gb244 hg w20 hbox hb; have n0_ := zK (below_step (by repeat (first | (with_reducible first | exact HB.out | apply yA | apply yN | apply yD) | exact HB.out)) hb); have n1_ := zK (hbox); have n2_ := zK ((by rw [hg]; exact (below_size (by repeat (first | (with_reducible first | exact HB.out | apply yA | apply yN | apply yD) | exact HB.out))) : w.heap.size ≤ gb244)); have n3_ := zK ((by rw [hg]; exact (below_size (by repeat (first | (with_reducible first | exact HB.out | apply yA | apply yN | apply yD) | exact HB.out))) : w.heap.size ≤ gb244)); clear HB; have HB := n0_; have BK244 := n1_; have GW244 := n2_; have GE244 := n3_; clear n0_ n1_ n2_ n3_; clear hb hbox hg; have hcz21_0 : w20.cell? ⟨gb244, 0, none⟩ = some (.int .i64 a0_0) := (blk_cell BK244.out 0).trans rfl; have hcz21_1 : w20.cell? ⟨gb244, 1, none⟩ = some (.slice A0_1 l0_1.length c0_1) := (blk_cell BK244.out 1).trans rfl; have hcz21_2 : w20.cell? ⟨gb244, 2, none⟩ = some (.bool a0_2) := (blk_cell BK244.out 2).trans rfl; have hfz21_0 := blk_frozen BK244.out 0; have hfz21_1 := blk_frozen BK244.out 1; have hfz21_2 := blk_frozen BK244.out 2) | ((with_reducible refine zC (f := 18) rfl ?_); refine goesL_ (some 10) rfl rfl Try.func18 (by kernel_rfl) rfl #[.agg #[.int .i64 a0_0, .slice A0_1 l0_1.length c0_1, .bool a0_2]] rfl (by (try simp only [List.map_toArray, List.map_cons, List.map_nil]); first | done | rfl | (simp only [List.length_drop, List.length_take]; rfl)) ?_; (with_reducible refine (ineq_Right.calls k a0_0 _ _ l0_1 a0_2 t245 _ ?side1 ?side2 A3.out).mono ?_); (case side1 => repeat (first | exact (Kd.C_below HR0_1.out HB.out) | (with_reducible refine cA ?_ _) | (with_reducible refine cN ?_ _) | (with_reducible refine cD ?_))); (case side2 => exact HC0_1.out); rintro e w22 ⟨rfl, hb⟩; refine ⟨_, rfl, ?_⟩; have n0_ := zK (blk_below (g := gb244) (o := .cells #[.int .i64 a0_0, .slice A0_1 l0_1.length c0_1, .bool a0_2] 30 (0, 0)) (by (with_reducible repeat (first | refine zN ?_ _ | refine zD ?_ | refine zA ?_ _)); exact BK244.out) hb); have n1_ := zK (below_step (by repeat (first | (with_reducible first | exact HB.out | apply yA | apply yN | apply yD | refine yS ?_ GE244.out) | exact HB.out)) hb); clear BK244; clear HB; have BK244 := n0_; have HB := n1_; clear n0_ n1_; (try clear hb); (try clear hb2); (try clear hk); (try clear hi); have hcz23_0 : w22.cell? ⟨gb244, 0, none⟩ = some (.int .i64 a0_0) := (blk_cell BK244.out 0).trans rfl; have hcz23_1 : w22.cell? ⟨gb244, 1, none⟩ = some (.slice A0_1 l0_1.length c0_1) := (blk_cell BK244.out 1).trans rfl; have hcz23_2 : w22.cell? ⟨gb244, 2, none⟩ = some (.bool a0_2) := (blk_cell BK244.out 2).trans rfl; have hfz23_0 := blk_frozen BK244.out 0; have hfz23_1 := blk_frozen BK244.out 1; have hfz23_2 := blk_frozen BK244.out 2) | ((with_reducible refine zC (f := 35) rfl ?_); refine goesL_ (some 18) rfl rfl Try.func35 (by kernel_rfl) rfl #[.agg #[.int .i64 a0_0, .slice A0_1 l0_1.length c0_1], .slice A1 l1.length c1] rfl (by (try simp only [List.map_toArray, List.map_cons, List.map_nil]); first | done | rfl | (simp only [List.length_drop, List.length_take]; rfl)) ?_; (with_reducible refine (lin_Eval.calls k a0_0 _ _ l0_1 _ _ l1 t246 t247 _ ?side1 ?side2 ?side3 ?side4 A5.out).mono ?_); (case side1 => repeat (first | exact (Kd.C_below HR0_1.out HB.out) | (with_reducible refine cA ?_ _) | (with_reducible refine cN ?_ _) | (with_reducible refine cD ?_))); (case side2 => exact HC0_1.out); (case side3 => repeat (first | exact (Kd.C_below HR1.out HB.out) | (with_reducible refine cA ?_ _) | (with_reducible refine cN ?_ _) | (with_reducible refine cD ?_))); (case side4 => exact HC1.out); rintro e w24 ⟨rfl, hb⟩; refine ⟨_, rfl, ?_⟩; have n0_ := zK (blk_below (g := gb244) (o := .cells #[.int .i64 a0_0, .slice A0_1 l0_1.length c0_1, .bool a0_2] 30 (0, 0)) (by (with_reducible repeat (first | refine zN ?_ _ | refine zD ?_ | refine zA ?_ _)); exact BK244.out) hb); have n1_ := zK (below_step (by repeat (first | (with_reducible first | exact HB.out | apply yA | apply yN | apply yD | refine yS ?_ GE244.out) | exact HB.out)) hb); clear BK244; clear HB; have BK244 := n0_; have HB := n1_; clear n0_ n1_; (try clear hb); (try clear hb2); (try clear hk); (try clear hi)))
     go_ret2
     exact ⟨by first | rfl | (simp [errW_none, errW_some] <;> rfl) | (simp [*, errW_none, errW_some] <;> rfl), by repeat (first | (with_reducible first | exact HB.out | apply yA | apply yN | apply yD | refine yS ?_ GE244.out) | exact HB.out)⟩
  ·rw [if_neg c6] at H
   have c6b0 : (t247 == 0) = false := beq_eq_false_iff_ne.mpr c6
   have c6b1 : (t247 != 0) = true := bne_iff_ne.mpr c6
   simp only [Option.some.injEq, Prod.mk.injEq] at H
   obtain ⟨rfl, rfl⟩ := H
   go_enter Try.func14, Try.ntmps14
   go_wp2_with (first | ((with_reducible refine gate_dst (N := 2) rfl ?_); refine box_event ?hg (N := 2) ?hd (cs := #[.int .i64 a0_0, .slice A0_1 l0_1.length c0_1, .bool a0_2]) (t := 30) ?hr ?_; (case hd => rfl); (case hg => rfl); (case hr => first | (go_simp; done) | (go_simp; rfl)); intro gb244 hg w25 hbox hb; have n0_ := zK (below_step (by repeat (first | (with_reducible first | exact HB.out | apply yA | apply yN | apply yD) | exact HB.out)) hb); have n1_ := zK (hbox); have n2_ := zK ((by rw [hg]; exact (below_size (by repeat (first | (with_reducible first | exact HB.out | apply yA | apply yN | apply yD) | exact HB.out))) : w.heap.size ≤ gb244)); have n3_ := zK ((by rw [hg]; exact (below_size (by repeat (first | (with_reducible first | exact HB.out | apply yA | apply yN | apply yD) | exact HB.out))) : w.heap.size ≤ gb244)); clear HB; have HB := n0_; have BK244 := n1_; have GW244 := n2_; have GE244 := n3_; clear n0_ n1_ n2_ n3_; clear hb hbox hg; have hcz26_0 : w25.cell? ⟨gb244, 0, none⟩ = some (.int .i64 a0_0) := (blk_cell BK244.out 0).trans rfl; have hcz26_1 : w25.cell? ⟨gb244, 1, none⟩ = some (.slice A0_1 l0_1.length c0_1) := (blk_cell BK244.out 1).trans rfl; have hcz26_2 : w25.cell? ⟨gb244, 2, none⟩ = some (.bool a0_2) := (blk_cell BK244.out 2).trans rfl; have hfz26_0 := blk_frozen BK244.out 0; have hfz26_1 := blk_frozen BK244.out 1; have hfz26_2 := blk_frozen BK244.out 2) | ((with_reducible refine zC (f := 18) rfl ?_); refine goesL_ (some 10) rfl rfl Try.func18 (by kernel_rfl) rfl #[.agg #[.int .i64 a0_0, .slice A0_1 l0_1.length c0_1, .bool a0_2]] rfl (by (try simp only [List.map_toArray, List.map_cons, List.map_nil]); first | done | rfl | (simp only [List.length_drop, List.length_take]; rfl)) ?_; (with_reducible refine (ineq_Right.calls k a0_0 _ _ l0_1 a0_2 t245 _ ?side1 ?side2 A3.out).mono ?_); (case side1 => repeat (first | exact (Kd.C_below HR0_1.out HB.out) | (with_reducible refine cA ?_ _) | (with_reducible refine cN ?_ _) | (with_reducible refine cD ?_))); (case side2 => exact HC0_1.out); rintro e w27 ⟨rfl, hb⟩; refine ⟨_, rfl, ?_⟩; have n0_ := zK (blk_below (g := gb244) (o := .cells #[.int .i64 a0_0, .slice A0_1 l0_1.length c0_1, .bool a0_2] 30 (0, 0)) (by (with_reducible repeat (first | refine zN ?_ _ | refine zD ?_ | refine zA ?_ _)); exact BK244.out) hb); have n1_ := zK (below_step (by repeat (first | (with_reducible first | exact HB.out | apply yA | apply yN | apply yD | refine yS ?_ GE244.out) | exact HB.out)) hb); clear BK244; clear HB; have BK244 := n0_; have HB := n1_; clear n0_ n1_; (try clear hb); (try clear hb2); (try clear hk); (try clear hi); have hcz28_0 : w27.cell? ⟨gb244, 0, none⟩ = some (.int .i64 a0_0) := (blk_cell BK244.out 0).trans rfl; have hcz28_1 : w27.cell? ⟨gb244, 1, none⟩ = some (.slice A0_1 l0_1.length c0_1) := (blk_cell BK244.out 1).trans rfl; have hcz28_2 : w27.cell? ⟨gb244, 2, none⟩ = some (.bool a0_2) := (blk_cell BK244.out 2).trans rfl; have hfz28_0 := blk_frozen BK244.out 0; have hfz28_1 := blk_frozen BK244.out 1; have hfz28_2 := blk_frozen BK244.out 2) | ((with_reducible refine zC (f := 35) rfl ?_); refine goesL_ (some 18) rfl rfl Try.func35 (by kernel_rfl) rfl #[.agg #[.int .i64 a0_0, .slice A0_1 l0_1.length c0_1], .slice A1 l1.length c1] rfl (by (try simp only [List.map_toArray, List.map_cons, List.map_nil]); first | done | rfl | (simp only [List.length_drop, List.length_take]; rfl)) ?_; (with_reducible refine (lin_Eval.calls k a0_0 _ _ l0_1 _ _ l1 t246 t247 _ ?side1 ?side2 ?side3 ?side4 A5.out).mono ?_); (case side1 => repeat (first | exact (Kd.C_below HR0_1.out HB.out) | (with_reducible refine cA ?_ _) | (with_reducible refine cN ?_ _) | (with_reducible refine cD ?_))); (case side2 => exact HC0_1.out); (case side3 => repeat (first | exact (Kd.C_below HR1.out HB.out) | (with_reducible refine cA ?_ _) | (with_reducible refine cN ?_ _) | (with_reducible refine cD ?_))); (case side4 => exact HC1.out); rintro e w29 ⟨rfl, hb⟩; refine ⟨_, rfl, ?_⟩; have n0_ := zK (blk_below (g := gb244) (o := .cells #[.int .i64 a0_0, .slice A0_1 l0_1.length c0_1, .bool a0_2] 30 (0, 0)) (by (with_reducible repeat (first | refine zN ?_ _ | refine zD ?_ | refine zA ?_ _)); exact BK244.out) hb); have n1_ := zK (below_step (by repeat (first | (with_reducible first | exact HB.out | apply yA | apply yN | apply yD | refine yS ?_ GE244.out) | exact HB.out)) hb); clear BK244; clear HB; have BK244 := n0_; have HB := n1_; clear n0_ n1_; (try clear hb); (try clear hb2); (try clear hk); (try clear hi)))
   go_ret2
   exact ⟨by first | rfl | (simp [errW_none, errW_some] <;> rfl) | (simp [*, errW_none, errW_some] <;> rfl), by repeat (first | (with_reducible first | exact HB.out | apply yA | apply yN | apply yD | refine yS ?_ GE244.out) | exact HB.out)⟩
 ·rw [if_neg c4] at H
  have c4b0 : (t245 == 0) = false := beq_eq_false_iff_ne.mpr c4
  have c4b1 : (t245 != 0) = true := bne_iff_ne.mpr c4
  simp only [Option.some.injEq, Prod.mk.injEq] at H
  obtain ⟨rfl, rfl⟩ := H
  go_enter Try.func14, Try.ntmps14
  go_wp2_with (first | ((with_reducible refine gate_dst (N := 2) rfl ?_); refine box_event ?hg (N := 2) ?hd (cs := #[.int .i64 a0_0, .slice A0_1 l0_1.length c0_1, .bool a0_2]) (t := 30) ?hr ?_; (case hd => rfl); (case hg => rfl); (case hr => first | (go_simp; done) | (go_simp; rfl)); intro gb244 hg w30 hbox hb; have n0_ := zK (below_step (by repeat (first | (with_reducible first | exact HB.out | apply yA | apply yN | apply yD) | exact HB.out)) hb); have n1_ := zK (hbox); have n2_ := zK ((by rw [hg]; exact (below_size (by repeat (first | (with_reducible first | exact HB.out | apply yA | apply yN | apply yD) | exact HB.out))) : w.heap.size ≤ gb244)); have n3_ := zK ((by rw [hg]; exact (below_size (by repeat (first | (with_reducible first | exact HB.out | apply yA | apply yN | apply yD) | exact HB.out))) : w.heap.size ≤ gb244)); clear HB; have HB := n0_; have BK244 := n1_; have GW244 := n2_; have GE244 := n3_; clear n0_ n1_ n2_ n3_; clear hb hbox hg; have hcz31_0 : w30.cell? ⟨gb244, 0, none⟩ = some (.int .i64 a0_0) := (blk_cell BK244.out 0).trans rfl; have hcz31_1 : w30.cell? ⟨gb244, 1, none⟩ = some (.slice A0_1 l0_1.length c0_1) := (blk_cell BK244.out 1).trans rfl; have hcz31_2 : w30.cell? ⟨gb244, 2, none⟩ = some (.bool a0_2) := (blk_cell BK244.out 2).trans rfl; have hfz31_0 := blk_frozen BK244.out 0; have hfz31_1 := blk_frozen BK244.out 1; have hfz31_2 := blk_frozen BK244.out 2) | ((with_reducible refine zC (f := 18) rfl ?_); refine goesL_ (some 10) rfl rfl Try.func18 (by kernel_rfl) rfl #[.agg #[.int .i64 a0_0, .slice A0_1 l0_1.length c0_1, .bool a0_2]] rfl (by (try simp only [List.map_toArray, List.map_cons, List.map_nil]); first | done | rfl | (simp only [List.length_drop, List.length_take]; rfl)) ?_; (with_reducible refine (ineq_Right.calls k a0_0 _ _ l0_1 a0_2 t245 _ ?side1 ?side2 A3.out).mono ?_); (case side1 => repeat (first | exact (Kd.C_below HR0_1.out HB.out) | (with_reducible refine cA ?_ _) | (with_reducible refine cN ?_ _) | (with_reducible refine cD ?_))); (case side2 => exact HC0_1.out); rintro e w32 ⟨rfl, hb⟩; refine ⟨_, rfl, ?_⟩; have n0_ := zK (blk_below (g := gb244) (o := .cells #[.int .i64 a0_0, .slice A0_1 l0_1.length c0_1, .bool a0_2] 30 (0, 0)) (by (with_reducible repeat (first | refine zN ?_ _ | refine zD ?_ | refine zA ?_ _)); exact BK244.out) hb); have n1_ := zK (below_step (by repeat (first | (with_reducible first | exact HB.out | apply yA | apply yN | apply yD | refine yS ?_ GE244.out) | exact HB.out)) hb); clear BK244; clear HB; have BK244 := n0_; have HB := n1_; clear n0_ n1_; (try clear hb); (try clear hb2); (try clear hk); (try clear hi)))
  go_ret2
  exact ⟨by first | rfl | (simp [errW_none, errW_some] <;> rfl) | (simp [*, errW_none, errW_some] <;> rfl), by repeat (first | (with_reducible first | exact HB.out | apply yA | apply yN | apply yD | refine yS ?_ GE244.out) | exact HB.out)⟩

/-! ### ineq_All: function 27 -/
def ineq_All.l0 : Nat → List Int → List (S30) → Int → Int → Option (Int × Int)
 | 0, _, _, _, _ => none
 | k + 1, x1, x10, x11, x12 => if x12 < x11 then (if 0 ≤ x12 then (if x12 < (x10.length : Int) then ((ineq_Holds.f k ((rd_T30 x10 x12).f0.f0) ((rd_T30 x10 x12).f0.f1) ((rd_T30 x10 x12).f1) x1).bind fun bt250 => (if bt250.2 = 0 then (if bt250.1 = true then (ineq_All.l0 k x1 x10 x11 (wrap64 (x12 + 1))) else (some (x12, bt250.2))) else (some (x12, bt250.2)))) else (none)) else (none)) else (some ((-1), 0))
def ineq_All.f (k : Nat) (l0 : List (S30)) (l1 : List Int) : Option (Int × Int) := ineq_All.l0 k l1 l0 (l0.length : Int) 0
theorem ineq_All.mono_l : ∀ k, (∀ y0 y1 y2 y3, LeO (ineq_All.l0 k y0 y1 y2 y3) (ineq_All.l0 (k + 1) y0 y1 y2 y3))
 | 0 => fun _ _ _ _ r h => by simp [ineq_All.l0] at h
 | k + 1 => by
  have ih0 := ineq_All.mono_l k
  ·intro y0 y1 y2 y3
   unfold ineq_All.l0
   repeat' first
   | (with_reducible exact ih0 _ _ _ _)
   | (with_reducible exact ineq_Holds.mono _ _ _ _ _)
   | (with_reducible exact LeO.refl _)
   | (with_reducible exact LeO.none _)
   | (with_reducible refine LeO.ite ?_ ?_)
   | (with_reducible refine LeO.bind ?_ (fun _ => ?_))
   | exact ih0 _ _ _ _
   | exact ineq_Holds.mono _ _ _ _ _
   | exact LeO.none _
   | refine LeO.ite ?_ ?_
   | refine LeO.bind ?_ (fun _ => ?_)
theorem ineq_All.mono : ∀ a0 a1 k, LeO (ineq_All.f k a0 a1) (ineq_All.f (k + 1) a0 a1) := by
 intro a0 a1 k
 have ih0 := ineq_All.mono_l k
 unfold ineq_All.f
 repeat' first
   | (with_reducible exact ih0 _ _ _ _)
   | (with_reducible exact ineq_Holds.mono _ _ _ _ _)
   | (with_reducible exact LeO.refl _)
   | (with_reducible exact LeO.none _)
   | (with_reducible refine LeO.ite ?_ ?_)
   | (with_reducible refine LeO.bind ?_ (fun _ => ?_))
   | exact ih0 _ _ _ _
   | exact ineq_Holds.mono _ _ _ _ _
   | exact LeO.none _
   | refine LeO.ite ?_ ?_
   | refine LeO.bind ?_ (fun _ => ?_)
set_option maxHeartbeats 8000000 in
set_option maxRecDepth 100000 in
theorem ineq_All.calls (k : Nat) (A0 : Option Addr) (c0 : Nat) (l0 : List (S30)) (A1 : Option Addr) (c1 : Nat) (l1 : List Int) (r1 : Int) (r2 : Int) (w : World) (hr0 : Kd.C k30 w A0 l0.length l0) (hc0 : l0.length ≤ c0) (hr1 : Kd.C (Kd.int .i64) w A1 l1.length l1) (hc1 : l1.length ≤ c1) (h : ineq_All.f k l0 l1 = some (r1, r2)) :
  Calls Try.prog 27 #[.slice A0 l0.length c0, .slice A1 l1.length c1] w fun e w' => e = .returned (.tuple #[.int .i64 r1, .int .i64 r2]) ∧ Below w.heap.size w w' := by
 have hu30 := Try.underlying30
 have HR0 := zK hr0
 have HC0 := zK hc0
 clear hr0 hc0
 have HR1 := zK hr1
 have HC1 := zK hc1
 clear hr1 hc1
 have HB := zK (Below.refl w.heap.size w)
 have H : (ineq_All.l0 k l1 l0 (l0.length : Int) 0) = some (r1, r2) := h
 clear h
 have H' := zK H
 clear H
 go_enter Try.func27, Try.ntmps27
 go_wp2
 go_loopg [12] k (fun kq v12 w' => ∃ (x12_1 : Int), v12 = .int .i64 x12_1 ∧ Aside0 (ineq_All.l0 kq l1 l0 (l0.length : Int) x12_1 = some (r1, r2)) ∧ Aside0 (kq ≤ k) ∧ Aside0 (Below w.heap.size w w'))
 case atStart => exact ⟨(0), (by first | rfl | (simp; done) | (simp [*]; done)), H', ⟨Nat.le_refl _⟩, ⟨by repeat (first | (with_reducible first | exact HB.out | apply yA | apply yN | apply yD) | exact HB.out)⟩⟩
 case round =>
  clear H'
  try clear c1
  try clear c2
  try clear p2
  obtain ⟨x12_1, rfl, HA, HK1, HB⟩ := hrel
  cases gk with
  | zero => exact absurd HA.out (by simp [ineq_All.l0])
  | succ k1 =>
   have H := HA.out
   clear HA
   simp only [ineq_All.l0] at H
   by_cases c3 : x12_1 < (l0.length : Int)
   ·rw [if_pos c3] at H
    have c3b0 : decide (x12_1 < (l0.length : Int)) = true := decide_eq_true c3
    clear c3
    by_cases c4 : 0 ≤ x12_1
    ·rw [if_pos c4] at H
     have c4b0 : decide (0 ≤ x12_1) = true := decide_eq_true c4
     clear c4
     by_cases c5 : x12_1 < (l0.length : Int)
     ·rw [if_pos c5] at H
      have c5b0 : decide (x12_1 < (l0.length : Int)) = true := decide_eq_true c5
      clear c5
      replace H := Option.bind_eq_some_iff.mp H
      obtain ⟨⟨t250, t251⟩, A60, H⟩ := H
      replace H : (if t251 = 0 then (if t250 = true then (ineq_All.l0 k1 l1 l0 (l0.length : Int) (wrap64 (x12_1 + 1))) else (some (x12_1, t251))) else (some (x12_1, t251))) = some (r1, r2) := H
      have A6 := zK A60
      clear A60
      by_cases c7 : t251 = 0
      ·rw [if_pos c7] at H
       have c7b0 : (t251 == 0) = true := beq_iff_eq.mpr c7
       have c7b1 : (t251 != 0) = false := bne_eq_false_iff_eq.mpr c7
       clear c7
       by_cases c8 : t250 = true
       ·subst c8
        have H1 : (ineq_All.l0 k1 l1 l0 (l0.length : Int) (wrap64 (x12_1 + 1))) = some (r1, r2) := by rw [if_pos rfl] at H; exact H
        clear H
        have H := H1
        clear H1
        have H' := zK H
        clear H
        have p248 : 0 ≤ (x12_1 : Int) := of_decide_eq_true (by first | (with_reducible assumption) | assumption)
        have q248 : x12_1 < (l0.length : Int) := of_decide_eq_true (by first | (with_reducible assumption) | assumption)
        obtain ⟨ad248, A248_1, c248_1, e248, hx248_0, hx248_1, hx248_2, hl248_1, hi248_1⟩ := at_T30 HR0.out x12_1 p248 q248
        cases e248
        replace hx248_0 := (HB.out.cell (World.block_lt_of_cell? w _ hx248_0)).trans hx248_0
        replace hx248_1 := (HB.out.cell (World.block_lt_of_cell? w _ hx248_1)).trans hx248_1
        replace hx248_2 := (HB.out.cell (World.block_lt_of_cell? w _ hx248_2)).trans hx248_2
        have HR248_1 := zK hi248_1
        have HC248_1 := zK hl248_1
        clear hi248_1 hl248_1
        replace p248 := eq_true p248
        replace q248 := eq_true q248
        go_wp2_with (first | ((with_reducible refine gate_dst (N := 7) rfl ?_); refine box_event ?hg (N := 7) ?hd (cs := #[.int .i64 0, .slice none 0 0, .bool false]) (t := 30) ?hr ?_; (case hd => rfl); (case hg => rfl); (case hr => first | (go_simp; done) | (go_simp; rfl)); intro gb249 hg w9 hbox hb; have n0_ := zK (below_step (by repeat (first | (with_reducible first | exact HB.out | apply yA | apply yN | apply yD) | exact HB.out)) hb); have n1_ := zK (hbox); have n2_ := zK ((by rw [hg]; exact (below_size (by repeat (first | (with_reducible first | exact HB.out | apply yA | apply yN | apply yD) | exact HB.out))) : w.heap.size ≤ gb249)); have n3_ := zK ((by rw [hg]; exact (below_size (by repeat (first | (with_reducible first | exact HB.out | apply yA | apply yN | apply yD) | exact HB.out))) : w.heap.size ≤ gb249)); clear HB; have HB := n0_; have BK249 := n1_; have GW249 := n2_; have GE249 := n3_; clear n0_ n1_ n2_ n3_; clear hb hbox hg; have hcz10_0 : w9.cell? ⟨gb249, 0, none⟩ = some (.int .i64 0) := (blk_cell BK249.out 0).trans rfl; have hcz10_1 : w9.cell? ⟨gb249, 1, none⟩ = some (.slice none 0 0) := (blk_cell BK249.out 1).trans rfl; have hcz10_2 : w9.cell? ⟨gb249, 2, none⟩ = some (.bool false) := (blk_cell BK249.out 2).trans rfl; have hfz10_0 := blk_frozen BK249.out 0; have hfz10_1 := blk_frozen BK249.out 1; have hfz10_2 := blk_frozen BK249.out 2) | ((with_reducible refine zC (f := 14) rfl ?_); refine goesL_ (some 20) rfl rfl Try.func14 (by kernel_rfl) rfl #[.agg #[.int .i64 ((rd_T30 l0 x12_1).f0.f0), .slice A248_1 ((rd_T30 l0 x12_1).f0.f1).length c248_1, .bool ((rd_T30 l0 x12_1).f1)], .slice A1 l1.length c1] rfl (by (try simp only [List.map_toArray, List.map_cons, List.map_nil]); first | done | rfl | (simp only [List.length_drop, List.length_take]; rfl)) ?_; (with_reducible refine (ineq_Holds.calls k1 ((rd_T30 l0 x12_1).f0.f0) _ _ ((rd_T30 l0 x12_1).f0.f1) ((rd_T30 l0 x12_1).f1) _ _ l1 true t251 _ ?side1 ?side2 ?side3 ?side4 A6.out).mono ?_); (case side1 => exact Kd.C_below HR248_1.out (by repeat (first | (with_reducible first | exact HB.out | apply yA | apply yN | apply yD | refine yS ?_ GE249.out) | exact HB.out))); (case side2 => exact HC248_1.out); (case side3 => exact Kd.C_below HR1.out (by repeat (first | (with_reducible first | exact HB.out | apply yA | apply yN | apply yD | refine yS ?_ GE249.out) | exact HB.out))); (case side4 => exact HC1.out); rintro e w11 ⟨rfl, hb⟩; refine ⟨_, rfl, ?_⟩; have n0_ := zK (blk_below (g := gb249) (o := .cells #[.int .i64 ((rd_T30 l0 x12_1).f0.f0), .slice A248_1 ((rd_T30 l0 x12_1).f0.f1).length c248_1, .bool ((rd_T30 l0 x12_1).f1)] 30 (0, 0)) (by (with_reducible repeat (first | refine zN ?_ _ | refine zD ?_ | refine zA ?_ _)); refine blk_put (cs := #[.int .i64 ((rd_T30 l0 x12_1).f0.f0), .slice A248_1 ((rd_T30 l0 x12_1).f0.f1).length c248_1, .bool false]) ?_ 2 _ rfl; (with_reducible repeat (first | refine zN ?_ _ | refine zD ?_ | refine zA ?_ _)); refine blk_put (cs := #[.int .i64 ((rd_T30 l0 x12_1).f0.f0), .slice none 0 0, .bool false]) ?_ 1 _ rfl; (with_reducible repeat (first | refine zN ?_ _ | refine zD ?_ | refine zA ?_ _)); refine blk_put (cs := #[.int .i64 0, .slice none 0 0, .bool false]) ?_ 0 _ rfl; (with_reducible repeat (first | refine zN ?_ _ | refine zD ?_ | refine zA ?_ _)); exact BK249.out) hb); have n1_ := zK (below_step (by repeat (first | (with_reducible first | exact HB.out | apply yA | apply yN | apply yD | refine yS ?_ GE249.out) | exact HB.out)) hb); clear BK249; clear HB; have BK249 := n0_; have HB := n1_; clear n0_ n1_; (try clear hb); (try clear hb2); (try clear hk); (try clear hi)))
        go_roundg k1
        case measure => have := HK1.out; omega
        case rel => exact ⟨(wrap64 (x12_1 + 1)), (by first | rfl | (simp; done) | (simp [*]; done)), H', ⟨by have := HK1.out; omega⟩, ⟨by repeat (first | (with_reducible first | exact HB.out | apply yA | apply yN | apply yD | refine yS ?_ GE249.out) | exact HB.out)⟩⟩
       ·replace c8 := Bool.eq_false_iff.mpr c8
        subst c8
        have H1 : (some (x12_1, t251)) = some (r1, r2) := by rw [if_neg (show ¬ (false = true) by decide)] at H; exact H
        clear H
        have H := H1
        clear H1
        simp only [Option.some.injEq, Prod.mk.injEq] at H
        obtain ⟨rfl, rfl⟩ := H
        have p248 : 0 ≤ (x12_1 : Int) := of_decide_eq_true (by first | (with_reducible assumption) | assumption)
        have q248 : x12_1 < (l0.length : Int) := of_decide_eq_true (by first | (with_reducible assumption) | assumption)
        obtain ⟨ad248, A248_1, c248_1, e248, hx248_0, hx248_1, hx248_2, hl248_1, hi248_1⟩ := at_T30 HR0.out x12_1 p248 q248
        cases e248
        replace hx248_0 := (HB.out.cell (World.block_lt_of_cell? w _ hx248_0)).trans hx248_0
        replace hx248_1 := (HB.out.cell (World.block_lt_of_cell? w _ hx248_1)).trans hx248_1
        replace hx248_2 := (HB.out.cell (World.block_lt_of_cell? w _ hx248_2)).trans hx248_2
        have HR248_1 := zK hi248_1
        have HC248_1 := zK hl248_1
        clear hi248_1 hl248_1
        replace p248 := eq_true p248
        replace q248 := eq_true q248
        go_wp2_with (first | ((with_reducible refine gate_dst (N := 7) rfl ?_); refine box_event ?hg (N := 7) ?hd (cs := #[.int .i64 0, .slice none 0 0, .bool false]) (t := 30) ?hr ?_; (case hd => rfl); (case hg => rfl); (case hr => first | (go_simp; done) | (go_simp; rfl)); intro gb249 hg w12 hbox hb; have n0_ := zK (below_step (by repeat (first | (with_reducible first | exact HB.out | apply yA | apply yN | apply yD) | exact HB.out)) hb); have n1_ := zK (hbox); have n2_ := zK ((by rw [hg]; exact (below_size (by repeat (first | (with_reducible first | exact HB.out | apply yA | apply yN | apply yD) | exact HB.out))) : w.heap.size ≤ gb249)); have n3_ := zK ((by rw [hg]; exact (below_size (by repeat (first | (with_reducible first | exact HB.out | apply yA | apply yN | apply yD) | exact HB.out))) : w.heap.size ≤ gb249)); clear HB; have HB := n0_; have BK249 := n1_; have GW249 := n2_; have GE249 := n3_; clear n0_ n1_ n2_ n3_; clear hb hbox hg; have hcz13_0 : w12.cell? ⟨gb249, 0, none⟩ = some (.int .i64 0) := (blk_cell BK249.out 0).trans rfl; have hcz13_1 : w12.cell? ⟨gb249, 1, none⟩ = some (.slice none 0 0) := (blk_cell BK249.out 1).trans rfl; have hcz13_2 : w12.cell? ⟨gb249, 2, none⟩ = some (.bool false) := (blk_cell BK249.out 2).trans rfl; have hfz13_0 := blk_frozen BK249.out 0; have hfz13_1 := blk_frozen BK249.out 1; have hfz13_2 := blk_frozen BK249.out 2) | ((with_reducible refine zC (f := 14) rfl ?_); refine goesL_ (some 20) rfl rfl Try.func14 (by kernel_rfl) rfl #[.agg #[.int .i64 ((rd_T30 l0 x12_1).f0.f0), .slice A248_1 ((rd_T30 l0 x12_1).f0.f1).length c248_1, .bool ((rd_T30 l0 x12_1).f1)], .slice A1 l1.length c1] rfl (by (try simp only [List.map_toArray, List.map_cons, List.map_nil]); first | done | rfl | (simp only [List.length_drop, List.length_take]; rfl)) ?_; (with_reducible refine (ineq_Holds.calls k1 ((rd_T30 l0 x12_1).f0.f0) _ _ ((rd_T30 l0 x12_1).f0.f1) ((rd_T30 l0 x12_1).f1) _ _ l1 false t251 _ ?side1 ?side2 ?side3 ?side4 A6.out).mono ?_); (case side1 => exact Kd.C_below HR248_1.out (by repeat (first | (with_reducible first | exact HB.out | apply yA | apply yN | apply yD | refine yS ?_ GE249.out) | exact HB.out))); (case side2 => exact HC248_1.out); (case side3 => exact Kd.C_below HR1.out (by repeat (first | (with_reducible first | exact HB.out | apply yA | apply yN | apply yD | refine yS ?_ GE249.out) | exact HB.out))); (case side4 => exact HC1.out); rintro e w14 ⟨rfl, hb⟩; refine ⟨_, rfl, ?_⟩; have n0_ := zK (blk_below (g := gb249) (o := .cells #[.int .i64 ((rd_T30 l0 x12_1).f0.f0), .slice A248_1 ((rd_T30 l0 x12_1).f0.f1).length c248_1, .bool ((rd_T30 l0 x12_1).f1)] 30 (0, 0)) (by (with_reducible repeat (first | refine zN ?_ _ | refine zD ?_ | refine zA ?_ _)); refine blk_put (cs := #[.int .i64 ((rd_T30 l0 x12_1).f0.f0), .slice A248_1 ((rd_T30 l0 x12_1).f0.f1).length c248_1, .bool false]) ?_ 2 _ rfl; (with_reducible repeat (first | refine zN ?_ _ | refine zD ?_ | refine zA ?_ _)); refine blk_put (cs := #[.int .i64 ((rd_T30 l0 x12_1).f0.f0), .slice none 0 0, .bool false]) ?_ 1 _ rfl; (with_reducible repeat (first | refine zN ?_ _ | refine zD ?_ | refine zA ?_ _)); refine blk_put (cs := #[.int .i64 0, .slice none 0 0, .bool false]) ?_ 0 _ rfl; (with_reducible repeat (first | refine zN ?_ _ | refine zD ?_ | refine zA ?_ _)); exact BK249.out) hb); have n1_ := zK (below_step (by repeat (first | (with_reducible first | exact HB.out | apply yA | apply yN | apply yD | refine yS ?_ GE249.out) | exact HB.out)) hb); clear BK249; clear HB; have BK249 := n0_; have HB := n1_; clear n0_ n1_; (try clear hb); (try clear hb2); (try clear hk); (try clear hi)))
        go_ret2
        exact ⟨by first | rfl | (simp [errW_none, errW_some] <;> rfl) | (simp [*, errW_none, errW_some] <;> rfl), by repeat (first | (with_reducible first | exact HB.out | apply yA | apply yN | apply yD | refine yS ?_ GE249.out) | exact HB.out)⟩
      ·rw [if_neg c7] at H
       have c7b0 : (t251 == 0) = false := beq_eq_false_iff_ne.mpr c7
       have c7b1 : (t251 != 0) = true := bne_iff_ne.mpr c7
       simp only [Option.some.injEq, Prod.mk.injEq] at H
       obtain ⟨rfl, rfl⟩ := H
       have p248 : 0 ≤ (x12_1 : Int) := of_decide_eq_true (by first | (with_reducible assumption) | assumption)
       have q248 : x12_1 < (l0.length : Int) := of_decide_eq_true (by first | (with_reducible assumption) | assumption)
       obtain ⟨ad248, A248_1, c248_1, e248, hx248_0, hx248_1, hx248_2, hl248_1, hi248_1⟩ := at_T30 HR0.out x12_1 p248 q248
       cases e248
       replace hx248_0 := (HB.out.cell (World.block_lt_of_cell? w _ hx248_0)).trans hx248_0
       replace hx248_1 := (HB.out.cell (World.block_lt_of_cell? w _ hx248_1)).trans hx248_1
       replace hx248_2 := (HB.out.cell (World.block_lt_of_cell? w _ hx248_2)).trans hx248_2
       have HR248_1 := zK hi248_1
       have HC248_1 := zK hl248_1
       clear hi248_1 hl248_1
       replace p248 := eq_true p248
       replace q248 := eq_true q248
       go_wp2_with (first | ((with_reducible refine gate_dst (N := 7) rfl ?_); refine box_event ?hg (N := 7) ?hd (cs := #[.int .i64 0, .slice none 0 0, .bool false]) (t := 30) ?hr ?_; (case hd => rfl); (case hg => rfl); (case hr => first | (go_simp; done) | (go_simp; rfl)); intro gb249 hg w15 hbox hb; have n0_ := zK (below_step (by repeat (first | (with_reducible first | exact HB.out | apply yA | apply yN | apply yD) | exact HB.out)) hb); have n1_ := zK (hbox); have n2_ := zK ((by rw [hg]; exact (below_size (by repeat (first | (with_reducible first | exact HB.out | apply yA | apply yN | apply yD) | exact HB.out))) : w.heap.size ≤ gb249)); have n3_ := zK ((by rw [hg]; exact (below_size (by repeat (first | (with_reducible first | exact HB.out | apply yA | apply yN | apply yD) | exact HB.out))) : w.heap.size ≤ gb249)); clear HB; have HB := n0_; have BK249 := n1_; have GW249 := n2_; have GE249 := n3_; clear n0_ n1_ n2_ n3_; clear hb hbox hg; have hcz16_0 : w15.cell? ⟨gb249, 0, none⟩ = some (.int .i64 0) := (blk_cell BK249.out 0).trans rfl; have hcz16_1 : w15.cell? ⟨gb249, 1, none⟩ = some (.slice none 0 0) := (blk_cell BK249.out 1).trans rfl; have hcz16_2 : w15.cell? ⟨gb249, 2, none⟩ = some (.bool false) := (blk_cell BK249.out 2).trans rfl; have hfz16_0 := blk_frozen BK249.out 0; have hfz16_1 := blk_frozen BK249.out 1; have hfz16_2 := blk_frozen BK249.out 2) | ((with_reducible refine zC (f := 14) rfl ?_); refine goesL_ (some 20) rfl rfl Try.func14 (by kernel_rfl) rfl #[.agg #[.int .i64 ((rd_T30 l0 x12_1).f0.f0), .slice A248_1 ((rd_T30 l0 x12_1).f0.f1).length c248_1, .bool ((rd_T30 l0 x12_1).f1)], .slice A1 l1.length c1] rfl (by (try simp only [List.map_toArray, List.map_cons, List.map_nil]); first | done | rfl | (simp only [List.length_drop, List.length_take]; rfl)) ?_; (with_reducible refine (ineq_Holds.calls k1 ((rd_T30 l0 x12_1).f0.f0) _ _ ((rd_T30 l0 x12_1).f0.f1) ((rd_T30 l0 x12_1).f1) _ _ l1 t250 t251 _ ?side1 ?side2 ?side3 ?side4 A6.out).mono ?_); (case side1 => exact Kd.C_below HR248_1.out (by repeat (first | (with_reducible first | exact HB.out | apply yA | apply yN | apply yD | refine yS ?_ GE249.out) | exact HB.out))); (case side2 => exact HC248_1.out); (case side3 => exact Kd.C_below HR1.out (by repeat (first | (with_reducible first | exact HB.out | apply yA | apply yN | apply yD | refine yS ?_ GE249.out) | exact HB.out))); (case side4 => exact HC1.out); rintro e w17 ⟨rfl, hb⟩; refine ⟨_, rfl, ?_⟩; have n0_ := zK (blk_below (g := gb249) (o := .cells #[.int .i64 ((rd_T30 l0 x12_1).f0.f0), .slice A248_1 ((rd_T30 l0 x12_1).f0.f1).length c248_1, .bool ((rd_T30 l0 x12_1).f1)] 30 (0, 0)) (by (with_reducible repeat (first | refine zN ?_ _ | refine zD ?_ | refine zA ?_ _)); refine blk_put (cs := #[.int .i64 ((rd_T30 l0 x12_1).f0.f0), .slice A248_1 ((rd_T30 l0 x12_1).f0.f1).length c248_1, .bool false]) ?_ 2 _ rfl; (with_reducible repeat (first | refine zN ?_ _ | refine zD ?_ | refine zA ?_ _)); refine blk_put (cs := #[.int .i64 ((rd_T30 l0 x12_1).f0.f0), .slice none 0 0, .bool false]) ?_ 1 _ rfl; (with_reducible repeat (first | refine zN ?_ _ | refine zD ?_ | refine zA ?_ _)); refine blk_put (cs := #[.int .i64 0, .slice none 0 0, .bool false]) ?_ 0 _ rfl; (with_reducible repeat (first | refine zN ?_ _ | refine zD ?_ | refine zA ?_ _)); exact BK249.out) hb); have n1_ := zK (below_step (by repeat (first | (with_reducible first | exact HB.out | apply yA | apply yN | apply yD | refine yS ?_ GE249.out) | exact HB.out)) hb); clear BK249; clear HB; have BK249 := n0_; have HB := n1_; clear n0_ n1_; (try clear hb); (try clear hb2); (try clear hk); (try clear hi)))
       go_ret2
       exact ⟨by first | rfl | (simp [errW_none, errW_some] <;> rfl) | (simp [*, errW_none, errW_some] <;> rfl), by repeat (first | (with_reducible first | exact HB.out | apply yA | apply yN | apply yD | refine yS ?_ GE249.out) | exact HB.out)⟩
     ·rw [if_neg c5] at H
      exact absurd H (by simp)
    ·rw [if_neg c4] at H
     exact absurd H (by simp)
   ·rw [if_neg c3] at H
    have c3b0 : decide (x12_1 < (l0.length : Int)) = false := decide_eq_false c3
    clear c3
    simp only [Option.some.injEq, Prod.mk.injEq] at H
    obtain ⟨rfl, rfl⟩ := H
    go_wp2
    go_ret2
    exact ⟨by first | rfl | (simp [errW_none, errW_some] <;> rfl) | (simp [*, errW_none, errW_some] <;> rfl), by repeat (first | (with_reducible first | exact HB.out | apply yA | apply yN | apply yD) | exact HB.out)⟩

/-! ### sequiturlaw28_IneqSound: function 7 -/
mutual
def sequiturlaw28_IneqSound.j0 : Nat → List (S30) → List Int → Int → List Int → Bool → Option (Bool)
 | 0, _, _, _, _, _ => none
 | k + 1, x0, x1, x2, x3, x22 => if x22 = true then ((sequiturlaw28_goes.f k).bind fun t253 => (some t253)) else ((ineq_Sum.f k x0 x1 x2).bind fun bt254 => ((ineq_All.f k x0 x3).bind fun bt261 => (if bt254.2.2.2 = 0 then (if bt261.2 = 0 then (sequiturlaw28_IneqSound.j1 k x3 (decide (bt261.1 ≥ 0)) bt254.1 bt254.2.1 bt254.2.2.1) else (sequiturlaw28_IneqSound.j1 k x3 true bt254.1 bt254.2.1 bt254.2.2.1)) else (sequiturlaw28_IneqSound.j1 k x3 true bt254.1 bt254.2.1 bt254.2.2.1))))
def sequiturlaw28_IneqSound.j1 : Nat → List Int → Bool → Int → List (S47) → Bool → Option (Bool)
 | 0, _, _, _, _, _ => none
 | k + 1, x3, x46, x261000, x261001, x261002 => if x46 = true then ((sequiturlaw28_goes.f k).bind fun t263 => (some t263)) else ((ineq_Holds.f k x261000 x261001 x261002 x3).bind fun bt264 => (if bt264.1 = true then ((ineq_Absurd.f k x261000 x261001 x261002).bind fun t266 => (if t266 = true then (none) else ((sequiturlaw28_goes.f k).bind fun t267 => (some t267)))) else (if bt264.2 = 5 then ((ineq_Absurd.f k x261000 x261001 x261002).bind fun t268 => (if t268 = true then (none) else ((sequiturlaw28_goes.f k).bind fun t269 => (some t269)))) else (none))))
end
def sequiturlaw28_IneqSound.f (k : Nat) (l0 : List (S30)) (l1 : List Int) (a2 : Int) (l3 : List Int) : Option (Bool) := (sequiturlaw28_Short.f k 12 l0).bind fun t252 => (if t252 = true then (sequiturlaw28_IneqSound.j0 k l0 l1 a2 l3 (decide ((l1.length : Int) > 12))) else (sequiturlaw28_IneqSound.j0 k l0 l1 a2 l3 true))
theorem sequiturlaw28_IneqSound.mono_l : ∀ k, (∀ y0 y1 y2 y3 y4, LeO (sequiturlaw28_IneqSound.j0 k y0 y1 y2 y3 y4) (sequiturlaw28_IneqSound.j0 (k + 1) y0 y1 y2 y3 y4)) ∧ (∀ y0 y1 y2 y3 y4, LeO (sequiturlaw28_IneqSound.j1 k y0 y1 y2 y3 y4) (sequiturlaw28_IneqSound.j1 (k + 1) y0 y1 y2 y3 y4))
 | 0 => ⟨fun _ _ _ _ _ r h => by simp [sequiturlaw28_IneqSound.j0] at h, fun _ _ _ _ _ r h => by simp [sequiturlaw28_IneqSound.j1] at h⟩
 | k + 1 => by
  obtain ⟨ih0, ih1⟩ := sequiturlaw28_IneqSound.mono_l k
  refine ⟨?_, ?_⟩
  ·intro y0 y1 y2 y3 y4
   unfold sequiturlaw28_IneqSound.j0
   repeat' first
   | (with_reducible exact ih0 _ _ _ _ _)
   | (with_reducible exact ih1 _ _ _ _ _)
   | (with_reducible exact ineq_Absurd.mono _ _ _ _)
   | (with_reducible exact ineq_All.mono _ _ _)
   | (with_reducible exact ineq_Holds.mono _ _ _ _ _)
   | (with_reducible exact ineq_Sum.mono _ _ _ _)
   | (with_reducible exact sequiturlaw28_Short.mono _ _ _)
   | (with_reducible exact sequiturlaw28_goes.mono _)
   | (with_reducible exact LeO.refl _)
   | (with_reducible exact LeO.none _)
   | (with_reducible refine LeO.ite ?_ ?_)
   | (with_reducible refine LeO.bind ?_ (fun _ => ?_))
   | exact ih0 _ _ _ _ _
   | exact ih1 _ _ _ _ _
   | exact ineq_Absurd.mono _ _ _ _
   | exact ineq_All.mono _ _ _
   | exact ineq_Holds.mono _ _ _ _ _
   | exact ineq_Sum.mono _ _ _ _
   | exact sequiturlaw28_Short.mono _ _ _
   | exact sequiturlaw28_goes.mono _
   | exact LeO.none _
   | refine LeO.ite ?_ ?_
   | refine LeO.bind ?_ (fun _ => ?_)
  ·intro y0 y1 y2 y3 y4
   unfold sequiturlaw28_IneqSound.j1
   repeat' first
   | (with_reducible exact ih0 _ _ _ _ _)
   | (with_reducible exact ih1 _ _ _ _ _)
   | (with_reducible exact ineq_Absurd.mono _ _ _ _)
   | (with_reducible exact ineq_All.mono _ _ _)
   | (with_reducible exact ineq_Holds.mono _ _ _ _ _)
   | (with_reducible exact ineq_Sum.mono _ _ _ _)
   | (with_reducible exact sequiturlaw28_Short.mono _ _ _)
   | (with_reducible exact sequiturlaw28_goes.mono _)
   | (with_reducible exact LeO.refl _)
   | (with_reducible exact LeO.none _)
   | (with_reducible refine LeO.ite ?_ ?_)
   | (with_reducible refine LeO.bind ?_ (fun _ => ?_))
   | exact ih0 _ _ _ _ _
   | exact ih1 _ _ _ _ _
   | exact ineq_Absurd.mono _ _ _ _
   | exact ineq_All.mono _ _ _
   | exact ineq_Holds.mono _ _ _ _ _
   | exact ineq_Sum.mono _ _ _ _
   | exact sequiturlaw28_Short.mono _ _ _
   | exact sequiturlaw28_goes.mono _
   | exact LeO.none _
   | refine LeO.ite ?_ ?_
   | refine LeO.bind ?_ (fun _ => ?_)
theorem sequiturlaw28_IneqSound.mono : ∀ a0 a1 a2 a3 k, LeO (sequiturlaw28_IneqSound.f k a0 a1 a2 a3) (sequiturlaw28_IneqSound.f (k + 1) a0 a1 a2 a3) := by
 intro a0 a1 a2 a3 k
 obtain ⟨ih0, ih1⟩ := sequiturlaw28_IneqSound.mono_l k
 unfold sequiturlaw28_IneqSound.f
 repeat' first
   | (with_reducible exact ih0 _ _ _ _ _)
   | (with_reducible exact ih1 _ _ _ _ _)
   | (with_reducible exact ineq_Absurd.mono _ _ _ _)
   | (with_reducible exact ineq_All.mono _ _ _)
   | (with_reducible exact ineq_Holds.mono _ _ _ _ _)
   | (with_reducible exact ineq_Sum.mono _ _ _ _)
   | (with_reducible exact sequiturlaw28_Short.mono _ _ _)
   | (with_reducible exact sequiturlaw28_goes.mono _)
   | (with_reducible exact LeO.refl _)
   | (with_reducible exact LeO.none _)
   | (with_reducible refine LeO.ite ?_ ?_)
   | (with_reducible refine LeO.bind ?_ (fun _ => ?_))
   | exact ih0 _ _ _ _ _
   | exact ih1 _ _ _ _ _
   | exact ineq_Absurd.mono _ _ _ _
   | exact ineq_All.mono _ _ _
   | exact ineq_Holds.mono _ _ _ _ _
   | exact ineq_Sum.mono _ _ _ _
   | exact sequiturlaw28_Short.mono _ _ _
   | exact sequiturlaw28_goes.mono _
   | exact LeO.none _
   | refine LeO.ite ?_ ?_
   | refine LeO.bind ?_ (fun _ => ?_)
set_option maxHeartbeats 8000000 in
set_option maxRecDepth 100000 in
theorem sequiturlaw28_IneqSound.calls (k : Nat) (A0 : Option Addr) (c0 : Nat) (l0 : List (S30)) (A1 : Option Addr) (c1 : Nat) (l1 : List Int) (a2 : Int) (A3 : Option Addr) (c3 : Nat) (l3 : List Int) (r : Bool) (w : World) (hr0 : Kd.C k30 w A0 l0.length l0) (hc0 : l0.length ≤ c0) (hr1 : Kd.C (Kd.int .i64) w A1 l1.length l1) (hc1 : l1.length ≤ c1) (hr3 : Kd.C (Kd.int .i64) w A3 l3.length l3) (hc3 : l3.length ≤ c3) (h : sequiturlaw28_IneqSound.f k l0 l1 a2 l3 = some r) :
  Calls Try.prog 7 #[.slice A0 l0.length c0, .slice A1 l1.length c1, .int .i64 a2, .slice A3 l3.length c3] w fun e w' => e = .returned (.bool r) ∧ Below w.heap.size w w' := by
 have hu30 := Try.underlying30
 have HR0 := zK hr0
 have HC0 := zK hc0
 clear hr0 hc0
 have HR1 := zK hr1
 have HC1 := zK hc1
 clear hr1 hc1
 have HR3 := zK hr3
 have HC3 := zK hc3
 clear hr3 hc3
 have HB := zK (Below.refl w.heap.size w)
 have H : ((sequiturlaw28_Short.f k 12 l0).bind fun t252 => (if t252 = true then (sequiturlaw28_IneqSound.j0 k l0 l1 a2 l3 (decide ((l1.length : Int) > 12))) else (sequiturlaw28_IneqSound.j0 k l0 l1 a2 l3 true))) = some r := h
 clear h
 have HC5 := zK H
 clear H
 go_enter Try.func7, Try.ntmps7
 go_upto_region 1 with (fail)
 go_cut [22] (fun v22 wc => ∃ (kq : Nat) (x22_4 : Bool), v22 = .bool x22_4 ∧ Aside0 (sequiturlaw28_IneqSound.j0 kq l0 l1 a2 l3 x22_4 = some r) ∧ Aside0 (kq ≤ k) ∧ Aside0 (Below w.heap.size w wc))
 case first =>
  have H := HC5.out
  clear HC5
  replace H := Option.bind_eq_some_iff.mp H
  obtain ⟨t252, A60, H⟩ := H
  replace H : (if t252 = true then (sequiturlaw28_IneqSound.j0 k l0 l1 a2 l3 (decide ((l1.length : Int) > 12))) else (sequiturlaw28_IneqSound.j0 k l0 l1 a2 l3 true)) = some r := H
  have A6 := zK A60
  clear A60
  by_cases c7 : t252 = true
  ·subst c7
   have H1 : (sequiturlaw28_IneqSound.j0 k l0 l1 a2 l3 (decide ((l1.length : Int) > 12))) = some r := by rw [if_pos rfl] at H; exact H
   clear H
   have H := H1
   clear H1
   have H' := zK H
   clear H
   go_wp2_with (first | ((with_reducible refine zC (f := 9) rfl ?_); refine goesL_ (some 16) rfl rfl Try.func9 (by kernel_rfl) rfl #[.int .i64 12, .slice A0 l0.length c0] rfl (by (try simp only [List.map_toArray, List.map_cons, List.map_nil]); first | done | rfl | (simp only [List.length_drop, List.length_take]; rfl)) ?_; (with_reducible refine (sequiturlaw28_Short.calls k 12 _ _ l0 true _ ?side1 ?side2 A6.out).mono ?_); (case side1 => repeat (first | exact (Kd.C_below HR0.out HB.out) | (with_reducible refine cA ?_ _) | (with_reducible refine cN ?_ _) | (with_reducible refine cD ?_))); (case side2 => exact HC0.out); rintro e w' ⟨rfl, ⟨nd, rfl⟩⟩; refine ⟨_, rfl, ?_⟩))
   go_meet
   case rel => exact ⟨_, (decide ((l1.length : Int) > 12)), (by first | rfl | (simp; done) | (simp [*]; done)), H', ⟨by first | omega | exact Nat.le_refl _⟩, ⟨by repeat (first | (with_reducible first | exact HB.out | apply yA | apply yN | apply yD) | exact HB.out)⟩⟩
  ·replace c7 := Bool.eq_false_iff.mpr c7
   subst c7
   have H1 : (sequiturlaw28_IneqSound.j0 k l0 l1 a2 l3 true) = some r := by rw [if_neg (show ¬ (false = true) by decide)] at H; exact H
   clear H
   have H := H1
   clear H1
   have H' := zK H
   clear H
   go_wp2_with (first | ((with_reducible refine zC (f := 9) rfl ?_); refine goesL_ (some 16) rfl rfl Try.func9 (by kernel_rfl) rfl #[.int .i64 12, .slice A0 l0.length c0] rfl (by (try simp only [List.map_toArray, List.map_cons, List.map_nil]); first | done | rfl | (simp only [List.length_drop, List.length_take]; rfl)) ?_; (with_reducible refine (sequiturlaw28_Short.calls k 12 _ _ l0 false _ ?side1 ?side2 A6.out).mono ?_); (case side1 => repeat (first | exact (Kd.C_below HR0.out HB.out) | (with_reducible refine cA ?_ _) | (with_reducible refine cN ?_ _) | (with_reducible refine cD ?_))); (case side2 => exact HC0.out); rintro e w' ⟨rfl, ⟨nd, rfl⟩⟩; refine ⟨_, rfl, ?_⟩))
   go_meet
   case rel => exact ⟨_, (true), (by first | rfl | (simp; done) | (simp [*]; done)), H', ⟨by first | omega | exact Nat.le_refl _⟩, ⟨by repeat (first | (with_reducible first | exact HB.out | apply yA | apply yN | apply yD) | exact HB.out)⟩⟩
 case rest =>
  clear HC5
  try clear c1
  try clear p2
  try clear c3
  try clear c7
  obtain ⟨kq, x22_4, rfl, HA, HJ4, HB⟩ := hcut
  cases kq with
  | zero => exact absurd HA.out (by simp [sequiturlaw28_IneqSound.j0])
  | succ kj4 =>
   have H := HA.out
   clear HA
   simp only [sequiturlaw28_IneqSound.j0] at H
   by_cases c8 : x22_4 = true
   ·subst c8
    have H1 : ((sequiturlaw28_goes.f kj4).bind fun t253 => (some t253)) = some r := by rw [if_pos rfl] at H; exact H
    clear H
    have H := H1
    clear H1
    replace H := Option.bind_eq_some_iff.mp H
    obtain ⟨t253, A90, H⟩ := H
    replace H : (some t253) = some r := H
    have A9 := zK A90
    clear A90
    obtain rfl := Option.some.inj H
    go_wp2_with (first | ((with_reducible refine zC (f := 10) rfl ?_); refine goesL_ (some 23) rfl rfl Try.func10 (by kernel_rfl) rfl #[] rfl (by (try simp only [List.map_toArray, List.map_cons, List.map_nil]); first | done | rfl | (simp only [List.length_drop, List.length_take]; rfl)) ?_; (with_reducible refine (sequiturlaw28_goes.calls kj4  t253 _ A9.out).mono ?_); rintro e w10 ⟨rfl, hb⟩; refine ⟨_, rfl, ?_⟩; have n0_ := zK (below_step (by repeat (first | (with_reducible first | exact HB.out | apply yA | apply yN | apply yD) | exact HB.out)) hb); clear HB; have HB := n0_; clear n0_; (try clear hb); (try clear hb2); (try clear hk); (try clear hi)))
    go_ret
    exact ⟨by first | rfl | (simp [errW_none, errW_some] <;> rfl) | (simp [*, errW_none, errW_some] <;> rfl), by repeat (first | (with_reducible first | exact HB.out | apply yA | apply yN | apply yD) | exact HB.out)⟩
   ·replace c8 := Bool.eq_false_iff.mpr c8
    subst c8
    have H1 : ((ineq_Sum.f kj4 l0 l1 a2).bind fun bt254 => ((ineq_All.f kj4 l0 l3).bind fun bt261 => (if bt254.2.2.2 = 0 then (if bt261.2 = 0 then (sequiturlaw28_IneqSound.j1 kj4 l3 (decide (bt261.1 ≥ 0)) bt254.1 bt254.2.1 bt254.2.2.1) else (sequiturlaw28_IneqSound.j1 kj4 l3 true bt254.1 bt254.2.1 bt254.2.2.1)) else (sequiturlaw28_IneqSound.j1 kj4 l3 true bt254.1 bt254.2.1 bt254.2.2.1)))) = some r := by rw [if_neg (show ¬ (false = true) by decide)] at H; exact H
    clear H
    have H := H1
    clear H1
    replace H := Option.bind_eq_some_iff.mp H
    obtain ⟨⟨t254, t255, t258, t259⟩, A110, H⟩ := H
    replace H : ((ineq_All.f kj4 l0 l3).bind fun bt261 => (if t259 = 0 then (if bt261.2 = 0 then (sequiturlaw28_IneqSound.j1 kj4 l3 (decide (bt261.1 ≥ 0)) t254 t255 t258) else (sequiturlaw28_IneqSound.j1 kj4 l3 true t254 t255 t258)) else (sequiturlaw28_IneqSound.j1 kj4 l3 true t254 t255 t258))) = some r := H
    have A11 := zK A110
    clear A110
    replace H := Option.bind_eq_some_iff.mp H
    obtain ⟨⟨t261, t262⟩, A120, H⟩ := H
    replace H : (if t259 = 0 then (if t262 = 0 then (sequiturlaw28_IneqSound.j1 kj4 l3 (decide (t261 ≥ 0)) t254 t255 t258) else (sequiturlaw28_IneqSound.j1 kj4 l3 true t254 t255 t258)) else (sequiturlaw28_IneqSound.j1 kj4 l3 true t254 t255 t258)) = some r := H
    have A12 := zK A120
    clear A120
    have HC13 := zK H
    clear H
    go_upto_region 5 with (first | ((with_reducible refine zC (f := 11) rfl ?_); refine goesL_ (some 28) rfl rfl Try.func11 (by kernel_rfl) rfl #[.slice A0 l0.length c0, .slice A1 l1.length c1, .int .i64 a2] rfl (by (try simp only [List.map_toArray, List.map_cons, List.map_nil]); first | done | rfl | (simp only [List.length_drop, List.length_take]; rfl)) ?_; (with_reducible refine (ineq_Sum.calls kj4 (fun k_ => k_ < w.heap.size) _ _ l0 _ _ l1 a2 t254 t255 t258 t259 _ ?side1 ?side2 ?side3 A11.out).mono ?_); (case side1 => exact Kd.V_mk HC0.out (Kd.F_below (Kd.C_F k30_heap HR0.out) (by repeat (first | (with_reducible first | exact HB.out | apply yA | apply yN | apply yD) | exact HB.out)))); (case side2 => repeat (first | exact (Kd.C_below HR1.out HB.out) | (with_reducible refine cA ?_ _) | (with_reducible refine cN ?_ _) | (with_reducible refine cD ?_))); (case side3 => exact HC1.out); rintro e w14 ⟨v256, rfl, ho0, hb⟩; refine ⟨_, rfl, ?_⟩; have n0_ := zK (Kd.R_lower (Kd.R_mono (ok' := fun k_ => True) ho0 (fun _ hk_ => trivial)) (below_size (by repeat (first | (with_reducible first | exact HB.out | apply yA | apply yN | apply yD) | exact HB.out)))); have n1_ := zK (below_step (by repeat (first | (with_reducible first | exact HB.out | apply yA | apply yN | apply yD) | exact HB.out)) hb); clear HB; have HO257 := n0_; have HB := n1_; clear n0_ n1_; (try clear hb); (try clear hb2); (try clear hk); (try clear hi); (try clear ho0)) | ((with_reducible refine gate_dst (N := 9) rfl ?_); (try (refine zG (by rfl) ?_; dsimp only)); refine box_event ?hg (N := 9) ?hd (cs := #[.int .i64 0, .slice none 0 0, .bool false]) (t := 30) ?hr ?_; (case hd => rfl); (case hg => rfl); (case hr => first | (go_simp; done) | (go_simp; rfl)); intro gb260 hg w15 hbox hb; have n0_ := zK (Kd.R_below (by (with_reducible repeat (first | apply Kd.R_alloc | apply Kd.R_drewN | apply Kd.R_drew)); exact HO257.out) hb); have n1_ := zK (below_step (by repeat (first | (with_reducible first | exact HB.out | apply yA | apply yN | apply yD) | exact HB.out)) hb); have n2_ := zK (hbox); have n3_ := zK ((by rw [hg]; exact (below_size (by repeat (first | (with_reducible first | exact HB.out | apply yA | apply yN | apply yD) | exact HB.out))) : w.heap.size ≤ gb260)); have n4_ := zK ((by rw [hg]; exact (below_size (by repeat (first | (with_reducible first | exact HB.out | apply yA | apply yN | apply yD) | exact HB.out))) : w.heap.size ≤ gb260)); clear HO257; clear HB; have HO257 := n0_; have HB := n1_; have BK260 := n2_; have GW260 := n3_; have GE260 := n4_; clear n0_ n1_ n2_ n3_ n4_; clear hb hbox hg; have hcz16_0 : w15.cell? ⟨gb260, 0, none⟩ = some (.int .i64 0) := (blk_cell BK260.out 0).trans rfl; have hcz16_1 : w15.cell? ⟨gb260, 1, none⟩ = some (.slice none 0 0) := (blk_cell BK260.out 1).trans rfl; have hcz16_2 : w15.cell? ⟨gb260, 2, none⟩ = some (.bool false) := (blk_cell BK260.out 2).trans rfl; have hfz16_0 := blk_frozen BK260.out 0; have hfz16_1 := blk_frozen BK260.out 1; have hfz16_2 := blk_frozen BK260.out 2; obtain ⟨Ao17, co17, eo17⟩ := Kd.R_slice HO257.out; subst eo17) | ((with_reducible refine zC (f := 27) rfl ?_); refine goesL_ (some 34) rfl rfl Try.func27 (by kernel_rfl) rfl #[.slice A0 l0.length c0, .slice A3 l3.length c3] rfl (by (try simp only [List.map_toArray, List.map_cons, List.map_nil]); first | done | rfl | (simp only [List.length_drop, List.length_take]; rfl)) ?_; (with_reducible refine (ineq_All.calls kj4 _ _ l0 _ _ l3 t261 t262 _ ?side1 ?side2 ?side3 ?side4 A12.out).mono ?_); (case side1 => exact Kd.C_below HR0.out (by repeat (first | (with_reducible first | exact HB.out | apply yA | apply yN | apply yD | refine yS ?_ GE260.out) | exact HB.out))); (case side2 => exact HC0.out); (case side3 => exact Kd.C_below HR3.out (by repeat (first | (with_reducible first | exact HB.out | apply yA | apply yN | apply yD | refine yS ?_ GE260.out) | exact HB.out))); (case side4 => exact HC3.out); rintro e w18 ⟨rfl, hb⟩; refine ⟨_, rfl, ?_⟩; have n0_ := zK (Kd.R_below (by (with_reducible repeat (first | apply Kd.R_alloc | apply Kd.R_drewN | apply Kd.R_drew)); exact (Kd.R_mono (Kd.R_far (p := ⟨gb260, 2, none⟩) (Kd.R_far (p := ⟨gb260, 1, none⟩) (Kd.R_far (p := ⟨gb260, 0, none⟩) (Kd.R_types HO257.out BK260.out (by decide)) (fun _ hk => hk.2) (.int .i64 t254)) (fun _ hk => hk.2) (.slice Ao17 t255.length co17)) (fun _ hk => hk.2) (.bool t258)) (fun _ h_ => h_.1))) hb); have n1_ := zK (blk_below (g := gb260) (o := .cells #[.int .i64 t254, .slice Ao17 t255.length co17, .bool t258] 30 (0, 0)) (by (with_reducible repeat (first | refine zN ?_ _ | refine zD ?_ | refine zA ?_ _)); refine blk_put (cs := #[.int .i64 t254, .slice Ao17 t255.length co17, .bool false]) ?_ 2 _ rfl; (with_reducible repeat (first | refine zN ?_ _ | refine zD ?_ | refine zA ?_ _)); refine blk_put (cs := #[.int .i64 t254, .slice none 0 0, .bool false]) ?_ 1 _ rfl; (with_reducible repeat (first | refine zN ?_ _ | refine zD ?_ | refine zA ?_ _)); refine blk_put (cs := #[.int .i64 0, .slice none 0 0, .bool false]) ?_ 0 _ rfl; (with_reducible repeat (first | refine zN ?_ _ | refine zD ?_ | refine zA ?_ _)); exact BK260.out) hb); have n2_ := zK (below_step (by repeat (first | (with_reducible first | exact HB.out | apply yA | apply yN | apply yD | refine yS ?_ GE260.out) | exact HB.out)) hb); clear HO257; clear BK260; clear HB; have HO257 := n0_; have BK260 := n1_; have HB := n2_; clear n0_ n1_ n2_; (try clear hb); (try clear hb2); (try clear hk); (try clear hi)))
    (try simp only [Act.put, List.setIfInBounds_toArray, List.set_cons_zero, List.set_cons_succ])
    go_cut [46] (fun v46 wc => ∃ (kq : Nat) (x46_12 : Bool), v46 = .bool x46_12 ∧ Aside0 (sequiturlaw28_IneqSound.j1 kq l3 x46_12 t254 t255 t258 = some r) ∧ Aside0 (kq ≤ kj4) ∧ Aside0 (Kd.R k47 47 wc w.heap.size (fun _ => True) (.slice Ao17 t255.length co17) t255) ∧ Aside0 (wc.heap[gb260]? = some (.cells #[.int .i64 t254, (.slice Ao17 t255.length co17), .bool t258] 30 (0, 0))) ∧ Aside0 (Below w.heap.size w wc))
    case first =>
     have H := HC13.out
     clear HC13
     by_cases c19 : t259 = 0
     ·rw [if_pos c19] at H
      have c19b0 : (t259 == 0) = true := beq_iff_eq.mpr c19
      have c19b1 : (t259 != 0) = false := bne_eq_false_iff_eq.mpr c19
      clear c19
      (first | rw [c19b0] | (simp only [i64_w, i32_w]; rw [c19b0]) | skip)
      by_cases c20 : t262 = 0
      ·rw [if_pos c20] at H
       have c20b0 : (t262 == 0) = true := beq_iff_eq.mpr c20
       have c20b1 : (t262 != 0) = false := bne_eq_false_iff_eq.mpr c20
       clear c20
       have H' := zK H
       clear H
       go_wp2
       go_meet
       case rel => exact ⟨_, (decide (t261 ≥ 0)), (by first | rfl | (simp; done) | (simp [*]; done)), H', ⟨by have := HJ4.out; first | omega | exact Nat.le_refl _⟩, ⟨by (with_reducible repeat (first | apply Kd.R_alloc | apply Kd.R_drewN | apply Kd.R_drew)); exact HO257.out⟩, ⟨by (with_reducible repeat (first | refine zN ?_ _ | refine zD ?_ | refine zA ?_ _)); exact BK260.out⟩, ⟨by repeat (first | (with_reducible first | exact HB.out | apply yA | apply yN | apply yD | refine yS ?_ GE260.out) | exact HB.out)⟩⟩
      ·rw [if_neg c20] at H
       have c20b0 : (t262 == 0) = false := beq_eq_false_iff_ne.mpr c20
       have c20b1 : (t262 != 0) = true := bne_iff_ne.mpr c20
       have H' := zK H
       clear H
       go_wp2
       go_meet
       case rel => exact ⟨_, (true), (by first | rfl | (simp; done) | (simp [*]; done)), H', ⟨by have := HJ4.out; first | omega | exact Nat.le_refl _⟩, ⟨by (with_reducible repeat (first | apply Kd.R_alloc | apply Kd.R_drewN | apply Kd.R_drew)); exact HO257.out⟩, ⟨by (with_reducible repeat (first | refine zN ?_ _ | refine zD ?_ | refine zA ?_ _)); exact BK260.out⟩, ⟨by repeat (first | (with_reducible first | exact HB.out | apply yA | apply yN | apply yD | refine yS ?_ GE260.out) | exact HB.out)⟩⟩
     ·rw [if_neg c19] at H
      have c19b0 : (t259 == 0) = false := beq_eq_false_iff_ne.mpr c19
      have c19b1 : (t259 != 0) = true := bne_iff_ne.mpr c19
      (first | rw [c19b0] | (simp only [i64_w, i32_w]; rw [c19b0]) | skip)
      have H' := zK H
      clear H
      go_wp2
      go_meet
      case rel => exact ⟨_, (true), (by first | rfl | (simp; done) | (simp [*]; done)), H', ⟨by have := HJ4.out; first | omega | exact Nat.le_refl _⟩, ⟨by (with_reducible repeat (first | apply Kd.R_alloc | apply Kd.R_drewN | apply Kd.R_drew)); exact HO257.out⟩, ⟨by (with_reducible repeat (first | refine zN ?_ _ | refine zD ?_ | refine zA ?_ _)); exact BK260.out⟩, ⟨by repeat (first | (with_reducible first | exact HB.out | apply yA | apply yN | apply yD | refine yS ?_ GE260.out) | exact HB.out)⟩⟩
    case rest =>
     clear HC13
     try clear c1
     try clear c2
     try clear p2
     try clear c3
     try clear c7
     try clear c8
     try clear c9
     try clear c10
     try clear c11
     try clear c19
     try clear c19b0
     try clear c19b1
     try clear c20
     try clear c20b0
     try clear c20b1
     try clear hcz16_0
     try clear hcz16_1
     try clear hcz16_2
     try clear hfz16_0
     try clear hfz16_1
     try clear hfz16_2
     try clear p2
     obtain ⟨kq, x46_12, rfl, HA, HJ12, HO_261001, BK260, HB⟩ := hcut
     cases kq with
     | zero => exact absurd HA.out (by simp [sequiturlaw28_IneqSound.j1])
     | succ kj12 =>
      have H := HA.out
      clear HA
      simp only [sequiturlaw28_IneqSound.j1] at H
      by_cases c21 : x46_12 = true
      ·subst c21
       have H1 : ((sequiturlaw28_goes.f kj12).bind fun t263 => (some t263)) = some r := by rw [if_pos rfl] at H; exact H
       clear H
       have H := H1
       clear H1
       replace H := Option.bind_eq_some_iff.mp H
       obtain ⟨t263, A220, H⟩ := H
       replace H : (some t263) = some r := H
       have A22 := zK A220
       clear A220
       obtain rfl := Option.some.inj H
       go_wp2_with (first | ((with_reducible refine zC (f := 10) rfl ?_); refine goesL_ (some 47) rfl rfl Try.func10 (by kernel_rfl) rfl #[] rfl (by (try simp only [List.map_toArray, List.map_cons, List.map_nil]); first | done | rfl | (simp only [List.length_drop, List.length_take]; rfl)) ?_; (with_reducible refine (sequiturlaw28_goes.calls kj12  t263 _ A22.out).mono ?_); rintro e w23 ⟨rfl, hb⟩; refine ⟨_, rfl, ?_⟩; have n0_ := zK (Kd.R_below (by (with_reducible repeat (first | apply Kd.R_alloc | apply Kd.R_drewN | apply Kd.R_drew)); exact HO_261001.out) hb); have n1_ := zK (blk_below (g := gb260) (o := .cells #[.int .i64 t254, .slice Ao17 t255.length co17, .bool t258] 30 (0, 0)) (by (with_reducible repeat (first | refine zN ?_ _ | refine zD ?_ | refine zA ?_ _)); exact BK260.out) hb); have n2_ := zK (below_step (by repeat (first | (with_reducible first | exact HB.out | apply yA | apply yN | apply yD | refine yS ?_ GE260.out) | exact HB.out)) hb); clear HO_261001; clear BK260; clear HB; have HO_261001 := n0_; have BK260 := n1_; have HB := n2_; clear n0_ n1_ n2_; (try clear hb); (try clear hb2); (try clear hk); (try clear hi)))
       go_ret
       exact ⟨by first | rfl | (simp [errW_none, errW_some] <;> rfl) | (simp [*, errW_none, errW_some] <;> rfl), by repeat (first | (with_reducible first | exact HB.out | apply yA | apply yN | apply yD | refine yS ?_ GE260.out) | exact HB.out)⟩
      ·replace c21 := Bool.eq_false_iff.mpr c21
       subst c21
       have H1 : ((ineq_Holds.f kj12 t254 t255 t258 l3).bind fun bt264 => (if bt264.1 = true then ((ineq_Absurd.f kj12 t254 t255 t258).bind fun t266 => (if t266 = true then (none) else ((sequiturlaw28_goes.f kj12).bind fun t267 => (some t267)))) else (if bt264.2 = 5 then ((ineq_Absurd.f kj12 t254 t255 t258).bind fun t268 => (if t268 = true then (none) else ((sequiturlaw28_goes.f kj12).bind fun t269 => (some t269)))) else (none)))) = some r := by rw [if_neg (show ¬ (false = true) by decide)] at H; exact H
       clear H
       have H := H1
       clear H1
       replace H := Option.bind_eq_some_iff.mp H
       obtain ⟨⟨t264, t265⟩, A240, H⟩ := H
       replace H : (if t264 = true then ((ineq_Absurd.f kj12 t254 t255 t258).bind fun t266 => (if t266 = true then (none) else ((sequiturlaw28_goes.f kj12).bind fun t267 => (some t267)))) else (if t265 = 5 then ((ineq_Absurd.f kj12 t254 t255 t258).bind fun t268 => (if t268 = true then (none) else ((sequiturlaw28_goes.f kj12).bind fun t269 => (some t269)))) else (none))) = some r := H
       have A24 := zK A240
       clear A240
       by_cases c25 : t264 = true
       ·subst c25
        have H1 : ((ineq_Absurd.f kj12 t254 t255 t258).bind fun t266 => (if t266 = true then (none) else ((sequiturlaw28_goes.f kj12).bind fun t267 => (some t267)))) = some r := by rw [if_pos rfl] at H; exact H
        clear H
        have H := H1
        clear H1
        replace H := Option.bind_eq_some_iff.mp H
        obtain ⟨t266, A260, H⟩ := H
        replace H : (if t266 = true then (none) else ((sequiturlaw28_goes.f kj12).bind fun t267 => (some t267))) = some r := H
        have A26 := zK A260
        clear A260
        by_cases c27 : t266 = true
        ·subst c27
         have H1 : (none) = some r := by rw [if_pos rfl] at H; exact H
         clear H
         have H := H1
         clear H1
         exact absurd H (by simp)
        ·replace c27 := Bool.eq_false_iff.mpr c27
         subst c27
         have H1 : ((sequiturlaw28_goes.f kj12).bind fun t267 => (some t267)) = some r := by rw [if_neg (show ¬ (false = true) by decide)] at H; exact H
         clear H
         have H := H1
         clear H1
         replace H := Option.bind_eq_some_iff.mp H
         obtain ⟨t267, A280, H⟩ := H
         replace H : (some t267) = some r := H
         have A28 := zK A280
         clear A280
         obtain rfl := Option.some.inj H
         have hcz29_0 : wc.cell? ⟨gb260, 0, none⟩ = some (.int .i64 t254) := (blk_cell BK260.out 0).trans rfl
         have hcz29_1 : wc.cell? ⟨gb260, 1, none⟩ = some (.slice Ao17 t255.length co17) := (blk_cell BK260.out 1).trans rfl
         have hcz29_2 : wc.cell? ⟨gb260, 2, none⟩ = some (.bool t258) := (blk_cell BK260.out 2).trans rfl
         have hfz29_0 := blk_frozen BK260.out 0
         have hfz29_1 := blk_frozen BK260.out 1
         have hfz29_2 := blk_frozen BK260.out 2
         go_wp2_with (first | ((with_reducible refine zC (f := 14) rfl ?_); refine goesL_ (some 51) rfl rfl Try.func14 (by kernel_rfl) rfl #[.agg #[.int .i64 t254, .slice Ao17 t255.length co17, .bool t258], .slice A3 l3.length c3] rfl (by (try simp only [List.map_toArray, List.map_cons, List.map_nil]); first | done | rfl | (simp only [List.length_drop, List.length_take]; rfl)) ?_; (with_reducible refine (ineq_Holds.calls kj12 t254 _ _ t255 t258 _ _ l3 true t265 _ ?side1 ?side2 ?side3 ?side4 A24.out).mono ?_); (case side1 => repeat (first | exact (Kd.R_reads' HO_261001.out).2.2 | (with_reducible refine cA ?_ _) | (with_reducible refine cN ?_ _) | (with_reducible refine cD ?_))); (case side2 => exact (Kd.R_reads' HO_261001.out).2.1); (case side3 => repeat (first | exact (Kd.C_below HR3.out HB.out) | (with_reducible refine cA ?_ _) | (with_reducible refine cN ?_ _) | (with_reducible refine cD ?_))); (case side4 => exact HC3.out); rintro e w30 ⟨rfl, hb⟩; refine ⟨_, rfl, ?_⟩; have n0_ := zK (Kd.R_below (by (with_reducible repeat (first | apply Kd.R_alloc | apply Kd.R_drewN | apply Kd.R_drew)); exact HO_261001.out) hb); have n1_ := zK (blk_below (g := gb260) (o := .cells #[.int .i64 t254, .slice Ao17 t255.length co17, .bool t258] 30 (0, 0)) (by (with_reducible repeat (first | refine zN ?_ _ | refine zD ?_ | refine zA ?_ _)); exact BK260.out) hb); have n2_ := zK (below_step (by repeat (first | (with_reducible first | exact HB.out | apply yA | apply yN | apply yD | refine yS ?_ GE260.out) | exact HB.out)) hb); clear HO_261001; clear BK260; clear HB; have HO_261001 := n0_; have BK260 := n1_; have HB := n2_; clear n0_ n1_ n2_; (try clear hb); (try clear hb2); (try clear hk); (try clear hi); have hcz31_0 : w30.cell? ⟨gb260, 0, none⟩ = some (.int .i64 t254) := (blk_cell BK260.out 0).trans rfl; have hcz31_1 : w30.cell? ⟨gb260, 1, none⟩ = some (.slice Ao17 t255.length co17) := (blk_cell BK260.out 1).trans rfl; have hcz31_2 : w30.cell? ⟨gb260, 2, none⟩ = some (.bool t258) := (blk_cell BK260.out 2).trans rfl; have hfz31_0 := blk_frozen BK260.out 0; have hfz31_1 := blk_frozen BK260.out 1; have hfz31_2 := blk_frozen BK260.out 2) | (go_at_call 19; (with_reducible refine (ineq_Absurd.calls kj12 t254 _ _ t255 t258 false _ ?side1 ?side2 A26.out).mono ?_); (case side1 => repeat (first | exact (Kd.R_reads' HO_261001.out).2.2 | (with_reducible refine cA ?_ _) | (with_reducible refine cN ?_ _) | (with_reducible refine cD ?_))); (case side2 => exact (Kd.R_reads' HO_261001.out).2.1); rintro e w32 ⟨rfl, hb⟩; have n0_ := zK (Kd.R_below (by (with_reducible repeat (first | apply Kd.R_alloc | apply Kd.R_drewN | apply Kd.R_drew)); exact HO_261001.out) hb); have n1_ := zK (blk_below (g := gb260) (o := .cells #[.int .i64 t254, .slice Ao17 t255.length co17, .bool t258] 30 (0, 0)) (by (with_reducible repeat (first | refine zN ?_ _ | refine zD ?_ | refine zA ?_ _)); exact BK260.out) hb); have n2_ := zK (below_step (by repeat (first | (with_reducible first | exact HB.out | apply yA | apply yN | apply yD | refine yS ?_ GE260.out) | exact HB.out)) hb); clear HO_261001; clear BK260; clear HB; have HO_261001 := n0_; have BK260 := n1_; have HB := n2_; clear n0_ n1_ n2_; (try clear hb); (try clear hb2); (try clear hk); (try clear hi)) | (go_at_call 10; (with_reducible refine (sequiturlaw28_goes.calls kj12  t267 _ A28.out).mono ?_); rintro e w33 ⟨rfl, hb⟩; have n0_ := zK (Kd.R_below (by (with_reducible repeat (first | apply Kd.R_alloc | apply Kd.R_drewN | apply Kd.R_drew)); exact HO_261001.out) hb); have n1_ := zK (blk_below (g := gb260) (o := .cells #[.int .i64 t254, .slice Ao17 t255.length co17, .bool t258] 30 (0, 0)) (by (with_reducible repeat (first | refine zN ?_ _ | refine zD ?_ | refine zA ?_ _)); exact BK260.out) hb); have n2_ := zK (below_step (by repeat (first | (with_reducible first | exact HB.out | apply yA | apply yN | apply yD | refine yS ?_ GE260.out) | exact HB.out)) hb); clear HO_261001; clear BK260; clear HB; have HO_261001 := n0_; have BK260 := n1_; have HB := n2_; clear n0_ n1_ n2_; (try clear hb); (try clear hb2); (try clear hk); (try clear hi)))
         go_ret
         exact ⟨by first | rfl | (simp [errW_none, errW_some] <;> rfl) | (simp [*, errW_none, errW_some] <;> rfl), by repeat (first | (with_reducible first | exact HB.out | apply yA | apply yN | apply yD | refine yS ?_ GE260.out) | exact HB.out)⟩
       ·replace c25 := Bool.eq_false_iff.mpr c25
        subst c25
        have H1 : (if t265 = 5 then ((ineq_Absurd.f kj12 t254 t255 t258).bind fun t268 => (if t268 = true then (none) else ((sequiturlaw28_goes.f kj12).bind fun t269 => (some t269)))) else (none)) = some r := by rw [if_neg (show ¬ (false = true) by decide)] at H; exact H
        clear H
        have H := H1
        clear H1
        by_cases c34 : t265 = 5
        ·rw [if_pos c34] at H
         have c34b0 : (t265 == 5) = true := beq_iff_eq.mpr c34
         have c34b1 : (t265 != 5) = false := bne_eq_false_iff_eq.mpr c34
         clear c34
         replace H := Option.bind_eq_some_iff.mp H
         obtain ⟨t268, A350, H⟩ := H
         replace H : (if t268 = true then (none) else ((sequiturlaw28_goes.f kj12).bind fun t269 => (some t269))) = some r := H
         have A35 := zK A350
         clear A350
         by_cases c36 : t268 = true
         ·subst c36
          have H1 : (none) = some r := by rw [if_pos rfl] at H; exact H
          clear H
          have H := H1
          clear H1
          exact absurd H (by simp)
         ·replace c36 := Bool.eq_false_iff.mpr c36
          subst c36
          have H1 : ((sequiturlaw28_goes.f kj12).bind fun t269 => (some t269)) = some r := by rw [if_neg (show ¬ (false = true) by decide)] at H; exact H
          clear H
          have H := H1
          clear H1
          replace H := Option.bind_eq_some_iff.mp H
          obtain ⟨t269, A370, H⟩ := H
          replace H : (some t269) = some r := H
          have A37 := zK A370
          clear A370
          obtain rfl := Option.some.inj H
          have hcz38_0 : wc.cell? ⟨gb260, 0, none⟩ = some (.int .i64 t254) := (blk_cell BK260.out 0).trans rfl
          have hcz38_1 : wc.cell? ⟨gb260, 1, none⟩ = some (.slice Ao17 t255.length co17) := (blk_cell BK260.out 1).trans rfl
          have hcz38_2 : wc.cell? ⟨gb260, 2, none⟩ = some (.bool t258) := (blk_cell BK260.out 2).trans rfl
          have hfz38_0 := blk_frozen BK260.out 0
          have hfz38_1 := blk_frozen BK260.out 1
          have hfz38_2 := blk_frozen BK260.out 2
          go_wp2_with (first | ((with_reducible refine zC (f := 14) rfl ?_); refine goesL_ (some 51) rfl rfl Try.func14 (by kernel_rfl) rfl #[.agg #[.int .i64 t254, .slice Ao17 t255.length co17, .bool t258], .slice A3 l3.length c3] rfl (by (try simp only [List.map_toArray, List.map_cons, List.map_nil]); first | done | rfl | (simp only [List.length_drop, List.length_take]; rfl)) ?_; (with_reducible refine (ineq_Holds.calls kj12 t254 _ _ t255 t258 _ _ l3 false t265 _ ?side1 ?side2 ?side3 ?side4 A24.out).mono ?_); (case side1 => repeat (first | exact (Kd.R_reads' HO_261001.out).2.2 | (with_reducible refine cA ?_ _) | (with_reducible refine cN ?_ _) | (with_reducible refine cD ?_))); (case side2 => exact (Kd.R_reads' HO_261001.out).2.1); (case side3 => repeat (first | exact (Kd.C_below HR3.out HB.out) | (with_reducible refine cA ?_ _) | (with_reducible refine cN ?_ _) | (with_reducible refine cD ?_))); (case side4 => exact HC3.out); rintro e w39 ⟨rfl, hb⟩; refine ⟨_, rfl, ?_⟩; have n0_ := zK (Kd.R_below (by (with_reducible repeat (first | apply Kd.R_alloc | apply Kd.R_drewN | apply Kd.R_drew)); exact HO_261001.out) hb); have n1_ := zK (blk_below (g := gb260) (o := .cells #[.int .i64 t254, .slice Ao17 t255.length co17, .bool t258] 30 (0, 0)) (by (with_reducible repeat (first | refine zN ?_ _ | refine zD ?_ | refine zA ?_ _)); exact BK260.out) hb); have n2_ := zK (below_step (by repeat (first | (with_reducible first | exact HB.out | apply yA | apply yN | apply yD | refine yS ?_ GE260.out) | exact HB.out)) hb); clear HO_261001; clear BK260; clear HB; have HO_261001 := n0_; have BK260 := n1_; have HB := n2_; clear n0_ n1_ n2_; (try clear hb); (try clear hb2); (try clear hk); (try clear hi); have hcz40_0 : w39.cell? ⟨gb260, 0, none⟩ = some (.int .i64 t254) := (blk_cell BK260.out 0).trans rfl; have hcz40_1 : w39.cell? ⟨gb260, 1, none⟩ = some (.slice Ao17 t255.length co17) := (blk_cell BK260.out 1).trans rfl; have hcz40_2 : w39.cell? ⟨gb260, 2, none⟩ = some (.bool t258) := (blk_cell BK260.out 2).trans rfl; have hfz40_0 := blk_frozen BK260.out 0; have hfz40_1 := blk_frozen BK260.out 1; have hfz40_2 := blk_frozen BK260.out 2) | (go_at_call 19; (with_reducible refine (ineq_Absurd.calls kj12 t254 _ _ t255 t258 false _ ?side1 ?side2 A35.out).mono ?_); (case side1 => repeat (first | exact (Kd.R_reads' HO_261001.out).2.2 | (with_reducible refine cA ?_ _) | (with_reducible refine cN ?_ _) | (with_reducible refine cD ?_))); (case side2 => exact (Kd.R_reads' HO_261001.out).2.1); rintro e w41 ⟨rfl, hb⟩; have n0_ := zK (Kd.R_below (by (with_reducible repeat (first | apply Kd.R_alloc | apply Kd.R_drewN | apply Kd.R_drew)); exact HO_261001.out) hb); have n1_ := zK (blk_below (g := gb260) (o := .cells #[.int .i64 t254, .slice Ao17 t255.length co17, .bool t258] 30 (0, 0)) (by (with_reducible repeat (first | refine zN ?_ _ | refine zD ?_ | refine zA ?_ _)); exact BK260.out) hb); have n2_ := zK (below_step (by repeat (first | (with_reducible first | exact HB.out | apply yA | apply yN | apply yD | refine yS ?_ GE260.out) | exact HB.out)) hb); clear HO_261001; clear BK260; clear HB; have HO_261001 := n0_; have BK260 := n1_; have HB := n2_; clear n0_ n1_ n2_; (try clear hb); (try clear hb2); (try clear hk); (try clear hi)) | (go_at_call 10; (with_reducible refine (sequiturlaw28_goes.calls kj12  t269 _ A37.out).mono ?_); rintro e w42 ⟨rfl, hb⟩; have n0_ := zK (Kd.R_below (by (with_reducible repeat (first | apply Kd.R_alloc | apply Kd.R_drewN | apply Kd.R_drew)); exact HO_261001.out) hb); have n1_ := zK (blk_below (g := gb260) (o := .cells #[.int .i64 t254, .slice Ao17 t255.length co17, .bool t258] 30 (0, 0)) (by (with_reducible repeat (first | refine zN ?_ _ | refine zD ?_ | refine zA ?_ _)); exact BK260.out) hb); have n2_ := zK (below_step (by repeat (first | (with_reducible first | exact HB.out | apply yA | apply yN | apply yD | refine yS ?_ GE260.out) | exact HB.out)) hb); clear HO_261001; clear BK260; clear HB; have HO_261001 := n0_; have BK260 := n1_; have HB := n2_; clear n0_ n1_ n2_; (try clear hb); (try clear hb2); (try clear hk); (try clear hi)))
          go_ret
          exact ⟨by first | rfl | (simp [errW_none, errW_some] <;> rfl) | (simp [*, errW_none, errW_some] <;> rfl), by repeat (first | (with_reducible first | exact HB.out | apply yA | apply yN | apply yD | refine yS ?_ GE260.out) | exact HB.out)⟩
        ·rw [if_neg c34] at H
         exact absurd H (by simp)

end Go.Proofs.Ytmedciidghmkkaa.PIneqSound
