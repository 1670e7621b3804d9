/- What the call of each function that the law reaches comes to: it answers as the plain function of the same name does, wherever that one answers; and the law itself out of its plain form. Written by a program of this session (an extended copy of the printer); no condition but what stands in each theorem. -/
import Derived.Test.YtmedciidghmkkaaDoorPLinValuesx0
import Derived.Test.YtmedciidghmkkaaDoorPLinValuesx2
import Derived.Test.YtmedciidghmkkaaDoorPLinValuesx3
namespace Go.Proofs.YtmedciidghmkkaaDoor.PLinValues
open Go.RowKit Go.Proofs.YtmedciidghmkkaaDoorW.PrintWords Go.Proofs.YtmedciidghmkkaaDoorW.PrintLast Go.Proofs.YtmedciidghmkkaaDoorW.PrintMore
open Go.Proofs.YtmedciidghmkkaaDoorW.PrintWords renaming blk_drew → zD, below_alloc → yA, pw_below_drewN → yN, below_drew1 → yD, below_set → yS
open Go.Proofs.YtmedciidghmkkaaDoorW.PrintWords.Aside0 renaming mk → zK
attribute [local go_sem] max2_int min2_int max_two min_two max_three min_three max_four min_four   -- for this text's walks alone
set_option linter.unusedVariables false
set_option linter.unusedSimpArgs false

/-! ### sequiturref27_Long: function 9 -/
def sequiturref27_Long.l0 : Nat → List (S28) → Int → Option (Bool)
 | 0, _, _ => none
 | k + 1, x0, x5 => if x5 < (x0.length : Int) then (if 0 ≤ x5 then (if (((rd_T28 x0 x5).f1).length : Int) > 70 then (some true) else (sequiturref27_Long.l0 k x0 (wrap64 (x5 + 1)))) else (none)) else (some false)
def sequiturref27_Long.f (k : Nat) (l0 : List (S28)) (a1 : Int) : Option (Bool) := if (l0.length : Int) > a1 then (some true) else (sequiturref27_Long.l0 k l0 0)
theorem sequiturref27_Long.mono_l : ∀ k, (∀ y0 y1, LeO (sequiturref27_Long.l0 k y0 y1) (sequiturref27_Long.l0 (k + 1) y0 y1))
 | 0 => fun _ _ r h => by simp [sequiturref27_Long.l0] at h
 | k + 1 => by
  have ih0 := sequiturref27_Long.mono_l k
  ·intro y0 y1
   unfold sequiturref27_Long.l0
   repeat' first
   | (with_reducible exact ih0 _ _)
   | (with_reducible exact LeO.refl _)
   | (with_reducible exact LeO.none _)
   | (with_reducible refine LeO.ite ?_ ?_)
   | (with_reducible refine LeO.bind ?_ (fun _ => ?_))
   | exact ih0 _ _
   | exact LeO.none _
   | refine LeO.ite ?_ ?_
   | refine LeO.bind ?_ (fun _ => ?_)
theorem sequiturref27_Long.mono : ∀ a0 a1 k, LeO (sequiturref27_Long.f k a0 a1) (sequiturref27_Long.f (k + 1) a0 a1) := by
 intro a0 a1 k
 have ih0 := sequiturref27_Long.mono_l k
 unfold sequiturref27_Long.f
 repeat' first
   | (with_reducible exact ih0 _ _)
   | (with_reducible exact LeO.refl _)
   | (with_reducible exact LeO.none _)
   | (with_reducible refine LeO.ite ?_ ?_)
   | (with_reducible refine LeO.bind ?_ (fun _ => ?_))
   | exact ih0 _ _
   | exact LeO.none _
   | refine LeO.ite ?_ ?_
   | refine LeO.bind ?_ (fun _ => ?_)
set_option maxHeartbeats 8000000 in
set_option maxRecDepth 100000 in
theorem sequiturref27_Long.calls (k : Nat) (A0 : Option Addr) (c0 : Nat) (l0 : List (S28)) (a1 : Int) (r : Bool) (w : World) (hr0 : Kd.C k28 w A0 l0.length l0) (hc0 : l0.length ≤ c0) (h : sequiturref27_Long.f k l0 a1 = some r) :
  Calls Tryd.prog 9 #[.slice A0 l0.length c0, .int .i64 a1] w fun e w' => e = .returned (.bool r) ∧ Drawn0 w w' := by
 have HR0 := zK hr0
 have HC0 := zK hc0
 clear hr0 hc0
 have H : (if (l0.length : Int) > a1 then (some true) else (sequiturref27_Long.l0 k l0 0)) = some r := h
 clear h
 by_cases c3 : (l0.length : Int) > a1
 ·rw [if_pos c3] at H
  have c3b0 : decide (a1 < (l0.length : Int)) = true := decide_eq_true c3
  clear c3
  obtain rfl := Option.some.inj H
  go_enter Tryd.func9, Tryd.ntmps9
  go_wp2
  go_ret
  exact ⟨by first | rfl | (simp; done) | (simp [*]; done), by repeat (first | exact Drawn0.refl _ | apply Drawn0.step)⟩
 ·rw [if_neg c3] at H
  have c3b0 : decide (a1 < (l0.length : Int)) = false := decide_eq_false c3
  clear c3
  have H' := zK H
  clear H
  go_enter Tryd.func9, Tryd.ntmps9
  go_wp2
  go_loopg [5] k (fun kq v5 w' => ∃ (x5_1 : Int), v5 = .int .i64 x5_1 ∧ Aside0 (sequiturref27_Long.l0 kq l0 x5_1 = some r) ∧ Aside0 (kq ≤ k) ∧ Drawn0 w w')
  case atStart => exact ⟨(0), (by first | rfl | (simp; done) | (simp [*]; done)), H', ⟨Nat.le_refl _⟩, by repeat (first | exact Drawn0.refl _ | apply Drawn0.step)⟩
  case round =>
   clear H'
   try clear p2
   try clear c3
   try clear c3b0
   obtain ⟨x5_1, rfl, HA, HK1, ⟨m1, rfl⟩⟩ := hrel
   cases gk with
   | zero => exact absurd HA.out (by simp [sequiturref27_Long.l0])
   | succ k1 =>
    have H := HA.out
    clear HA
    simp only [sequiturref27_Long.l0] at H
    by_cases c4 : x5_1 < (l0.length : Int)
    ·rw [if_pos c4] at H
     have c4b0 : decide (x5_1 < (l0.length : Int)) = true := decide_eq_true c4
     clear c4
     by_cases c5 : 0 ≤ x5_1
     ·rw [if_pos c5] at H
      have c5b0 : decide (0 ≤ x5_1) = true := decide_eq_true c5
      clear c5
      by_cases c6 : (((rd_T28 l0 x5_1).f1).length : Int) > 70
      ·rw [if_pos c6] at H
       have c6b0 : decide (70 < (((rd_T28 l0 x5_1).f1).length : Int)) = true := decide_eq_true c6
       have c6b1 : decide (70 < ((rd_T28 l0 x5_1).f1).length) = true := decide_eq_true (by omega)
       clear c6
       obtain rfl := Option.some.inj H
       have p235 : 0 ≤ (x5_1 : Int) := of_decide_eq_true (by first | (with_reducible assumption) | assumption)
       have q235 : x5_1 < (l0.length : Int) := of_decide_eq_true (by first | (with_reducible assumption) | assumption)
       obtain ⟨ad235, A235_1, c235_1, e235, hx235_0, hx235_1, hl235_1, hi235_1⟩ := at_T28 HR0.out x5_1 p235 q235
       cases e235
       have HR235_1 := zK hi235_1
       have HC235_1 := zK hl235_1
       clear hi235_1 hl235_1
       replace p235 := eq_true p235
       replace q235 := eq_true q235
       go_wp2
       go_ret
       exact ⟨by first | rfl | (simp; done) | (simp [*]; done), by repeat (first | exact Drawn0.refl _ | apply Drawn0.step)⟩
      ·rw [if_neg c6] at H
       have c6b0 : decide (70 < (((rd_T28 l0 x5_1).f1).length : Int)) = false := decide_eq_false c6
       have c6b1 : decide (70 < ((rd_T28 l0 x5_1).f1).length) = false := decide_eq_false (by omega)
       clear c6
       have H' := zK H
       clear H
       have p235 : 0 ≤ (x5_1 : Int) := of_decide_eq_true (by first | (with_reducible assumption) | assumption)
       have q235 : x5_1 < (l0.length : Int) := of_decide_eq_true (by first | (with_reducible assumption) | assumption)
       obtain ⟨ad235, A235_1, c235_1, e235, hx235_0, hx235_1, hl235_1, hi235_1⟩ := at_T28 HR0.out x5_1 p235 q235
       cases e235
       have HR235_1 := zK hi235_1
       have HC235_1 := zK hl235_1
       clear hi235_1 hl235_1
       replace p235 := eq_true p235
       replace q235 := eq_true q235
       go_wp2
       go_roundg k1
       case measure => have := HK1.out; omega
       case rel => exact ⟨(wrap64 (x5_1 + 1)), (by first | rfl | (simp; done) | (simp [*]; done)), H', ⟨by have := HK1.out; omega⟩, by repeat (first | exact Drawn0.refl _ | apply Drawn0.step)⟩
     ·rw [if_neg c5] at H
      exact absurd H (by simp)
    ·rw [if_neg c4] at H
     have c4b0 : decide (x5_1 < (l0.length : Int)) = false := decide_eq_false c4
     clear c4
     obtain rfl := Option.some.inj H
     go_wp2
     go_ret
     exact ⟨by first | rfl | (simp; done) | (simp [*]; done), by repeat (first | exact Drawn0.refl _ | apply Drawn0.step)⟩

/-! ### lin_Eval: function 17, by hand -/
theorem lit_event {P : Program} {ops : Array Oper} {Q : Exit → Act → World → Prop} {rest : List Oper} {o : Oper} {a : Act} {W : World} (hgd : o.guard = none) {N : Tmp} (_hd : o.dst = some N) {cs : Array Value} {t : TypeId} {n : Nat}
  (hrun : (execOp a.eval o).run P W = .ok (.value (.slice (some ⟨W.heap.size, 0, none⟩) n n)) (W.alloc (.cells cs t (0, 0))))
  (h : ∀ g, g = W.heap.size → ∀ w1, w1.heap[g]? = some (.cells cs t (0, 0)) → Below W.heap.size W w1 → wpList P ops Q rest (a.put o.dst (.slice (some ⟨g, 0, none⟩) n n)) w1) : wpList P ops Q (o :: rest) a W :=
 Kd.event_run hgd hrun (h _ rfl _ (blk_new W _) (yA (Below.refl _ _) _))
theorem C_oneLin {w : World} {g : Nat} {K : Int} {L : List S51} {A : Option Addr} {c : Nat} (hb : w.heap[g]? = some (.cells #[.int .i64 K, .slice A L.length c] 28 (0, 0))) (hL : Kd.C k51 w A L.length L) (hc : L.length ≤ c) : Kd.C k28 w (some ⟨g, 0, none⟩) 1 [⟨K, L⟩] := by
 refine ⟨rfl, by decide, fun _ => ⟨⟨g, 0, none⟩, rfl, fun j p hj => ?_⟩⟩
 cases j with
 | succ j => simp at hj
 | zero =>
  simp at hj
  subst hj
  refine ⟨[.int .i64 K, .slice A L.length c], rfl, k28_mk w ⟨K, L⟩ hc hL, fun i u hu => ?_⟩
  have := blk_cell hb i
  have e_ : (⟨g, 0, none⟩ : Addr).add (0 * k28.sz + i) = ⟨g, i, none⟩ := by cases i <;> simp [Addr.add]
  rw [e_, this]
  simpa using hu
/-- What a form comes to by numbers; a variable without a number is 0. -/
def evalStep (x : List Int) (s : Int) (m : S51) : Int := if m.f0 < (x.length : Int) then s + m.f1 * rd x m.f0 else s
def evalSum (K : Int) (L : List S51) (x : List Int) : Int := L.foldl (evalStep x) (0 + K * 1)
def evalOk (x : List Int) (m : S51) : Bool := decide (0 ≤ m.f0) && (decide ((x.length : Int) ≤ m.f0) || (in64 m.f1 && in64 (rd x m.f0)))
def lin_Eval.f (k : Nat) (a0_0 : Int) (l0_1 : List S51) (l1 : List Int) : Option (Int × Int) :=
 (lin_right.f k [⟨a0_0, l0_1⟩]).bind fun t => if t = true then (if (in64 a0_0 && l0_1.all (evalOk l1)) = true then some (if (fit192 (evalSum a0_0 l0_1 l1)).2 = true then ((fit192 (evalSum a0_0 l0_1 l1)).1, 0) else (0, 5)) else none) else some (0, 1)
theorem lin_Eval.mono : ∀ a0 a1 a2 k, LeO (lin_Eval.f k a0 a1 a2) (lin_Eval.f (k + 1) a0 a1 a2) := by
 intro a0 a1 a2 k
 unfold lin_Eval.f
 exact LeO.bind (lin_right.mono _ _) (fun _ => LeO.refl _)
set_option maxHeartbeats 8000000 in
set_option maxRecDepth 100000 in
theorem eval_walk (k : Nat) (a0 : Int) (A0 : Option Addr) (c0 : Nat) (l0 : List (S51)) (A1 : Option Addr) (c1 : Nat) (l1 : List Int) (w : World) (hr0 : Kd.C k51 w A0 l0.length l0) (hc0 : l0.length ≤ c0) (hr1 : Kd.C (Kd.int .i64) w A1 l1.length l1)
  (ht : lin_right.f k [⟨a0, l0⟩] = some true) (hga : in64 a0 = true) (hgl : l0.all (evalOk l1) = true) (r1 r2 : Int) (hr : (if (fit192 (evalSum a0 l0 l1)).2 = true then ((fit192 (evalSum a0 l0 l1)).1, (0 : Int)) else (0, 5)) = (r1, r2)) :
  Calls Tryd.prog 17 #[.agg #[.int .i64 a0, .slice A0 l0.length c0], .slice A1 l1.length c1] w fun e w' => e = .returned (.tuple #[.int .i64 r1, .int .i64 r2]) ∧ Below w.heap.size w w' := by
 have hu28 := Tryd.underlying28
 have hu47 := Tryd.underlying51
 have HR0 := zK hr0
 have HC0 := zK hc0
 have HR1 := zK hr1
 have HT := zK ht
 have HGA := zK hga
 have HGL := zK hgl
 obtain ⟨N0, hN0⟩ : ∃ N0, N0 = (fit192 (evalSum a0 l0 l1)).1 := ⟨_, rfl⟩
 obtain ⟨D0, hD0⟩ : ∃ D0, D0 = (fit192 (evalSum a0 l0 l1)).2 := ⟨_, rfl⟩
 rw [← hN0, ← hD0] at hr
 have HR := zK hr
 have HN0 := zK hN0
 have HD0 := zK hD0
 clear hr0 hc0 hr1 ht hga hgl hr hN0 hD0
 go_enter Tryd.func17, Tryd.ntmps17
 go_wp2_with (first
  | ((with_reducible refine gate_dst (N := 2) rfl ?_); refine box_event ?hg (N := 2) ?hd (cs := #[.int .i64 a0, .slice A0 l0.length c0]) (t := 28) ?hr ?_; (case hd => rfl); (case hg => rfl); (case hr => first | (go_simp; done) | (go_simp; rfl)); intro gL hg_ w1 hbox_ hb_; have EL := zK hg_; have BL0 := zK hbox_; have HB1 := zK hb_; clear hg_ hbox_ hb_; have hl0 : w1.cell? ⟨gL, 0, none⟩ = some (.int .i64 a0) := (blk_cell BL0.out 0).trans rfl; have hl1 : w1.cell? ⟨gL, 1, none⟩ = some (.slice A0 l0.length c0) := (blk_cell BL0.out 1).trans rfl)
  | ((with_reducible refine gate_dst (N := 12) rfl ?_); refine lit_event ?hg (N := 12) ?hd (cs := #[.int .i64 a0, .slice A0 l0.length c0]) (t := 28) (n := 1) ?hr ?_; (case hd => rfl); (case hg => rfl); (case hr => first | (go_simp; done) | (go_simp; rfl)); intro gT hg_ w2 hbox_ hb_; have ET := zK hg_; have BT := zK hbox_; have HB2 := zK hb_; clear hg_ hbox_ hb_)
  | (go_at_call 30; (refine (lin_right.calls k (some ⟨gT, 0, none⟩) 1 [⟨a0, l0⟩] true w2 (C_oneLin BT.out (Kd.C_below (Kd.C_below HR0.out HB1.out) HB2.out) HC0.out) (Nat.le_refl _) HT.out).mono ?_); rintro e w3 ⟨rfl, hb_⟩; have HB3 := zK (below_step (below_step HB1.out HB2.out) hb_); have BL := zK (blk_below (blk_below BL0.out HB2.out) hb_); have GL := zK (Nat.le_of_eq EL.out.symm); clear hb_ HB1 HB2 BT ET EL BL0 hl0 hl1)
  | ((with_reducible refine gate_dst (N := 6) rfl ?_); refine box_event ?hg (N := 6) ?hd (cs := accCells [0]) (t := 67) ?hr ?_; (case hd => rfl); (case hg => rfl); (case hr => first | (go_simp; done) | (go_simp; rfl)); intro gS hg_ w4 hbox_ hb_; have ES := zK hg_; have BS0 := zK hbox_; have HB4 := zK hb_; clear hg_ hbox_ hb_; have hl0 : w4.cell? ⟨gL, 0, none⟩ = some (.int .i64 a0) := (blk_cell (blk_below BL.out HB4.out) 0).trans rfl)
  | (go_at_call 35; refine (exact_Add gS 0 0 a0 1 _ 67 (accCells [0]) (in64_iff HGA.out).1 (in64_iff HGA.out).2 (by decide) (by decide) BS0.out (accCells_at [0] 0 (by simp))).mono ?_; rintro e w5 ⟨rfl, hk_, hs_⟩; have BS5 : Aside0 (w5.heap[gS]? = some (.cells (accCells [0 + a0 * 1]) 67 (0, 0))) := zK (hk_.trans (congrArg (fun z => some (Obj.cells z 67 (0, 0))) ((accCells_put [0] 0 (0 + a0 * 1) (by simp)).trans rfl))); have NLS := zK (show gL ≠ gS by have := ES.out; have := blk_lt BL.out; omega); have GS := zK (show w.heap.size ≤ gS by have := ES.out; have := HB3.out.size; omega); have BL5 := zK ((hs_.block gL NLS.out).trans (blk_below BL.out HB4.out)); have HB5 := zK (Below.trans (below_step HB3.out HB4.out) (hs_.below GS.out)); clear hk_ hs_ BS0 HB4 HB3 BL ES; have hl0 : w5.cell? ⟨gL, 0, none⟩ = some (.int .i64 a0) := (blk_cell BL5.out 0).trans rfl; have hl1 : w5.cell? ⟨gL, 1, none⟩ = some (.slice A0 l0.length c0) := (blk_cell BL5.out 1).trans rfl))
 go_loopg [21] l0.length (fun gk v21 w' => ∃ (x : Int), v21 = .int .i64 x ∧ Aside0 (∃ i : Nat, x = i ∧ i + gk = l0.length ∧ w'.heap[gS]? = some (.cells (accCells [(l0.take i).foldl (evalStep l1) (0 + a0 * 1)]) 67 (0, 0))) ∧ Aside0 (w'.heap[gL]? = some (.cells #[.int .i64 a0, .slice A0 l0.length c0] 28 (0, 0))) ∧ Aside0 (Below w.heap.size w w'))
 case atStart => exact ⟨0, rfl, ⟨0, rfl, by omega, BS5.out⟩, ⟨BL5.out⟩, ⟨HB5.out⟩⟩
 case round =>
  clear BS5 BL5 HB5 hl0 hl1
  obtain ⟨x, rfl, HX, BL, HB⟩ := hrel
  obtain ⟨i, hxi, hgk, bs⟩ := HX.out
  clear HX
  have BS := zK bs
  clear bs
  have HI := zK hxi
  have HGK := zK hgk
  clear hxi hgk
  cases gk with
  | zero =>
   have c1 : decide (x < (l0.length : Int)) = false := decide_eq_false (by have := HI.out; have := HGK.out; omega)
   have hti : l0.take i = l0 := List.take_of_length_le (by have := HGK.out; omega)
   have CF := zK (show ∀ m, Calls Tryd.prog 36 #[.pointer (some ⟨gS, 0, none⟩)] (wr.drewN m) fun e W' => e = .returned (.tuple #[.int .i64 N0, .bool D0]) ∧ Drawn0 (wr.drewN m) W' by
    intro m
    rw [HN0.out, HD0.out]
    have h_ := BS.out
    rw [hti] at h_
    exact exact_Fits gS 0 (evalSum a0 l0 l1) (wr.drewN m) 67 (accCells [evalSum a0 l0 l1]) h_ (accCells_at [evalSum a0 l0 l1] 0 (by simp)))
   clear hti
   have HRR := HR.out
   cases D0 with
   | true =>
    rw [if_pos rfl] at HRR
    simp only [Prod.mk.injEq] at HRR
    obtain ⟨e1, e2⟩ := HRR
    have E1 := zK e1
    have E2 := zK e2
    clear e1 e2
    go_wp2_with (first | (go_at_call 36; refine (CF.out 0).mono ?_; rintro e w' ⟨rfl, ⟨nd, rfl⟩⟩))
    go_ret2
    exact ⟨by rw [← E1.out, ← E2.out]; rfl, yN HB.out _⟩
   | false =>
    rw [if_neg (by simp)] at HRR
    simp only [Prod.mk.injEq] at HRR
    obtain ⟨e1, e2⟩ := HRR
    have E1 := zK e1
    have E2 := zK e2
    clear e1 e2
    go_wp2_with (first | (go_at_call 36; refine (CF.out 0).mono ?_; rintro e w' ⟨rfl, ⟨nd, rfl⟩⟩))
    go_ret2
    exact ⟨by rw [← E1.out, ← E2.out]; rfl, yN HB.out _⟩
  | succ gko =>
   have p2 : 0 ≤ x := by have := HI.out; omega
   have q2 : x < (l0.length : Int) := by have := HI.out; have := HGK.out; omega
   obtain ⟨XM, hXM⟩ : ∃ XM, XM = rd_T51 l0 x := ⟨_, rfl⟩
   have HXM := zK (show i < l0.length ∧ ∀ h : i < l0.length, XM = l0[i] by
    have := HI.out; have := HGK.out
    refine ⟨by omega, fun h => ?_⟩
    rw [hXM, HI.out]; simp [rd_T51, h])
   have HGM := zK (show evalOk l1 XM = true by rw [HXM.out.2 HXM.out.1]; exact List.all_eq_true.1 HGL.out _ (List.getElem_mem _))
   obtain ⟨ad2, e2, hm0, hm1⟩ := at_T51 HR0.out x p2 q2
   rw [← hXM] at hm0 hm1
   clear hXM
   cases e2
   replace hm0 := (HB.out.cell (World.block_lt_of_cell? w _ hm0)).trans hm0
   replace hm1 := (HB.out.cell (World.block_lt_of_cell? w _ hm1)).trans hm1
   have c2 : decide (x < (l0.length : Int)) = true := decide_eq_true q2
   replace p2 := eq_true p2
   replace q2 := eq_true q2
   have hm := HGM.out
   unfold evalOk at hm
   rw [Bool.and_eq_true, Bool.or_eq_true, Bool.and_eq_true] at hm
   have v0 : 0 ≤ XM.f0 := of_decide_eq_true hm.1
   have HE := zK (show (l0.take (i + 1)).foldl (evalStep l1) (0 + a0 * 1) = evalStep l1 ((l0.take i).foldl (evalStep l1) (0 + a0 * 1)) XM by
    have e_ := HXM.out.2 HXM.out.1
    rw [List.take_succ_eq_append_getElem HXM.out.1, List.foldl_append, ← e_]; rfl)
   by_cases hv : XM.f0 < (l1.length : Int)
   ·have hm2 : in64 XM.f1 = true ∧ in64 (rd l1 XM.f0) = true := by
     rcases hm.2 with h | h
     ·have := of_decide_eq_true h; omega
     ·exact h
    have RM := zK hm2
    clear hm hm2 HGM
    have HVV := zK (And.intro v0 hv)
    obtain ⟨YV, hYV⟩ : ∃ YV, YV = rd l1 XM.f0 := ⟨_, rfl⟩
    obtain ⟨ad3, e3, hy⟩ : ∃ ad, A1 = some ad ∧ w.cell? (ad.add XM.f0.toNat) = some (.int .i64 YV) := by
     obtain ⟨ad, c, e, hs, hk, hcell⟩ := Kd.C_get HR1.out 0 XM.f0 v0 hv
     refine ⟨ad, e, ?_⟩
     have hk' : c = [Value.int .i64 (l1.getD XM.f0.toNat 0)] := hk
     have := hcell 0 (.int .i64 (l1.getD XM.f0.toNat 0)) (by rw [hk']; rfl)
     have e2 : XM.f0.toNat * (Kd.int .i64).sz + 0 = XM.f0.toNat := Nat.mul_one _
     rw [e2] at this
     rw [hYV]
     exact this
    cases e3
    replace hy := (HB.out.cell (World.block_lt_of_cell? w _ hy)).trans hy
    have HYV := zK hYV
    clear hYV
    have c3 : decide (XM.f0 < (l1.length : Int)) = true := decide_eq_true hv
    have hvv := eq_true hv
    have hv0 := eq_true v0
    go_wp2_with (first
     | ((with_reducible refine gate_dst (N := 8) rfl ?_); refine box_event ?hg (N := 8) ?hd (cs := #[.int .i64 0, .int .i64 0]) (t := 51) ?hr ?_; (case hd => rfl); (case hg => rfl); (case hr => first | (go_simp; done) | (go_simp; rfl)); intro gM hg_ w6 hbox_ hb_; have EM := zK hg_; have BM0 := zK hbox_; have HB6 := zK hb_; clear hg_ hbox_ hb_; have hz0 : w6.cell? ⟨gM, 0, none⟩ = some (.int .i64 0) := (blk_cell BM0.out 0).trans rfl; have hz1 : w6.cell? ⟨gM, 1, none⟩ = some (.int .i64 0) := (blk_cell BM0.out 1).trans rfl; have fz0 := blk_frozen BM0.out 0; have fz1 := blk_frozen BM0.out 1; have NSM := zK (show gS ≠ gM by have := EM.out; have := blk_lt BS.out; omega); have NLM := zK (show gL ≠ gM by have := EM.out; have := blk_lt BL.out; omega); have GM := zK (show w.heap.size ≤ gM by have := EM.out; have := HB.out.size; omega)))
    have HVE := zK (show evalStep l1 ((l0.take i).foldl (evalStep l1) (0 + a0 * 1)) XM = (l0.take i).foldl (evalStep l1) (0 + a0 * 1) + XM.f1 * YV by rw [HYV.out]; exact if_pos HVV.out.2)
    have hlt3 := World.block_lt_of_cell? wr _ hy
    have n3 : ad3.block ≠ gM := by rw [add_block] at hlt3; have := EM.out; omega
    have hyW : ((w6.setCell ⟨gM, 0, none⟩ (.int .i64 XM.f0)).setCell ⟨gM, 1, none⟩ (.int .i64 XM.f1)).cell? (ad3.add XM.f0.toNat) = some (.int .i64 YV) := by
     have hb : (ad3.add XM.f0.toNat).block ≠ gM := by rw [add_block]; exact n3
     have e1 := Below.heap_setCell (w6.setCell ⟨gM, 0, none⟩ (.int .i64 XM.f0)) ⟨gM, 1, none⟩ (.int .i64 XM.f1) (ad3.add XM.f0.toNat).block hb
     have e2 := Below.heap_setCell w6 ⟨gM, 0, none⟩ (.int .i64 XM.f0) (ad3.add XM.f0.toNat).block hb
     have h6 := (HB6.out.cell hlt3).trans hy
     unfold World.cell? at h6 ⊢
     rw [e1, e2]
     exact h6
    have BM6 := blk_put (cs' := #[.int .i64 XM.f0, .int .i64 XM.f1]) (blk_put (cs' := #[.int .i64 XM.f0, .int .i64 0]) BM0.out 0 (.int .i64 XM.f0) rfl) 1 (.int .i64 XM.f1) rfl
    have hM0 := (blk_cell BM6 0).trans rfl
    have hM1 := (blk_cell BM6 1).trans rfl
    have BS6 := zK (blk_far (blk_far (blk_below BS.out HB6.out) (p := ⟨gM, 0, none⟩) NSM.out (.int .i64 XM.f0)) (p := ⟨gM, 1, none⟩) NSM.out (.int .i64 XM.f1))
    have BL6 := zK (blk_far (blk_far (blk_below BL.out HB6.out) (p := ⟨gM, 0, none⟩) NLM.out (.int .i64 XM.f0)) (p := ⟨gM, 1, none⟩) NLM.out (.int .i64 XM.f1))
    have HB6' := zK (yS (yS (below_step HB.out HB6.out) GM.out (j := 0) (v := .int .i64 XM.f0)) GM.out (j := 1) (v := .int .i64 XM.f1))
    clear hlt3 hy n3 BM6 hz0 hz1 fz0 fz1 hm0 hm1
    generalize (w6.setCell ⟨gM, 0, none⟩ (.int .i64 XM.f0)).setCell ⟨gM, 1, none⟩ (.int .i64 XM.f1) = W6 at hyW hM0 hM1 BS6 BL6 HB6' ⊢
    go_region_with (go_at_call 35; refine (exact_Add gS 0 ((l0.take i).foldl (evalStep l1) (0 + a0 * 1)) XM.f1 YV _ 67 (accCells [(l0.take i).foldl (evalStep l1) (0 + a0 * 1)]) (in64_iff RM.out.1).1 (in64_iff RM.out.1).2 (by rw [HYV.out]; exact (in64_iff RM.out.2).1) (by rw [HYV.out]; exact (in64_iff RM.out.2).2) ?rb (accCells_at [(l0.take i).foldl (evalStep l1) (0 + a0 * 1)] 0 (by simp))).mono ?_; (case rb => exact zD BS6.out); rintro e w7 ⟨rfl, hk_, hs_⟩; have BS7 : Aside0 (w7.heap[gS]? = some (.cells (accCells [(l0.take (i + 1)).foldl (evalStep l1) (0 + a0 * 1)]) 67 (0, 0))) := zK (hk_.trans (congrArg (fun z => some (Obj.cells z 67 (0, 0))) ((accCells_put [(l0.take i).foldl (evalStep l1) (0 + a0 * 1)] 0 _ (by simp)).trans (by rw [HE.out, HVE.out]; rfl)))); have BL7 := zK ((hs_.block gL NLS.out).trans (zD BL6.out)); have HB7 := zK (Below.trans (yD HB6'.out) (hs_.below GS.out)))
    all_goals
     go_wp2
     go_roundg gko
     case measure => omega
     case rel =>
      refine ⟨_, (by first | rfl | (simp; done) | (simp [*]; done)), ⟨i + 1, ?_, by have := HGK.out; omega, BS7.out⟩, ⟨BL7.out⟩, ⟨HB7.out⟩⟩
      have := HI.out; have := HXM.out.1; have := HR0.out.2.1; first | omega | (unfold wrap64; omega)
   ·have c3 : decide (XM.f0 < (l1.length : Int)) = false := decide_eq_false hv
    have HVN := zK (show evalStep l1 ((l0.take i).foldl (evalStep l1) (0 + a0 * 1)) XM = (l0.take i).foldl (evalStep l1) (0 + a0 * 1) from if_neg hv)
    clear hm HGM hv
    go_wp2_with (first
     | ((with_reducible refine gate_dst (N := 8) rfl ?_); refine box_event ?hg (N := 8) ?hd (cs := #[.int .i64 0, .int .i64 0]) (t := 51) ?hr ?_; (case hd => rfl); (case hg => rfl); (case hr => first | (go_simp; done) | (go_simp; rfl)); intro gM hg_ w6 hbox_ hb_; have EM := zK hg_; have BM0 := zK hbox_; have HB6 := zK hb_; clear hg_ hbox_ hb_; have hz0 : w6.cell? ⟨gM, 0, none⟩ = some (.int .i64 0) := (blk_cell BM0.out 0).trans rfl; have hz1 : w6.cell? ⟨gM, 1, none⟩ = some (.int .i64 0) := (blk_cell BM0.out 1).trans rfl; have fz0 := blk_frozen BM0.out 0; have fz1 := blk_frozen BM0.out 1; have NSM := zK (show gS ≠ gM by have := EM.out; have := blk_lt BS.out; omega); have NLM := zK (show gL ≠ gM by have := EM.out; have := blk_lt BL.out; omega); have GM := zK (show w.heap.size ≤ gM by have := EM.out; have := HB.out.size; omega)))
    go_roundg gko
    case measure => omega
    case rel =>
     refine ⟨_, (by first | rfl | (simp; done) | (simp [*]; done)), ⟨i + 1, ?_, by have := HGK.out; omega, ?_⟩, ⟨?_⟩, ⟨?_⟩⟩
     ·have := HI.out; have := HXM.out.1; have := HR0.out.2.1; first | omega | (unfold wrap64; omega)
     ·rw [HE.out]
      rw [HVN.out]
      exact blk_far (blk_far (blk_below BS.out HB6.out) (p := ⟨gM, 0, none⟩) NSM.out _) (p := ⟨gM, 1, none⟩) NSM.out _
     ·exact blk_far (blk_far (blk_below BL.out HB6.out) (p := ⟨gM, 0, none⟩) NLM.out _) (p := ⟨gM, 1, none⟩) NLM.out _
     ·exact yS (yS (below_step HB.out HB6.out) GM.out) GM.out
set_option maxHeartbeats 8000000 in
set_option maxRecDepth 100000 in
theorem eval_wrong (k : Nat) (a0 : Int) (A0 : Option Addr) (c0 : Nat) (l0 : List (S51)) (A1 : Option Addr) (c1 : Nat) (l1 : List Int) (w : World) (hr0 : Kd.C k51 w A0 l0.length l0) (hc0 : l0.length ≤ c0)
  (ht : lin_right.f k [⟨a0, l0⟩] = some false) :
  Calls Tryd.prog 17 #[.agg #[.int .i64 a0, .slice A0 l0.length c0], .slice A1 l1.length c1] w fun e w' => e = .returned (.tuple #[.int .i64 0, .int .i64 1]) ∧ Below w.heap.size w w' := by
 have hu28 := Tryd.underlying28
 have HR0 := zK hr0
 have HC0 := zK hc0
 have HT := zK ht
 clear hr0 hc0 ht
 go_enter Tryd.func17, Tryd.ntmps17
 go_wp2_with (first
  | ((with_reducible refine gate_dst (N := 2) rfl ?_); refine box_event ?hg (N := 2) ?hd (cs := #[.int .i64 a0, .slice A0 l0.length c0]) (t := 28) ?hr ?_; (case hd => rfl); (case hg => rfl); (case hr => first | (go_simp; done) | (go_simp; rfl)); intro gL hg_ w1 hbox_ hb_; have EL := zK hg_; have BL0 := zK hbox_; have HB1 := zK hb_; clear hg_ hbox_ hb_; have hl0 : w1.cell? ⟨gL, 0, none⟩ = some (.int .i64 a0) := (blk_cell BL0.out 0).trans rfl; have hl1 : w1.cell? ⟨gL, 1, none⟩ = some (.slice A0 l0.length c0) := (blk_cell BL0.out 1).trans rfl)
  | ((with_reducible refine gate_dst (N := 12) rfl ?_); refine lit_event ?hg (N := 12) ?hd (cs := #[.int .i64 a0, .slice A0 l0.length c0]) (t := 28) (n := 1) ?hr ?_; (case hd => rfl); (case hg => rfl); (case hr => first | (go_simp; done) | (go_simp; rfl)); intro gT hg_ w2 hbox_ hb_; have ET := zK hg_; have BT := zK hbox_; have HB2 := zK hb_; clear hg_ hbox_ hb_)
  | (go_at_call 30; (refine (lin_right.calls k (some ⟨gT, 0, none⟩) 1 [⟨a0, l0⟩] false w2 (C_oneLin BT.out (Kd.C_below (Kd.C_below HR0.out HB1.out) HB2.out) HC0.out) (Nat.le_refl _) HT.out).mono ?_); rintro e w3 ⟨rfl, hb_⟩; have HB3 := zK (below_step (below_step HB1.out HB2.out) hb_); clear hb_))
 go_ret2
 exact ⟨rfl, HB3.out⟩
theorem lin_Eval.calls (k : Nat) (a0_0 : Int) (A0_1 : Option Addr) (c0_1 : Nat) (l0_1 : List (S51)) (A1 : Option Addr) (c1 : Nat) (l1 : List Int) (r1 : Int) (r2 : Int) (w : World) (hr0_1 : Kd.C k51 w A0_1 l0_1.length l0_1) (hc0_1 : l0_1.length ≤ c0_1) (hr1 : Kd.C (Kd.int .i64) w A1 l1.length l1) (hc1 : l1.length ≤ c1) (h : lin_Eval.f k a0_0 l0_1 l1 = some (r1, r2)) :
  Calls Tryd.prog 17 #[.agg #[.int .i64 a0_0, .slice A0_1 l0_1.length c0_1], .slice A1 l1.length c1] w fun e w' => e = .returned (.tuple #[.int .i64 r1, .int .i64 r2]) ∧ Below w.heap.size w w' := by
 unfold lin_Eval.f at h
 obtain ⟨t, ht, h⟩ := Option.bind_eq_some_iff.1 h
 cases t with
 | true =>
  rw [if_pos rfl] at h
  split at h
  ·rename_i hg
   rw [Bool.and_eq_true] at hg
   exact eval_walk k a0_0 A0_1 c0_1 l0_1 A1 c1 l1 w hr0_1 hc0_1 hr1 ht hg.1 hg.2 r1 r2 (Option.some.inj h)
  ·cases h
 | false =>
  rw [if_neg (by simp)] at h
  simp only [Option.some.injEq, Prod.mk.injEq] at h
  obtain ⟨rfl, rfl⟩ := h
  exact eval_wrong k a0_0 A0_1 c0_1 l0_1 A1 c1 l1 w hr0_1 hc0_1 ht

-- NOT PRINTED: function 5 (sequiturlaw27_LinValues)

end Go.Proofs.YtmedciidghmkkaaDoor.PLinValues
