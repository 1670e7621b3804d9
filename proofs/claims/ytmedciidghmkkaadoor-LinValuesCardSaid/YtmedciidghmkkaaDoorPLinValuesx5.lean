/- What the call of each function that the law reaches comes to: it answers as the plain function of the same name does, wherever that one answers; and the law itself out of its plain form. Written by a program of this session (an extended copy of the printer); no condition but what stands in each theorem. -/
import Derived.Test.YtmedciidghmkkaaDoorPLinValuesx0
namespace Go.Proofs.YtmedciidghmkkaaDoor.PLinValues
open Go.RowKit Go.Proofs.YtmedciidghmkkaaDoorW.PrintWords Go.Proofs.YtmedciidghmkkaaDoorW.PrintLast Go.Proofs.YtmedciidghmkkaaDoorW.PrintMore
open Go.Proofs.YtmedciidghmkkaaDoorW.PrintWords renaming blk_drewN → zN, blk_drew → zD, blk_alloc → zA, below_alloc → yA, pw_below_drewN → yN, below_drew1 → yD, below_set → yS
open Go.Proofs.YtmedciidghmkkaaDoorW.PrintWords.Aside0 renaming mk → zK
attribute [local go_sem] max2_int min2_int max_two min_two max_three min_three max_four min_four   -- for this text's walks alone
set_option linter.unusedVariables false
set_option linter.unusedSimpArgs false

/-! ### lin_Text: function 27, by hand -/
/-- A form's text, as it is written part by part. -/
def textStep (bs : List UInt8) (m : S51) : List UInt8 := Txt.partL bs m.f1 (120 :: Lib.itoa m.f0)
def textFold (l : List S51) : List UInt8 := l.foldl textStep []
def textAll (K : Int) (l : List S51) : List UInt8 := if K = 0 ∧ ¬ (textFold l).length = 0 then textFold l else Txt.partL (textFold l) K []
def textFit (n : Int) : Bool := decide (-9223372036854775808 ≤ n) && decide (n ≤ 9223372036854775807)
theorem textFit_iff {n : Int} (h : textFit n = true) : -9223372036854775808 ≤ n ∧ n ≤ 9223372036854775807 := by
 unfold textFit at h
 rw [Bool.and_eq_true, decide_eq_true_eq, decide_eq_true_eq] at h
 exact h
def textOk (K : Int) (l : List S51) : Bool := decide (l.length ≤ 1000) && textFit K && l.all fun m => textFit m.f0 && textFit m.f1
def lin_Text.f (a0_0 : Int) (l0_1 : List (S51)) : Option ByteArray := if textOk a0_0 l0_1 = true then some ⟨(textAll a0_0 l0_1).toArray⟩ else none
theorem textFold_len (l : List S51) (hl : l.all (fun m => textFit m.f0 && textFit m.f1) = true) : (textFold l).length ≤ l.length * 46 := by
 have key : ∀ (l : List S51) (bs : List UInt8), l.all (fun m => textFit m.f0 && textFit m.f1) = true → (l.foldl textStep bs).length ≤ bs.length + l.length * 46 := by
  intro l
  induction l with
  | nil => intro bs _; simp
  | cons m l ih =>
   intro bs h
   rw [List.all_cons, Bool.and_eq_true, Bool.and_eq_true] at h
   have h1 := textFit_iff h.1.1
   have h2 := textFit_iff h.1.2
   have h3 := ih (textStep bs m) h.2
   have h4 : (textStep bs m).length ≤ bs.length + 46 := by
    have := Txt.partL_len bs m.f1 h2.1 h2.2 (120 :: Lib.itoa m.f0)
    have := Lib.itoa_length_le m.f0 h1.1 h1.2
    unfold textStep
    simp only [List.length_cons] at *
    omega
   rw [List.foldl_cons, List.length_cons]
   omega
 have := key l [] hl
 simpa [textFold] using this
theorem fresh_builder {g : Nat} {w : World} (hb : w.heap[g]? = some (.cells #[.pointer none, .slice none 0 0] 76 (0, 0))) : Lib.IsBuilder 76 5 g g (Lib.byteCells []) w :=
 Or.inl ⟨Nat.le_refl _, .slice none 0 0, hb, World.ownsRow_nil _ _ _ _, by simp [Value.ownBlock]⟩
set_option maxHeartbeats 2000000 in
set_option maxRecDepth 100000 in
theorem lin_Text.calls (a0 : Int) (A0 : Option Addr) (c0 : Nat) (l0 : List (S51)) (r : ByteArray) (w : World) [ti_ : Txt.TabI w] (hr0 : Kd.C k51 w A0 l0.length l0) (hc0 : l0.length ≤ c0) (h : lin_Text.f a0 l0 = some r) :
  Calls Tryd.prog 27 #[.agg #[.int .i64 a0, .slice A0 l0.length c0]] w fun e w' => e = .returned (.string r) ∧ Below w.heap.size w w' := by
 have hu28 := Tryd.underlying28
 have hu51 := Tryd.underlying51
 have hok : textOk a0 l0 = true := by
  unfold lin_Text.f at h
  by_cases e : textOk a0 l0 = true
  ·exact e
  ·rw [if_neg e] at h; cases h
 obtain rfl : ByteArray.mk (textAll a0 l0).toArray = r := by
  unfold lin_Text.f at h
  rw [if_pos hok] at h
  exact Option.some.inj h
 unfold textOk at hok
 rw [Bool.and_eq_true, Bool.and_eq_true, decide_eq_true_eq] at hok
 have HR0 := zK hr0
 have HC0 := zK hc0
 have HLen := zK hok.1.1
 have HK := zK (textFit_iff hok.1.2)
 have HA := zK hok.2
 have HT := zK ti_.out
 clear hr0 hc0 h hok
 go_enter Tryd.func27, Tryd.ntmps27
 go_wp2_with (first
  | ((with_reducible refine gate_dst (N := 1) rfl ?_); refine box_event ?hg (N := 1) ?hd (cs := #[.int .i64 a0, .slice A0 l0.length c0]) (t := 28) ?hr ?_; (case hd => rfl); (case hg => rfl); (case hr => first | (go_simp; done) | (go_simp; rfl)); intro gL hg_ w1 hbox_ hb_; have EL := zK hg_; have BL1 := zK hbox_; have HB1 := zK hb_; clear hg_ hbox_ hb_)
  | ((with_reducible refine gate_dst (N := 3) rfl ?_); (refine box_event ?hg (N := 3) ?hd (cs := #[.pointer none, .slice none 0 0]) (t := 76) ?hr ?_; (case hd => rfl); (case hg => rfl); (case hr => first | (go_simp; done) | (go_simp; rfl)); intro gS hg_ w2 hbox_ hb_; have ES := zK hg_; have BS2 := zK hbox_; have HB2 := zK hb_; have BL2 := zK (blk_below BL1.out hb_); clear hg_ hbox_ hb_; have hl0 : w2.cell? ⟨gL, 0, none⟩ = some (.int .i64 a0) := (blk_cell BL2.out 0).trans rfl; have hl1 : w2.cell? ⟨gL, 1, none⟩ = some (.slice A0 l0.length c0) := (blk_cell BL2.out 1).trans rfl)))
 have GLS := zK (show gL < gS by have := blk_lt BL1.out; have := ES.out; omega)
 have GS := zK (show w.heap.size ≤ gS by have := ES.out; have := HB1.out.size; omega)
 have HB2' := zK (below_step HB1.out HB2.out)
 go_loopg [9] l0.length (fun gk v9 w' => ∃ (x : Int), v9 = .int .i64 x ∧ Aside0 (∃ i : Nat, x = i ∧ i + gk = l0.length ∧ Lib.IsBuilder 76 5 gS gS (Lib.byteCells (textFold (l0.take i))) w') ∧ Aside0 (w'.heap[gL]? = some (.cells #[.int .i64 a0, .slice A0 l0.length c0] 28 (0, 0))) ∧ Aside0 (Below w.heap.size w w'))
 case atStart => exact ⟨0, rfl, ⟨0, rfl, by omega, fresh_builder BS2.out⟩, ⟨BL2.out⟩, ⟨HB2'.out⟩⟩
 case round =>
  clear BS2 BL2 hl0 hl1 HB2' HB1 HB2 EL ES BL1
  obtain ⟨x, rfl, HX, BL, HB⟩ := hrel
  obtain ⟨i, hxi, hgk, bs⟩ := HX.out
  clear HX
  have BS := zK bs
  have GW := zK (show gS < wr.heap.size by rcases bs with h | h <;> exact h.lt)
  clear bs
  have HI := zK hxi
  have HGK := zK hgk
  clear hxi hgk
  have HTr := zK (HT.out.below HB.out)
  have hl0 : wr.cell? ⟨gL, 0, none⟩ = some (.int .i64 a0) := (blk_cell BL.out 0).trans rfl
  have hl1 : wr.cell? ⟨gL, 1, none⟩ = some (.slice A0 l0.length c0) := (blk_cell BL.out 1).trans rfl
  cases gk with
  | zero =>
   have c1 : decide (x < (l0.length : Int)) = false := decide_eq_false (by have := HI.out; have := HGK.out; omega)
   have BS' : Aside0 (Lib.IsBuilder 76 5 gS gS (Lib.byteCells (textFold l0)) wr) := by
    have h_ := BS.out
    rw [List.take_of_length_le (by have := HGK.out; omega)] at h_
    exact ⟨h_⟩
   have HL := zK (show (textFold l0).length + (⟨#[]⟩ : ByteArray).size ≤ 1000000 by have := textFold_len l0 HA.out; have := HLen.out; have e_ : (⟨#[]⟩ : ByteArray).size = 0 := rfl; omega)
   clear BS
   obtain ⟨T, hT⟩ : ∃ T, T = textFold l0 := ⟨_, rfl⟩
   rw [← hT] at BS' HL
   have HTT := zK hT
   clear hT
   by_cases z : a0 = 0
   ·subst z
    by_cases q0 : T.length = 0
    ·have cT : (((Lib.byteCells T).length : Int) == 0) = true := by rw [Lib.byteCells_length, q0]; rfl
     have e_ : textAll 0 l0 = Txt.partL T 0 (⟨#[]⟩ : ByteArray).data.toList := by
      unfold textAll
      rw [← HTT.out, if_neg (by omega)]
     have EE := zK e_
     clear e_
     go_wp2_with (first
      | (go_at_call 43; refine (Tryd.Builder_Len gS gS (Lib.byteCells T) _ BS'.out).mono ?_; rintro e w2 ⟨rfl, rfl⟩)
      | (go_at_call 41; refine (Txt.part gS gS T 0 ⟨#[]⟩ _ (by decide) (by decide) BS'.out (Nat.le_of_lt GW.out) HL.out HTr.out).mono ?_; rintro e w5 ⟨rfl, hh_, hb_⟩; have BS5 := zK hh_; have HB5 := zK (HB.out.trans (hb_.mono GS.out)); have GW5 := zK (Nat.le_trans (Nat.le_of_lt GW.out) hb_.size); clear hh_ hb_)
      | (go_at_call 44; refine (Tryd.Builder_String_any gS gS _ _ BS5.out GW5.out).mono ?_; rintro e w6 ⟨rfl, hb_⟩; have HB6 := zK (HB5.out.trans (hb_.mono GS.out)); clear hb_))
     go_ret
     exact ⟨by rw [EE.out]; rfl, HB6.out⟩
    ·have cT : (((Lib.byteCells T).length : Int) == 0) = false := by rw [Lib.byteCells_length, beq_eq_false_iff_ne]; omega
     have e_ : textAll 0 l0 = T := by
      unfold textAll
      rw [← HTT.out, if_pos ⟨rfl, q0⟩]
     have EE := zK e_
     clear e_
     go_wp2_with (first
      | (go_at_call 43; refine (Tryd.Builder_Len gS gS (Lib.byteCells T) _ BS'.out).mono ?_; rintro e w2 ⟨rfl, rfl⟩)
      | (go_at_call 44; refine (Tryd.Builder_String_any gS gS _ _ BS'.out (Nat.le_of_lt GW.out)).mono ?_; rintro e w6 ⟨rfl, hb_⟩; have HB6 := zK (HB.out.trans (hb_.mono GS.out)); clear hb_))
     go_ret
     exact ⟨by rw [EE.out]; rfl, HB6.out⟩
   ·have z1 : (a0 != 0) = true := bne_iff_ne.2 z
    have e_ : textAll a0 l0 = Txt.partL T a0 (⟨#[]⟩ : ByteArray).data.toList := by
     unfold textAll
     rw [← HTT.out, if_neg (fun h_ => z h_.1)]
    have EE := zK e_
    clear e_
    go_wp2_with (first
     | (go_at_call 41; refine (Txt.part gS gS T a0 ⟨#[]⟩ _ HK.out.1 HK.out.2 BS'.out (Nat.le_of_lt GW.out) HL.out HTr.out).mono ?_; rintro e w5 ⟨rfl, hh_, hb_⟩; have BS5 := zK hh_; have HB5 := zK (HB.out.trans (hb_.mono GS.out)); have GW5 := zK (Nat.le_trans (Nat.le_of_lt GW.out) hb_.size); clear hh_ hb_)
     | (go_at_call 44; refine (Tryd.Builder_String_any gS gS _ _ BS5.out GW5.out).mono ?_; rintro e w6 ⟨rfl, hb_⟩; have HB6 := zK (HB5.out.trans (hb_.mono GS.out)); clear hb_))
    go_ret
    exact ⟨by rw [EE.out]; rfl, HB6.out⟩
  | succ gko =>
   have p2 : 0 ≤ x := by have := HI.out; omega
   have q2 : x < (l0.length : Int) := by have := HI.out; have := HGK.out; omega
   obtain ⟨XM, hXM⟩ : ∃ XM, XM = rd_T51 l0 x := ⟨_, rfl⟩
   have HXM := zK (show i < l0.length ∧ ∀ h : i < l0.length, XM = l0[i] by
    have := HI.out; have := HGK.out
    refine ⟨by omega, fun h => ?_⟩
    rw [hXM, HI.out]; simp [rd_T51, h])
   have HGM := zK (show (-9223372036854775808 ≤ XM.f0 ∧ XM.f0 ≤ 9223372036854775807) ∧ -9223372036854775808 ≤ XM.f1 ∧ XM.f1 ≤ 9223372036854775807 by
    rw [HXM.out.2 HXM.out.1]
    have h_ := List.all_eq_true.1 HA.out _ (List.getElem_mem HXM.out.1)
    rw [Bool.and_eq_true] at h_
    exact ⟨textFit_iff h_.1, textFit_iff h_.2⟩)
   obtain ⟨ad2, e2, hm0, hm1⟩ := at_T51 HR0.out x p2 q2
   rw [← hXM] at hm0 hm1
   clear hXM
   cases e2
   replace hm0 := (HB.out.cell (World.block_lt_of_cell? w _ hm0)).trans hm0
   replace hm1 := (HB.out.cell (World.block_lt_of_cell? w _ hm1)).trans hm1
   have c2 : decide (x < (l0.length : Int)) = true := decide_eq_true q2
   replace p2 := eq_true p2
   replace q2 := eq_true q2
   obtain ⟨T, hT⟩ : ∃ T, T = textFold (l0.take i) := ⟨_, rfl⟩
   rw [← hT] at BS
   have HE := zK (show textFold (l0.take (i + 1)) = Txt.partL T XM.f1 (120 :: Lib.itoa XM.f0) by
    have e_ := HXM.out.2 HXM.out.1
    unfold textFold
    rw [List.take_succ_eq_append_getElem HXM.out.1, List.foldl_append, ← e_, hT]; rfl)
   have HL := zK (show T.length + (Lib.itoa XM.f0).length + 1 ≤ 1000000 by
    have h1 := textFold_len (l0.take i) (by
     rw [List.all_eq_true]
     intro m hm
     exact List.all_eq_true.1 HA.out m (List.mem_of_mem_take hm))
    have h2 := HLen.out
    have h3 := Lib.itoa_length_le XM.f0 HGM.out.1.1 HGM.out.1.2
    rw [← hT, List.length_take] at h1
    omega)
   clear hT
   obtain ⟨IS, hIS⟩ : ∃ IS : ByteArray, IS = ⟨(Lib.itoa XM.f0).toArray⟩ := ⟨_, rfl⟩
   have HIS := zK (show IS.data.toList = Lib.itoa XM.f0 by rw [hIS])
   have hsz : IS.size = (Lib.itoa XM.f0).length := by rw [hIS]; rfl
   have CI := zK (show ∀ (W : World), Txt.Tab W → Calls Tryd.prog 42 #[.int .i64 XM.f0] W fun e w' => e = .returned (.string IS) ∧ Below W.heap.size W w' from fun W hW => by
    rw [hIS]; exact Txt.digitText XM.f0 HGM.out.1.1 HGM.out.1.2 W hW)
   clear hIS
   have hcat : (⟨#[120]⟩ : ByteArray).size + IS.size ≤ 9223372036854775807 := by
    have h1 : (⟨#[120]⟩ : ByteArray).size = 1 := rfl
    have := HL.out
    omega
   have hcat1 : 1 + IS.size ≤ 9223372036854775807 := by
    have := HL.out
    omega
   have HC2 := zK (show T.length + ((⟨#[120]⟩ : ByteArray) ++ IS).size ≤ 1000000 by
    rw [ByteArray.size_append]
    have h1 : (⟨#[120]⟩ : ByteArray).size = 1 := rfl
    have := HL.out
    omega)
   have HX2 := zK (show ((⟨#[120]⟩ : ByteArray) ++ IS).data.toList = 120 :: Lib.itoa XM.f0 by
    rw [ByteArray.data_append, Array.toList_append, HIS.out]; rfl)
   clear hsz
   go_wp2_with (first
    | ((with_reducible refine gate_dst (N := 5) rfl ?_); refine box_event ?hg (N := 5) ?hd (cs := #[.int .i64 0, .int .i64 0]) (t := 51) ?hr ?_; (case hd => rfl); (case hg => rfl); (case hr => first | (go_simp; done) | (go_simp; rfl)); intro gM hg_ w6 hbox_ hb_; have EM := zK hg_; have BM0 := zK hbox_; have HB6 := zK hb_; clear hg_ hbox_ hb_; have hz0 : w6.cell? ⟨gM, 0, none⟩ = some (.int .i64 0) := (blk_cell BM0.out 0).trans rfl; have hz1 : w6.cell? ⟨gM, 1, none⟩ = some (.int .i64 0) := (blk_cell BM0.out 1).trans rfl; have fz0 := blk_frozen BM0.out 0; have fz1 := blk_frozen BM0.out 1))
   have GM := zK (show wr.heap.size ≤ gM by have := EM.out; omega)
   have BM6 := zK (blk_put (cs' := #[.int .i64 XM.f0, .int .i64 XM.f1]) (blk_put (cs' := #[.int .i64 XM.f0, .int .i64 0]) BM0.out 0 (.int .i64 XM.f0) rfl) 1 (.int .i64 XM.f1) rfl)
   have HW6 := zK (yS (yS HB6.out GM.out (j := 0) (v := .int .i64 XM.f0)) GM.out (j := 1) (v := .int .i64 XM.f1))
   clear hz0 hz1 fz0 fz1 hm0 hm1 hl0 hl1
   generalize (w6.setCell ⟨gM, 0, none⟩ (.int .i64 XM.f0)).setCell ⟨gM, 1, none⟩ (.int .i64 XM.f1) = W6 at BM6 HW6 ⊢
   have hM0 : W6.cell? ⟨gM, 0, none⟩ = some (.int .i64 XM.f0) := (blk_cell BM6.out 0).trans rfl
   have hM1 : W6.cell? ⟨gM, 1, none⟩ = some (.int .i64 XM.f1) := (blk_cell BM6.out 1).trans rfl
   have BS6 := zK (Txt.isBuilder_below BS.out HW6.out)
   have BL6 := zK (blk_below BL.out HW6.out)
   have HB6' := zK (below_step HB.out HW6.out)
   have GW6 := zK (Nat.lt_of_lt_of_le GW.out HW6.out.size)
   clear BS BL HB6 BM0
   go_region_with (first
    | (go_at_call 42; (refine (CI.out _ (HT.out.below (yD HB6'.out))).mono ?_; rintro e w7 ⟨rfl, hb_⟩; have BM7 := zK (blk_below (zD BM6.out) hb_); have hM70 : w7.cell? ⟨gM, 0, none⟩ = some (.int .i64 XM.f0) := (blk_cell BM7.out 0).trans rfl; have hM71 : w7.cell? ⟨gM, 1, none⟩ = some (.int .i64 XM.f1) := (blk_cell BM7.out 1).trans rfl; have BS7 := zK (Txt.isBuilder_below (show Lib.IsBuilder 76 5 gS gS (Lib.byteCells T) W6.drew from BS6.out.elim (fun h_ => Or.inl h_.drew) (fun h_ => Or.inr h_.drew)) hb_); have BL7 := zK (blk_below (zD BL6.out) hb_); have HB7 := zK (below_step (yD HB6'.out) hb_); have GW7 := zK (Nat.le_trans (Nat.le_of_lt GW6.out) hb_.size); clear hb_))
    | (go_at_call 41; (refine (Txt.part gS gS T XM.f1 _ _ HGM.out.2.1 HGM.out.2.2 BS7.out GW7.out HC2.out (HT.out.below HB7.out)).mono ?_; rintro e w8 ⟨rfl, hh_, hb_⟩; have BS8 : Aside0 (Lib.IsBuilder 76 5 gS gS (Lib.byteCells (textFold (l0.take (i + 1)))) w8) := ⟨by rw [HE.out, ← HX2.out]; exact hh_⟩; have BL8 := zK ((hb_.block gL GLS.out).trans BL7.out); have HB8 := zK (HB7.out.trans (hb_.mono GS.out)); clear hb_ hh_)))
   all_goals
    go_wp2
    go_roundg gko
    case measure => omega
    case rel =>
     refine ⟨x + 1, ?_, ⟨i + 1, by have := HI.out; omega, by have := HGK.out; omega, BS8.out⟩, ⟨BL8.out⟩, ⟨HB8.out⟩⟩
     have h_ : wrap64 (x + 1) = x + 1 := by have := HI.out; have := HXM.out.1; have := HLen.out; unfold wrap64; omega
     rw [h_]

/-! ### sequiturlaw27_form: function 29 -/
def sequiturlaw27_form.f (a0 : Int) (l1 : List (S51)) : Option (Int × (List (S51))) := some (a0, l1)
set_option maxHeartbeats 8000000 in
set_option maxRecDepth 100000 in
theorem sequiturlaw27_form.calls (a0 : Int) (P1_ : Nat → Prop) (u9000_ : Value) (l1 : List (S51)) (r1 : Int) (r2 : List (S51)) (w0 w : World) (hB : Below w0.heap.size w0 w) (ho1 : Kd.R k51 51 w w0.heap.size P1_ u9000_ l1) (h : sequiturlaw27_form.f a0 l1 = some (r1, r2)) :
  Calls Tryd.prog 29 #[.int .i64 a0, u9000_] w fun e w' => ∃ v1_ : Value, e = .returned (.agg #[.int .i64 r1, v1_]) ∧ Kd.R k51 51 w' w0.heap.size (fun k_ => (P1_ k_ ∨ w.heap.size ≤ k_)) v1_ r2 ∧ Below w0.heap.size w0 w' ∧ Kept w w' (fun k_ => P1_ k_) := by
 have hu28 := Tryd.underlying28
 have HO1 := zK (show Kd.R k51 51 w w0.heap.size (fun k_ => (P1_ k_ ∨ w.heap.size ≤ k_)) u9000_ l1 from Kd.R_mono ho1 (fun k_ hk => (.inl hk)))
 have HK := zK (Kept.refl w (fun k_ => P1_ k_))
 have HW0 := zK hB.size
 have HB := zK hB
 clear hB
 have H : (some (a0, l1)) = some (r1, r2) := h
 clear h
 simp only [Option.some.injEq, Prod.mk.injEq] at H
 obtain ⟨rfl, rfl⟩ := H
 go_enter Tryd.func29, Tryd.ntmps29
 go_wp2_with (first | ((with_reducible refine gate_dst (N := 4) rfl ?_); refine box_event ?hg (N := 4) ?hd (cs := #[.int .i64 0, .slice none 0 0]) (t := 28) ?hr ?_; (case hd => rfl); (case hg => rfl); (case hr => first | (go_simp; done) | (go_simp; rfl)); intro gb170 hg w3 hbox hb; replace HO1 := zK (Kd.R_below (zr HO1) hb); have BK170 := zK (hbox); have GW170 := zK ((by rw [hg]; exact (by first | exact HK.out.1 | exact (show Kept w _ (fun k_ => P1_ k_) from by repeat (first | (with_reducible first | exact HK.out | apply Kept.alloc | apply Kept.drewN | apply Kept.drew) | exact HK.out)).1) : w.heap.size ≤ gb170)); replace HK := zK (Kept.below (S := (fun k_ => P1_ k_)) (by repeat (first | (with_reducible first | exact HK.out | apply Kept.alloc | apply Kept.drewN | apply Kept.drew) | exact HK.out)) hb); have GE170 := zK ((by rw [hg]; exact (below_size (zo HB)) : w0.heap.size ≤ gb170)); replace HB := zK (below_step (zo HB) hb); clear hb hbox hg; obtain ⟨Ao4, co4, eo4⟩ := Kd.R_slice HO1.out; subst eo4; have hcz5_0 : w3.cell? ⟨gb170, 0, none⟩ = some (.int .i64 0) := (blk_cell BK170.out 0).trans rfl; have hcz5_1 : w3.cell? ⟨gb170, 1, none⟩ = some (.slice none 0 0) := (blk_cell BK170.out 1).trans rfl; have hfz5_0 := blk_frozen BK170.out 0; have hfz5_1 := blk_frozen BK170.out 1))
 refine bodyPost_ret (results_cell_row rfl _ _ gb170 28 #[.int .i64 a0, .slice Ao4 l1.length co4] (0, 0) _ rfl (by refine zM ?_; refine blk_put (cs := #[.int .i64 a0, .slice none 0 0]) ?_ 1 _ rfl; refine zM ?_; refine blk_put (cs := #[.int .i64 0, .slice none 0 0]) ?_ 0 _ rfl; refine zM ?_; exact BK170.out) Tryd.underlying28 rfl (by kernel_rfl)) rfl ?_
 exact ⟨_, by first | rfl | (simp [errW_none, errW_some] <;> rfl) | (simp [*, errW_none, errW_some] <;> rfl), by (with_reducible repeat (first | apply Kd.R_alloc | apply Kd.R_drewN | apply Kd.R_drew)); exact Kd.R_mono (Kd.R_far (p := ⟨gb170, 1, none⟩) (Kd.R_far (p := ⟨gb170, 0, none⟩) (Kd.R_types HO1.out BK170.out (by decide)) (fun _ hk => hk.2) (.int .i64 a0)) (fun _ hk => hk.2) (.slice Ao4 l1.length co4)) (fun _ hk => hk.1), zo HB, by repeat (first | (with_reducible first | exact HK.out | apply Kept.alloc | apply Kept.drewN | apply Kept.drew | refine Kept.setCell ?_ (.inr GW170.out) _) | exact HK.out)⟩

end Go.Proofs.YtmedciidghmkkaaDoor.PLinValues
