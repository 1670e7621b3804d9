/- What the call of each function that the law reaches comes to: it answers as the plain function of the same name does, wherever that one answers; and the law itself out of its plain form. Written by a program of this session (an extended copy of the printer); no condition but what stands in each theorem. -/
import Derived.Test.YtkfbfgkdabljiaaPBoxPointsx0
import Derived.Test.YtkfbfgkdabljiaaPBoxPointsx1
import Derived.Test.YtkfbfgkdabljiaaPBoxPointsx3
import Derived.Test.YtkfbfgkdabljiaaPBoxPointsx4
import Derived.Test.YtkfbfgkdabljiaaPBoxPointsx5
namespace Go.Proofs.Ytkfbfgkdabljiaa.PBoxPoints
open Go.RowKit Go.Proofs.YtkfbfgkdabljiaaW.PrintWords Go.Proofs.YtkfbfgkdabljiaaW.PrintLast Go.Proofs.YtkfbfgkdabljiaaW.PrintMore
open Go.Proofs.YtkfbfgkdabljiaaW.PrintWords renaming blk_drewN → zN, below_alloc → yA, pw_below_drewN → yN, below_drew1 → yD, below_set → yS, gate_callee → zC
open Go.Proofs.YtkfbfgkdabljiaaW.PrintWords.Kd renaming V_alloc → vA, V_drewN → vN, V_drew → vD, N_alloc → nA, N_drewN → nN, N_drew → nD, C_alloc → cA, C_drew → cD, V_mono → vM
open Go.Proofs.YtkfbfgkdabljiaaW.PrintWords.Aside0 renaming mk → zK
attribute [local go_sem] max2_int min2_int max_two min_two max_three min_three max_four min_four   -- for this text's walks alone
set_option linter.unusedVariables false
set_option linter.unusedSimpArgs false

/-! ### sequiturref32_next: function 51 -/
def sequiturref32_next.l0 : Nat → List Int → List Int → List Int → Int → Option (List Int × Bool)
 | 0, _, _, _, _ => none
 | k + 1, x1, x2, x8, x9 => if x9 ≥ 0 then (if 0 ≤ x9 then (if x9 < (x8.length : Int) then (if x9 < (x2.length : Int) then (if (rd x8 x9) < (rd x2 x9) then (some ((x8.set (x9 : Int).toNat (wrap64 ((rd x8 x9) + 1))), true)) else (if x9 < (x1.length : Int) then (sequiturref32_next.l0 k x1 x2 (x8.set (x9 : Int).toNat (rd x1 x9)) (wrap64 (x9 - 1))) else (none))) else (none)) else (none)) else (none)) else (some (([] : List Int), false))
def sequiturref32_next.f (k : Nat) (l0 : List Int) (l1 : List Int) (l2 : List Int) : Option (List Int × Bool) := if ([] : List Int).length + l0.length < 17592186044416 then ((some (([] : List Int) ++ l0 : List Int)).bind fun y173 => (sequiturref32_next.l0 k l1 l2 y173 (wrap64 ((y173.length : Int) - 1)))) else (none)
theorem sequiturref32_next.mono_l : ∀ k, (∀ y0 y1 y2 y3, LeO (sequiturref32_next.l0 k y0 y1 y2 y3) (sequiturref32_next.l0 (k + 1) y0 y1 y2 y3))
 | 0 => fun _ _ _ _ r h => by simp [sequiturref32_next.l0] at h
 | k + 1 => by
  have ih0 := sequiturref32_next.mono_l k
  ·intro y0 y1 y2 y3
   unfold sequiturref32_next.l0
   repeat' first
   | (with_reducible exact ih0 _ _ _ _)
   | (with_reducible exact LeO.refl _)
   | (with_reducible exact LeO.none _)
   | (with_reducible refine LeO.ite ?_ ?_)
   | (with_reducible refine LeO.bind ?_ (fun _ => ?_))
   | exact ih0 _ _ _ _
   | exact LeO.none _
   | refine LeO.ite ?_ ?_
   | refine LeO.bind ?_ (fun _ => ?_)
theorem sequiturref32_next.mono : ∀ a0 a1 a2 k, LeO (sequiturref32_next.f k a0 a1 a2) (sequiturref32_next.f (k + 1) a0 a1 a2) := by
 intro a0 a1 a2 k
 have ih0 := sequiturref32_next.mono_l k
 unfold sequiturref32_next.f
 repeat' first
   | (with_reducible exact ih0 _ _ _ _)
   | (with_reducible exact LeO.refl _)
   | (with_reducible exact LeO.none _)
   | (with_reducible refine LeO.ite ?_ ?_)
   | (with_reducible refine LeO.bind ?_ (fun _ => ?_))
   | exact ih0 _ _ _ _
   | exact LeO.none _
   | refine LeO.ite ?_ ?_
   | refine LeO.bind ?_ (fun _ => ?_)
set_option maxHeartbeats 8000000 in
set_option maxRecDepth 100000 in
theorem sequiturref32_next.calls (k : Nat) (A0 : Option Addr) (c0 : Nat) (l0 : List Int) (A1 : Option Addr) (c1 : Nat) (l1 : List Int) (A2 : Option Addr) (c2 : Nat) (l2 : List Int) (r1 : List Int) (r2 : Bool) (w : World) (hr0 : Kd.C (Kd.int .i64) w A0 l0.length l0) (hc0 : l0.length ≤ c0) (hr1 : Kd.C (Kd.int .i64) w A1 l1.length l1) (hc1 : l1.length ≤ c1) (hr2 : Kd.C (Kd.int .i64) w A2 l2.length l2) (hc2 : l2.length ≤ c2) (h : sequiturref32_next.f k l0 l1 l2 = some (r1, r2)) :
  Calls Try.prog 51 #[.slice A0 l0.length c0, .slice A1 l1.length c1, .slice A2 l2.length c2] w fun e w' => ∃ v0_ : Value, e = .returned (.tuple #[v0_, .bool r2]) ∧ Kd.R (Kd.int .i64) 2 w' w.heap.size (fun _ => True) v0_ r1 ∧ Below w.heap.size w w' := by
 have HR0 := zK hr0
 have HC0 := zK hc0; clear hr0 hc0
 have HR1 := zK hr1
 have HC1 := zK hc1; clear hr1 hc1
 have HR2 := zK hr2
 have HC2 := zK hc2; clear hr2 hc2
 have HB := zK (Below.refl w.heap.size w)
 have H : (if ([] : List Int).length + l0.length < 17592186044416 then ((some (([] : List Int) ++ l0 : List Int)).bind fun y173 => (sequiturref32_next.l0 k l1 l2 y173 (wrap64 ((y173.length : Int) - 1)))) else (none)) = some (r1, r2) := h
 clear h
 by_cases c4 : ([] : List Int).length + l0.length < 17592186044416
 ·rw [if_pos c4] at H
  have LMc4 := zK c4; clear c4
  obtain ⟨y173, hy173⟩ : ∃ y_ : List Int, y_ = (([] : List Int) ++ l0) := ⟨_, rfl⟩
  replace H : (sequiturref32_next.l0 k l1 l2 y173 (wrap64 ((y173.length : Int) - 1))) = some (r1, r2) := by first | (rw [hy173]; with_reducible exact H) | (have H2_ := (Option.bind_some _ _).symm.trans H; rw [hy173]; with_reducible exact H2_) | (have H2_ := (Option.bind_some _ _).symm.trans H; with_reducible exact H2_) | with_reducible exact H | (rw [hy173]; exact H) | exact H
  have Ny173 := zK hy173; clear hy173
  have H' := zK H; clear H
  go_enter Try.func51, Try.ntmps51
  go_wp2_with (first | ((with_reducible refine gate_builtin (b := .append) (xs := #[.tmp 10, .tmp 11]) rfl ?_); at_builtin; refine Kd.R_append_rows (Kd.int .i64) (w0 := w) w.heap.size rfl (.tmp 10) (.tmp 11) 33 2 (.int .i64 0) 8 rfl Try.underlying33 info2 rfl (by decide) (by omega) (.slice none 0 0) ([] : List Int) l0 _ _ _ (fun _ => True) (fun _ => False) rfl rfl ?aO ?aR (fun _ _ h => h) (fun _ h => h.elim) ?aF ?aB ?aS ?aL ?_; (case aR => repeat (first | exact HR0.out | (with_reducible refine cA ?_ _) | (with_reducible refine Kd.C_drewN ?_ _) | (with_reducible refine cD ?_))); (case aB => exact (zo HB)); (case aF => exact (fun _ _ => trivial)); (case aO => exact ((Kd.R_nil _ _ _ _ (fun _ => True)))); (case aS => exact (below_size (zo HB))); (case aL => have := LMc4.out; omega); intro v174 w5 ho hb hg hat; rw [← Ny173.out] at ho; replace HB := zK (hb); have HO175 := zK (ho); clear ho hb hg hat; obtain ⟨Ao6, co6, eo6⟩ := Kd.R_slice HO175.out; subst eo6))
  repeat (go_quiet (first | ((with_reducible refine gate_builtin (b := .append) (xs := #[.tmp 10, .tmp 11]) rfl ?_); at_builtin; refine Kd.R_append_rows (Kd.int .i64) (w0 := w) w.heap.size rfl (.tmp 10) (.tmp 11) 33 2 (.int .i64 0) 8 rfl Try.underlying33 info2 rfl (by decide) (by omega) (.slice none 0 0) ([] : List Int) l0 _ _ _ (fun _ => True) (fun _ => False) rfl rfl ?aO ?aR (fun _ _ h => h) (fun _ h => h.elim) ?aF ?aB ?aS ?aL ?_; (case aR => repeat (first | exact HR0.out | (with_reducible refine cA ?_ _) | (with_reducible refine Kd.C_drewN ?_ _) | (with_reducible refine cD ?_))); (case aB => exact (zo HB)); (case aF => exact (fun _ _ => trivial)); (case aO => exact ((Kd.R_nil _ _ _ _ (fun _ => True)))); (case aS => exact (below_size (zo HB))); (case aL => have := LMc4.out; omega); intro v174 w5 ho hb hg hat; rw [← Ny173.out] at ho; replace HB := zK (hb); have HO175 := zK (ho); clear ho hb hg hat; obtain ⟨Ao6, co6, eo6⟩ := Kd.R_slice HO175.out; subst eo6)); try go_wp2_with (first | ((with_reducible refine gate_builtin (b := .append) (xs := #[.tmp 10, .tmp 11]) rfl ?_); at_builtin; refine Kd.R_append_rows (Kd.int .i64) (w0 := w) w.heap.size rfl (.tmp 10) (.tmp 11) 33 2 (.int .i64 0) 8 rfl Try.underlying33 info2 rfl (by decide) (by omega) (.slice none 0 0) ([] : List Int) l0 _ _ _ (fun _ => True) (fun _ => False) rfl rfl ?aO ?aR (fun _ _ h => h) (fun _ h => h.elim) ?aF ?aB ?aS ?aL ?_; (case aR => repeat (first | exact HR0.out | (with_reducible refine cA ?_ _) | (with_reducible refine Kd.C_drewN ?_ _) | (with_reducible refine cD ?_))); (case aB => exact (zo HB)); (case aF => exact (fun _ _ => trivial)); (case aO => exact ((Kd.R_nil _ _ _ _ (fun _ => True)))); (case aS => exact (below_size (zo HB))); (case aL => have := LMc4.out; omega); intro v174 w5 ho hb hg hat; rw [← Ny173.out] at ho; replace HB := zK (hb); have HO175 := zK (ho); clear ho hb hg hat; obtain ⟨Ao6, co6, eo6⟩ := Kd.R_slice HO175.out; subst eo6)))
  go_loopg [9] k (fun kq v9 w' => ∃ (x8_1 : List Int) (x9_1 : Int), v9 = .int .i64 x9_1 ∧ Aside0 (sequiturref32_next.l0 kq l1 l2 x8_1 x9_1 = some (r1, r2)) ∧ Aside0 (kq ≤ k) ∧ Aside0 (Kd.R (Kd.int .i64) 2 w' w.heap.size (fun _ => True) (.slice Ao6 y173.length co6) x8_1) ∧ Aside0 (Below w.heap.size w w'))
  case atStart => exact ⟨(y173), (wrap64 ((y173.length : Int) - 1)), (by first | rfl | (simp; done) | (simp [*]; done)), H', ⟨Nat.le_refl _⟩, ⟨zr HO175⟩, ⟨zo HB⟩⟩
  case round =>
   clear H'; try clear c1; try clear c2; try clear p2; try clear c4; try clear c5; try clear p6
   obtain ⟨x8_1, x9_1, rfl, HA, HK1, HO_8, HB⟩ := hrel
   have hl8_1 := (Kd.R_reads' HO_8.out).1
   rw [hl8_1] at HO_8
   (try simp only [hl8_1])
   cases gk with
   | zero => exact absurd HA.out (by simp [sequiturref32_next.l0])
   | succ k1 =>
    have H := HA.out; clear HA
    simp only [sequiturref32_next.l0] at H
    by_cases c7 : x9_1 ≥ 0
    ·rw [if_pos c7] at H
     have c7b0 : decide (0 ≤ x9_1) = true := decide_eq_true c7; clear c7
     by_cases c8 : 0 ≤ x9_1
     ·rw [if_pos c8] at H
      have c8b0 : decide (0 ≤ x9_1) = true := decide_eq_true c8; clear c8
      by_cases c9 : x9_1 < (x8_1.length : Int)
      ·rw [if_pos c9] at H
       have c9b0 : decide (x9_1 < (x8_1.length : Int)) = true := decide_eq_true c9
       clear c9
       by_cases c10 : x9_1 < (l2.length : Int)
       ·rw [if_pos c10] at H
        have c10b0 : decide (x9_1 < (l2.length : Int)) = true := decide_eq_true c10
        clear c10
        by_cases c11 : (rd x8_1 x9_1) < (rd l2 x9_1)
        ·rw [if_pos c11] at H
         have c11b0 : decide ((rd x8_1 x9_1) < (rd l2 x9_1)) = true := decide_eq_true c11
         clear c11
         obtain ⟨y179, hy179⟩ : ∃ y_ : List Int, y_ = (x8_1.set (x9_1 : Int).toNat (wrap64 ((rd x8_1 x9_1) + 1))) := ⟨_, rfl⟩
         replace H : (some (y179, true)) = some (r1, r2) := by first | (rw [hy179]; with_reducible exact H) | (have H2_ := (Option.bind_some _ _).symm.trans H; rw [hy179]; with_reducible exact H2_) | (have H2_ := (Option.bind_some _ _).symm.trans H; with_reducible exact H2_) | with_reducible exact H | (rw [hy179]; exact H) | exact H
         have Ny179 := zK hy179; clear hy179
         simp only [Option.some.injEq, Prod.mk.injEq] at H
         obtain ⟨rfl, rfl⟩ := H
         have p176 : 0 ≤ (x9_1 : Int) := of_decide_eq_true (by first | (with_reducible assumption) | assumption)
         have q176 : x9_1 < (x8_1.length : Int) := of_decide_eq_true (by first | (with_reducible assumption) | assumption)
         obtain ⟨ad176, e176, hx176_0⟩ := Kd.at_int (Kd.R_reads' HO_8.out).2.2 x9_1 p176 q176
         cases e176
         replace p176 := eq_true p176
         replace q176 := eq_true q176
         have p177 : 0 ≤ (x9_1 : Int) := of_decide_eq_true (by first | (with_reducible assumption) | assumption)
         have q177 : x9_1 < (l2.length : Int) := of_decide_eq_true (by first | (with_reducible assumption) | assumption)
         obtain ⟨ad177, e177, hx177_0⟩ := Kd.at_int HR2.out x9_1 p177 q177
         cases e177
         replace hx177_0 := (HB.out.cell (World.block_lt_of_cell? w _ hx177_0)).trans hx177_0
         replace p177 := eq_true p177
         replace q177 := eq_true q177
         have p178 : 0 ≤ (x9_1 : Int) := of_decide_eq_true (by first | (with_reducible assumption) | assumption)
         have q178 : x9_1 < (x8_1.length : Int) := of_decide_eq_true (by first | (with_reducible assumption) | assumption)
         obtain ⟨ad178, e178, hx178_0⟩ := Kd.at_int (Kd.R_reads' HO_8.out).2.2 x9_1 p178 q178
         obtain rfl : ad176 = ad178 := (by injection e178)
         replace p178 := eq_true p178
         replace q178 := eq_true q178
         have p12 : 0 ≤ (x9_1 : Int) := of_decide_eq_true (by first | (with_reducible assumption) | assumption)
         have q12 : (x9_1 : Int) < ((x8_1.length : Int) : Int) := of_decide_eq_true (by first | (with_reducible assumption) | assumption)
         obtain ⟨go12, co12, eo12, gb12, gl12, cl12, HG12⟩ := Kd.R_form HO_8.out (by omega)
         (first | cases eo12 | (injection eo12 with ea_ en_ ec_; (first | subst ea_ | (injection ea_ with ea_; subst ea_)); subst ec_; clear en_))
         have GB12 := zK gb12
         have GG12 := zK HG12; clear gb12 gl12 HG12
         (first | simp only [add_plain] at hx176_0 | skip)
         (first | simp only [add_plain] at hx178_0 | skip)
         obtain ⟨hx12_0, hf12_0⟩ := Kd.R_celln 0 HO_8.out (x9_1 : Int) p12 q12
         replace p12 := eq_true p12
         replace q12 := eq_true q12
         have HP13 := Kd.R_putg HO_8.out (x9_1 : Int) (wrap64 ((rd x8_1 x9_1) + 1))
         go_wp2_with (first | ((with_reducible refine gate_store (t := 2) (p := 36) rfl ?_); (try (rw [drewN_self wr]; generalize hq_ : World.drewN wr _ = wr; have n0_ := zK (Kd.R_at hq_ HO_8.out); have n1_ := zK (below_at hq_ HB.out); clear hq_ HO_8 HB; have HO_8 := n0_; have HB := n1_; clear n0_ n1_; (try (have HP13 := Kd.R_putg HO_8.out (x9_1 : Int) (wrap64 ((rd x8_1 x9_1) + 1)))); (try (obtain ⟨hx_, hf_⟩ := Kd.R_celln 0 HO_8.out (x9_1 : Int) (of_eq_true p12) (of_eq_true q12))))); refine store_event (t := 2) (p := 36) (v := ?vo_w14) (w1 := (wr.setCell ⟨go12, (x9_1 : Int).toNat, none⟩ (.int .i64 (wrap64 ((rd x8_1 x9_1) + 1))))) ?hg ?ho ?hn ?hr ?_; (case ho => rfl); (case hg => rfl); (case hn => rfl); (case hr => first | (go_simp; done) | (go_simp; rfl)); intro w14 hw; have hg : wr.grownBy w14 (some go12) := (by rw [hw]; exact HP13.2); have hp_ : Kd.R (Kd.int .i64) 2 w14 w.heap.size (fun _ => True) (.slice (some ⟨go12, 0, none⟩) x8_1.length co6) y179 := (by rw [hw, Ny179.out]; exact HP13.1); clear HP13; replace HO_8 := zK (hp_); replace HB := zK ((by rw [hw]; exact yS (HB.out) GB12.out : Below w.heap.size w w14)); clear hg hw hp_))
         repeat (go_quiet (first | ((with_reducible refine gate_store (t := 2) (p := 36) rfl ?_); (try (rw [drewN_self wr]; generalize hq_ : World.drewN wr _ = wr; have n0_ := zK (Kd.R_at hq_ HO_8.out); have n1_ := zK (below_at hq_ HB.out); clear hq_ HO_8 HB; have HO_8 := n0_; have HB := n1_; clear n0_ n1_; (try (have HP13 := Kd.R_putg HO_8.out (x9_1 : Int) (wrap64 ((rd x8_1 x9_1) + 1)))); (try (obtain ⟨hx_, hf_⟩ := Kd.R_celln 0 HO_8.out (x9_1 : Int) (of_eq_true p12) (of_eq_true q12))))); refine store_event (t := 2) (p := 36) (v := ?vo_w14) (w1 := (wr.setCell ⟨go12, (x9_1 : Int).toNat, none⟩ (.int .i64 (wrap64 ((rd x8_1 x9_1) + 1))))) ?hg ?ho ?hn ?hr ?_; (case ho => rfl); (case hg => rfl); (case hn => rfl); (case hr => first | (go_simp; done) | (go_simp; rfl)); intro w14 hw; have hg : wr.grownBy w14 (some go12) := (by rw [hw]; exact HP13.2); have hp_ : Kd.R (Kd.int .i64) 2 w14 w.heap.size (fun _ => True) (.slice (some ⟨go12, 0, none⟩) x8_1.length co6) y179 := (by rw [hw, Ny179.out]; exact HP13.1); clear HP13; replace HO_8 := zK (hp_); replace HB := zK ((by rw [hw]; exact yS (HB.out) GB12.out : Below w.heap.size w w14)); clear hg hw hp_)); try go_wp2_with (first | ((with_reducible refine gate_store (t := 2) (p := 36) rfl ?_); (try (rw [drewN_self wr]; generalize hq_ : World.drewN wr _ = wr; have n0_ := zK (Kd.R_at hq_ HO_8.out); have n1_ := zK (below_at hq_ HB.out); clear hq_ HO_8 HB; have HO_8 := n0_; have HB := n1_; clear n0_ n1_; (try (have HP13 := Kd.R_putg HO_8.out (x9_1 : Int) (wrap64 ((rd x8_1 x9_1) + 1)))); (try (obtain ⟨hx_, hf_⟩ := Kd.R_celln 0 HO_8.out (x9_1 : Int) (of_eq_true p12) (of_eq_true q12))))); refine store_event (t := 2) (p := 36) (v := ?vo_w14) (w1 := (wr.setCell ⟨go12, (x9_1 : Int).toNat, none⟩ (.int .i64 (wrap64 ((rd x8_1 x9_1) + 1))))) ?hg ?ho ?hn ?hr ?_; (case ho => rfl); (case hg => rfl); (case hn => rfl); (case hr => first | (go_simp; done) | (go_simp; rfl)); intro w14 hw; have hg : wr.grownBy w14 (some go12) := (by rw [hw]; exact HP13.2); have hp_ : Kd.R (Kd.int .i64) 2 w14 w.heap.size (fun _ => True) (.slice (some ⟨go12, 0, none⟩) x8_1.length co6) y179 := (by rw [hw, Ny179.out]; exact HP13.1); clear HP13; replace HO_8 := zK (hp_); replace HB := zK ((by rw [hw]; exact yS (HB.out) GB12.out : Below w.heap.size w w14)); clear hg hw hp_)))
         go_ret2
         exact ⟨_, by first | rfl | (simp [errW_none, errW_some] <;> rfl) | (simp [*, errW_none, errW_some] <;> rfl), by (with_reducible repeat (first | apply Kd.R_alloc | apply Kd.R_drewN | apply Kd.R_drew)); exact HO_8.out, zo HB⟩
        ·rw [if_neg c11] at H
         have c11b0 : decide ((rd x8_1 x9_1) < (rd l2 x9_1)) = false := decide_eq_false c11
         clear c11
         by_cases c15 : x9_1 < (l1.length : Int)
         ·rw [if_pos c15] at H
          have c15b0 : decide (x9_1 < (l1.length : Int)) = true := decide_eq_true c15
          clear c15
          obtain ⟨y181, hy181⟩ : ∃ y_ : List Int, y_ = (x8_1.set (x9_1 : Int).toNat (rd l1 x9_1)) := ⟨_, rfl⟩
          replace H : (sequiturref32_next.l0 k1 l1 l2 y181 (wrap64 (x9_1 - 1))) = some (r1, r2) := by first | (rw [hy181]; with_reducible exact H) | (have H2_ := (Option.bind_some _ _).symm.trans H; rw [hy181]; with_reducible exact H2_) | (have H2_ := (Option.bind_some _ _).symm.trans H; with_reducible exact H2_) | with_reducible exact H | (rw [hy181]; exact H) | exact H
          have Ny181 := zK hy181; clear hy181
          have H' := zK H; clear H
          have p176 : 0 ≤ (x9_1 : Int) := of_decide_eq_true (by first | (with_reducible assumption) | assumption)
          have q176 : x9_1 < (x8_1.length : Int) := of_decide_eq_true (by first | (with_reducible assumption) | assumption)
          obtain ⟨ad176, e176, hx176_0⟩ := Kd.at_int (Kd.R_reads' HO_8.out).2.2 x9_1 p176 q176
          cases e176
          replace p176 := eq_true p176
          replace q176 := eq_true q176
          have p177 : 0 ≤ (x9_1 : Int) := of_decide_eq_true (by first | (with_reducible assumption) | assumption)
          have q177 : x9_1 < (l2.length : Int) := of_decide_eq_true (by first | (with_reducible assumption) | assumption)
          obtain ⟨ad177, e177, hx177_0⟩ := Kd.at_int HR2.out x9_1 p177 q177
          cases e177
          replace hx177_0 := (HB.out.cell (World.block_lt_of_cell? w _ hx177_0)).trans hx177_0
          replace p177 := eq_true p177
          replace q177 := eq_true q177
          have p180 : 0 ≤ (x9_1 : Int) := of_decide_eq_true (by first | (with_reducible assumption) | assumption)
          have q180 : x9_1 < (l1.length : Int) := of_decide_eq_true (by first | (with_reducible assumption) | assumption)
          obtain ⟨ad180, e180, hx180_0⟩ := Kd.at_int HR1.out x9_1 p180 q180
          cases e180
          replace hx180_0 := (HB.out.cell (World.block_lt_of_cell? w _ hx180_0)).trans hx180_0
          replace p180 := eq_true p180
          replace q180 := eq_true q180
          have p16 : 0 ≤ (x9_1 : Int) := of_decide_eq_true (by first | (with_reducible assumption) | assumption)
          have q16 : (x9_1 : Int) < ((x8_1.length : Int) : Int) := of_decide_eq_true (by first | (with_reducible assumption) | assumption)
          obtain ⟨go16, co16, eo16, gb16, gl16, cl16, HG16⟩ := Kd.R_form HO_8.out (by omega)
          (first | cases eo16 | (injection eo16 with ea_ en_ ec_; (first | subst ea_ | (injection ea_ with ea_; subst ea_)); subst ec_; clear en_))
          have GB16 := zK gb16
          have GG16 := zK HG16; clear gb16 gl16 HG16
          (first | simp only [add_plain] at hx176_0 | skip)
          obtain ⟨hx16_0, hf16_0⟩ := Kd.R_celln 0 HO_8.out (x9_1 : Int) p16 q16
          replace p16 := eq_true p16
          replace q16 := eq_true q16
          have HP17 := Kd.R_putg HO_8.out (x9_1 : Int) (rd l1 x9_1)
          go_wp2_with (first | ((with_reducible refine gate_store (t := 2) (p := 44) rfl ?_); (try (rw [drewN_self wr]; generalize hq_ : World.drewN wr _ = wr; have n0_ := zK (Kd.R_at hq_ HO_8.out); have n1_ := zK (below_at hq_ HB.out); clear hq_ HO_8 HB; have HO_8 := n0_; have HB := n1_; clear n0_ n1_; (try (have HP17 := Kd.R_putg HO_8.out (x9_1 : Int) (rd l1 x9_1))); (try (obtain ⟨hx_, hf_⟩ := Kd.R_celln 0 HO_8.out (x9_1 : Int) (of_eq_true p16) (of_eq_true q16))))); refine store_event (t := 2) (p := 44) (v := ?vo_w18) (w1 := (wr.setCell ⟨go16, (x9_1 : Int).toNat, none⟩ (.int .i64 (rd l1 x9_1)))) ?hg ?ho ?hn ?hr ?_; (case ho => rfl); (case hg => rfl); (case hn => rfl); (case hr => first | (go_simp; done) | (go_simp; rfl)); intro w18 hw; have hg : wr.grownBy w18 (some go16) := (by rw [hw]; exact HP17.2); have hp_ : Kd.R (Kd.int .i64) 2 w18 w.heap.size (fun _ => True) (.slice (some ⟨go16, 0, none⟩) x8_1.length co6) y181 := (by rw [hw, Ny181.out]; exact HP17.1); clear HP17; replace HO_8 := zK (hp_); replace HB := zK ((by rw [hw]; exact yS (HB.out) GB16.out : Below w.heap.size w w18)); clear hg hw hp_))
          repeat (go_quiet (first | ((with_reducible refine gate_store (t := 2) (p := 44) rfl ?_); (try (rw [drewN_self wr]; generalize hq_ : World.drewN wr _ = wr; have n0_ := zK (Kd.R_at hq_ HO_8.out); have n1_ := zK (below_at hq_ HB.out); clear hq_ HO_8 HB; have HO_8 := n0_; have HB := n1_; clear n0_ n1_; (try (have HP17 := Kd.R_putg HO_8.out (x9_1 : Int) (rd l1 x9_1))); (try (obtain ⟨hx_, hf_⟩ := Kd.R_celln 0 HO_8.out (x9_1 : Int) (of_eq_true p16) (of_eq_true q16))))); refine store_event (t := 2) (p := 44) (v := ?vo_w18) (w1 := (wr.setCell ⟨go16, (x9_1 : Int).toNat, none⟩ (.int .i64 (rd l1 x9_1)))) ?hg ?ho ?hn ?hr ?_; (case ho => rfl); (case hg => rfl); (case hn => rfl); (case hr => first | (go_simp; done) | (go_simp; rfl)); intro w18 hw; have hg : wr.grownBy w18 (some go16) := (by rw [hw]; exact HP17.2); have hp_ : Kd.R (Kd.int .i64) 2 w18 w.heap.size (fun _ => True) (.slice (some ⟨go16, 0, none⟩) x8_1.length co6) y181 := (by rw [hw, Ny181.out]; exact HP17.1); clear HP17; replace HO_8 := zK (hp_); replace HB := zK ((by rw [hw]; exact yS (HB.out) GB16.out : Below w.heap.size w w18)); clear hg hw hp_)); try go_wp2_with (first | ((with_reducible refine gate_store (t := 2) (p := 44) rfl ?_); (try (rw [drewN_self wr]; generalize hq_ : World.drewN wr _ = wr; have n0_ := zK (Kd.R_at hq_ HO_8.out); have n1_ := zK (below_at hq_ HB.out); clear hq_ HO_8 HB; have HO_8 := n0_; have HB := n1_; clear n0_ n1_; (try (have HP17 := Kd.R_putg HO_8.out (x9_1 : Int) (rd l1 x9_1))); (try (obtain ⟨hx_, hf_⟩ := Kd.R_celln 0 HO_8.out (x9_1 : Int) (of_eq_true p16) (of_eq_true q16))))); refine store_event (t := 2) (p := 44) (v := ?vo_w18) (w1 := (wr.setCell ⟨go16, (x9_1 : Int).toNat, none⟩ (.int .i64 (rd l1 x9_1)))) ?hg ?ho ?hn ?hr ?_; (case ho => rfl); (case hg => rfl); (case hn => rfl); (case hr => first | (go_simp; done) | (go_simp; rfl)); intro w18 hw; have hg : wr.grownBy w18 (some go16) := (by rw [hw]; exact HP17.2); have hp_ : Kd.R (Kd.int .i64) 2 w18 w.heap.size (fun _ => True) (.slice (some ⟨go16, 0, none⟩) x8_1.length co6) y181 := (by rw [hw, Ny181.out]; exact HP17.1); clear HP17; replace HO_8 := zK (hp_); replace HB := zK ((by rw [hw]; exact yS (HB.out) GB16.out : Below w.heap.size w w18)); clear hg hw hp_)))
          (try simp only [← hl8_1])
          go_roundg k1
          case measure => have := HK1.out; omega
          case rel => exact ⟨(y181), (wrap64 (x9_1 - 1)), (by first | rfl | (simp; done) | (simp [*]; done)), H', ⟨by have := HK1.out; omega⟩, ⟨by (try simp only [hl8_1]); (with_reducible repeat (first | apply Kd.R_alloc | apply Kd.R_drewN | apply Kd.R_drew)); exact HO_8.out⟩, ⟨zo HB⟩⟩
         ·rw [if_neg c15] at H
          exact absurd H (by simp)
       ·rw [if_neg c10] at H
        exact absurd H (by simp)
      ·rw [if_neg c9] at H
       exact absurd H (by simp)
     ·rw [if_neg c8] at H
      exact absurd H (by simp)
    ·rw [if_neg c7] at H
     have c7b0 : decide (0 ≤ x9_1) = false := decide_eq_false c7; clear c7
     simp only [Option.some.injEq, Prod.mk.injEq] at H
     obtain ⟨rfl, rfl⟩ := H
     go_wp2
     repeat (go_quiet (fail); try go_wp2)
     go_ret2
     exact ⟨_, by first | rfl | (simp [errW_none, errW_some] <;> rfl) | (simp [*, errW_none, errW_some] <;> rfl), by first | exact Kd.R_nil _ _ _ _ _ | exact Kd.N_nil _ _ _ _ _ | exact Kd.V_nil _ _ _ _ _ | exact Kd.Q_nil _ _ _ _ _ | exact Kd.S_nil _ _ _ _ _, zo HB⟩
 ·rw [if_neg c4] at H
  exact absurd H (by simp)

/-! ### sequiturref32_Points: function 26 -/
mutual
def sequiturref32_Points.j0 : Nat → List Int → List Int → Bool → Option ((List (List Int)))
 | 0, _, _, _ => none
 | k + 1, x0, x1, x17 => if x17 = true then (some ([] : List (List Int))) else (sequiturref32_Points.l0 k x0 x1 ([] : List (List Int)) x0 true)
def sequiturref32_Points.l0 : Nat → List Int → List Int → List (List Int) → List Int → Bool → Option ((List (List Int)))
 | 0, _, _, _, _, _ => none
 | k + 1, x0, x1, x6, x7, x8 => if x8 = true then (if x6.length < 5864062014805 then ((sequiturref32_next.f k x7 x0 x1).bind fun bt186 => (sequiturref32_Points.l0 k x0 x1 (x6 ++ [x7]) bt186.1 bt186.2)) else (none)) else (some x6)
end
def sequiturref32_Points.f (k : Nat) (l0 : List Int) (l1 : List Int) : Option ((List (List Int))) := (sequiturref32_points.f k l0 l1).bind fun t182 => (if t182 = 0 then (sequiturref32_Points.j0 k l0 l1 true) else (sequiturref32_Points.j0 k l0 l1 (decide (t182 > 65536))))
theorem sequiturref32_Points.mono_l : ∀ k, (∀ y0 y1 y2, LeO (sequiturref32_Points.j0 k y0 y1 y2) (sequiturref32_Points.j0 (k + 1) y0 y1 y2)) ∧ (∀ y0 y1 y2 y3 y4, LeO (sequiturref32_Points.l0 k y0 y1 y2 y3 y4) (sequiturref32_Points.l0 (k + 1) y0 y1 y2 y3 y4))
 | 0 => ⟨fun _ _ _ r h => by simp [sequiturref32_Points.j0] at h, fun _ _ _ _ _ r h => by simp [sequiturref32_Points.l0] at h⟩
 | k + 1 => by
  obtain ⟨ih0, ih1⟩ := sequiturref32_Points.mono_l k
  refine ⟨?_, ?_⟩
  ·intro y0 y1 y2
   unfold sequiturref32_Points.j0
   repeat' first
   | (with_reducible exact ih0 _ _ _)
   | (with_reducible exact ih1 _ _ _ _ _)
   | (with_reducible exact sequiturref32_next.mono _ _ _ _)
   | (with_reducible exact sequiturref32_points.mono _ _ _)
   | (with_reducible exact LeO.refl _)
   | (with_reducible exact LeO.none _)
   | (with_reducible refine LeO.ite ?_ ?_)
   | (with_reducible refine LeO.bind ?_ (fun _ => ?_))
   | exact ih0 _ _ _
   | exact ih1 _ _ _ _ _
   | exact sequiturref32_next.mono _ _ _ _
   | exact sequiturref32_points.mono _ _ _
   | exact LeO.none _
   | refine LeO.ite ?_ ?_
   | refine LeO.bind ?_ (fun _ => ?_)
  ·intro y0 y1 y2 y3 y4
   unfold sequiturref32_Points.l0
   repeat' first
   | (with_reducible exact ih0 _ _ _)
   | (with_reducible exact ih1 _ _ _ _ _)
   | (with_reducible exact sequiturref32_next.mono _ _ _ _)
   | (with_reducible exact sequiturref32_points.mono _ _ _)
   | (with_reducible exact LeO.refl _)
   | (with_reducible exact LeO.none _)
   | (with_reducible refine LeO.ite ?_ ?_)
   | (with_reducible refine LeO.bind ?_ (fun _ => ?_))
   | exact ih0 _ _ _
   | exact ih1 _ _ _ _ _
   | exact sequiturref32_next.mono _ _ _ _
   | exact sequiturref32_points.mono _ _ _
   | exact LeO.none _
   | refine LeO.ite ?_ ?_
   | refine LeO.bind ?_ (fun _ => ?_)
theorem sequiturref32_Points.mono : ∀ a0 a1 k, LeO (sequiturref32_Points.f k a0 a1) (sequiturref32_Points.f (k + 1) a0 a1) := by
 intro a0 a1 k
 obtain ⟨ih0, ih1⟩ := sequiturref32_Points.mono_l k
 unfold sequiturref32_Points.f
 repeat' first
   | (with_reducible exact ih0 _ _ _)
   | (with_reducible exact ih1 _ _ _ _ _)
   | (with_reducible exact sequiturref32_next.mono _ _ _ _)
   | (with_reducible exact sequiturref32_points.mono _ _ _)
   | (with_reducible exact LeO.refl _)
   | (with_reducible exact LeO.none _)
   | (with_reducible refine LeO.ite ?_ ?_)
   | (with_reducible refine LeO.bind ?_ (fun _ => ?_))
   | exact ih0 _ _ _
   | exact ih1 _ _ _ _ _
   | exact sequiturref32_next.mono _ _ _ _
   | exact sequiturref32_points.mono _ _ _
   | exact LeO.none _
   | refine LeO.ite ?_ ?_
   | refine LeO.bind ?_ (fun _ => ?_)
set_option maxHeartbeats 8000000 in
set_option maxRecDepth 100000 in
theorem sequiturref32_Points.calls (k : Nat) (P0_ : Nat → Prop) (A0 : Option Addr) (c0 : Nat) (l0 : List Int) (A1 : Option Addr) (c1 : Nat) (l1 : List Int) (r : List (List Int)) (w : World) (hs0 : Kd.V (Kd.int .i64) 2 w w.heap.size (fun k_ => P0_ k_) (.slice A0 l0.length c0) l0) (hr1 : Kd.C (Kd.int .i64) w A1 l1.length l1) (hc1 : l1.length ≤ c1) (h : sequiturref32_Points.f k l0 l1 = some r) :
  Calls Try.prog 26 #[.slice A0 l0.length c0, .slice A1 l1.length c1] w fun e w' => ∃ v0_ : Value, e = .returned (v0_) ∧ Kd.N (Kd.slice 2 (Kd.int .i64)) 33 w' w.heap.size (fun k_ => (P0_ k_ ∨ w.heap.size ≤ k_)) v0_ r ∧ Below w.heap.size w w' := by
 have HO0 := zK (show Kd.V (Kd.int .i64) 2 w w.heap.size (fun k_ => (P0_ k_ ∨ w.heap.size ≤ k_)) (.slice A0 l0.length c0) l0 from vM hs0 (fun k_ hk => .inl hk))
 have HR1 := zK hr1
 have HC1 := zK hc1; clear hr1 hc1
 have HB := zK (Below.refl w.heap.size w)
 have H : ((sequiturref32_points.f k l0 l1).bind fun t182 => (if t182 = 0 then (sequiturref32_Points.j0 k l0 l1 true) else (sequiturref32_Points.j0 k l0 l1 (decide (t182 > 65536))))) = some r := h
 clear h; replace H := Option.bind_eq_some_iff.mp H
 obtain ⟨t182, A30, H⟩ := H
 replace H : (if t182 = 0 then (sequiturref32_Points.j0 k l0 l1 true) else (sequiturref32_Points.j0 k l0 l1 (decide (t182 > 65536)))) = some r := H
 have A3 := zK A30; clear A30
 have HC4 := zK H; clear H
 go_enter Try.func26, Try.ntmps26
 go_upto_region 2 with (first | ((with_reducible refine zC (f := 50) rfl ?_); refine goesL_ (some 11) rfl rfl Try.func50 (by kernel_rfl) rfl #[.slice A0 l0.length c0, .slice A1 l1.length c1] rfl (by (try simp only [List.map_toArray, List.map_cons, List.map_nil]); first | done | rfl | (simp only [List.length_drop, List.length_take]; rfl)) ?_; (with_reducible refine (sequiturref32_points.calls k _ _ l0 _ _ l1 t182 _ ?side1 ?side2 ?side3 ?side4 A3.out).mono ?_); (case side1 => repeat (first | exact (Kd.V_reads' HO0.out).2.2 | (with_reducible refine cA ?_ _) | (with_reducible refine Kd.C_drewN ?_ _) | (with_reducible refine cD ?_))); (case side2 => exact (Kd.V_reads' HO0.out).2.1); (case side3 => repeat (first | exact HR1.out | (with_reducible refine cA ?_ _) | (with_reducible refine Kd.C_drewN ?_ _) | (with_reducible refine cD ?_))); (case side4 => exact HC1.out); rintro e w' ⟨rfl, ⟨nd, rfl⟩⟩; refine ⟨_, rfl, ?_⟩))
 (try simp only [Act.put, List.setIfInBounds_toArray, List.set_cons_zero, List.set_cons_succ])
 go_cut [17] (fun v17 wc => ∃ (kq : Nat) (x17_3 : Bool), v17 = .bool x17_3 ∧ Aside0 (sequiturref32_Points.j0 kq l0 l1 x17_3 = some r) ∧ Aside0 (kq ≤ k) ∧ Aside0 (Kd.V (Kd.int .i64) 2 wc w.heap.size (fun k_ => (P0_ k_ ∨ w.heap.size ≤ k_)) (.slice A0 l0.length c0) l0) ∧ Aside0 (Below w.heap.size w wc))
 case first =>
  have H := HC4.out; clear HC4
  by_cases c5 : t182 = 0
  ·rw [if_pos c5] at H
   have c5b0 : (t182 == 0) = true := beq_iff_eq.mpr c5
   have c5b1 : (t182 != 0) = false := bne_eq_false_iff_eq.mpr c5; clear c5
   (first | rw [c5b0] | (simp only [i64_w, i32_w]; rw [c5b0]) | skip)
   have H' := zK H; clear H
   go_wp2
   go_meet
   case rel => exact ⟨_, (true), (by first | rfl | (simp; done) | (simp [*]; done)), H', ⟨by first | omega | exact Nat.le_refl _⟩, ⟨zv HO0⟩, ⟨zo HB⟩⟩
  ·rw [if_neg c5] at H
   have c5b0 : (t182 == 0) = false := beq_eq_false_iff_ne.mpr c5
   have c5b1 : (t182 != 0) = true := bne_iff_ne.mpr c5
   (first | rw [c5b0] | (simp only [i64_w, i32_w]; rw [c5b0]) | skip)
   have H' := zK H; clear H
   go_wp2
   go_meet
   case rel => exact ⟨_, (decide (t182 > 65536)), (by first | rfl | (simp; done) | (simp [*]; done)), H', ⟨by first | omega | exact Nat.le_refl _⟩, ⟨zv HO0⟩, ⟨zo HB⟩⟩
 case rest =>
  clear HC4; try clear c1; try clear c2; try clear p2; try clear c5; try clear c5b0; try clear c5b1
  obtain ⟨kq, x17_3, rfl, HA, HJ3, HO_0, HB⟩ := hcut
  cases kq with
  | zero => exact absurd HA.out (by simp [sequiturref32_Points.j0])
  | succ kj3 =>
   have H := HA.out; clear HA
   simp only [sequiturref32_Points.j0] at H
   by_cases c6 : x17_3 = true
   ·subst c6
    have H1 : (some ([] : List (List Int))) = some r := by rw [if_pos rfl] at H; exact H
    clear H; have H := H1; clear H1
    obtain rfl := Option.some.inj H
    go_wp2
    go_ret
    exact ⟨_, by first | rfl | (simp [errW_none, errW_some] <;> rfl) | (simp [*, errW_none, errW_some] <;> rfl), by first | exact Kd.S_nil _ _ _ _ _ | exact Kd.N_nil _ _ _ _ _ | exact Kd.V_nil _ _ _ _ _ | exact Kd.Q_nil _ _ _ _ _ | exact Kd.R_nil _ _ _ _ _, zo HB⟩
   ·replace c6 := Bool.eq_false_iff.mpr c6
    subst c6
    have H1 : (sequiturref32_Points.l0 kj3 l0 l1 ([] : List (List Int)) l0 true) = some r := by rw [if_neg (show ¬ (false = true) by decide)] at H; exact H
    clear H; have H := H1; clear H1
    have H' := zK H; clear H
    go_wp2
    go_loopg [6, 7, 8] kj3 (fun kq v6 v7 v8 w' => ∃ (x6_2 : List (List Int)) (x7_2 : List Int) (x8_2 : Bool), v8 = .bool x8_2 ∧ Aside0 (sequiturref32_Points.l0 kq l0 l1 x6_2 x7_2 x8_2 = some r) ∧ Aside0 (kq ≤ kj3) ∧ Aside0 (Kd.V (Kd.int .i64) 2 w' w.heap.size (fun k_ => (P0_ k_ ∨ w.heap.size ≤ k_) ∧ some k_ ≠ (v6 : Value).ownBlock) (.slice A0 l0.length c0) l0) ∧ Aside0 (Kd.N (Kd.slice 2 (Kd.int .i64)) 33 w' w.heap.size (fun k_ => (P0_ k_ ∨ w.heap.size ≤ k_)) v6 x6_2) ∧ Aside0 (Kd.V (Kd.int .i64) 2 w' w.heap.size (fun k_ => (P0_ k_ ∨ w.heap.size ≤ k_) ∧ some k_ ≠ (v6 : Value).ownBlock) v7 x7_2) ∧ Aside0 (Below w.heap.size w w'))
    case atStart => exact ⟨(([] : List (List Int))), (l0), (true), (by first | rfl | (simp; done) | (simp [*]; done)), H', ⟨Nat.le_refl _⟩, ⟨by (with_reducible repeat (first | apply vA | apply vN | apply vD)); exact vM HO_0.out (fun _ hk => ⟨hk, (by simp [Value.ownBlock])⟩)⟩, ⟨by first | exact Kd.S_nil _ _ _ _ _ | exact Kd.N_nil _ _ _ _ _ | exact Kd.V_nil _ _ _ _ _ | exact Kd.Q_nil _ _ _ _ _ | exact Kd.R_nil _ _ _ _ _⟩, ⟨by (with_reducible repeat (first | apply vA | apply vN | apply vD)); exact vM HO_0.out (fun _ hk => ⟨hk, (by simp [Value.ownBlock])⟩)⟩, ⟨zo HB⟩⟩
    case round =>
     clear H'; try clear c1; try clear c2; try clear p2
     try clear c5; try clear c5b0; try clear c5b1; try clear c6; try clear p2
     obtain ⟨x6_2, x7_2, x8_2, rfl, HA, HK2, HO_0, HO_6, HO_7, HB⟩ := hrel
     cases gk with
     | zero => exact absurd HA.out (by simp [sequiturref32_Points.l0])
     | succ k2 =>
      have H := HA.out; clear HA
      simp only [sequiturref32_Points.l0] at H
      by_cases c7 : x8_2 = true
      ·subst c7
       have H1 : (if x6_2.length < 5864062014805 then ((sequiturref32_next.f k2 x7_2 l0 l1).bind fun bt186 => (sequiturref32_Points.l0 k2 l0 l1 (x6_2 ++ [x7_2]) bt186.1 bt186.2)) else (none)) = some r := by rw [if_pos rfl] at H; exact H
       clear H; have H := H1; clear H1
       by_cases c8 : x6_2.length < 5864062014805
       ·rw [if_pos c8] at H
        have LMc8 := zK c8; clear c8
        obtain ⟨y183, hy183⟩ : ∃ y_ : List (List Int), y_ = (x6_2 ++ [x7_2]) := ⟨_, rfl⟩
        replace H : ((sequiturref32_next.f k2 x7_2 l0 l1).bind fun bt186 => (sequiturref32_Points.l0 k2 l0 l1 y183 bt186.1 bt186.2)) = some r := by first | (rw [hy183]; with_reducible exact H) | (have H2_ := (Option.bind_some _ _).symm.trans H; rw [hy183]; with_reducible exact H2_) | (have H2_ := (Option.bind_some _ _).symm.trans H; with_reducible exact H2_) | with_reducible exact H | (rw [hy183]; exact H) | exact H
        have Ny183 := zK hy183; clear hy183; replace H := Option.bind_eq_some_iff.mp H
        obtain ⟨⟨t186, t187⟩, A90, H⟩ := H
        replace H : (sequiturref32_Points.l0 k2 l0 l1 y183 t186 t187) = some r := H
        have A9 := zK A90; clear A90
        have H' := zK H; clear H
        obtain ⟨Ao11, co11, eo11⟩ := Kd.V_slice HO_7.out
        subst eo11
        go_wp2_with (first | ((with_reducible refine gate_builtin (b := .append) (xs := #[.tmp 20, .tmp 22]) rfl ?_); at_builtin; refine Kd.N_append (Kd.slice 2 (Kd.int .i64)) (w0 := w) w.heap.size rfl (.tmp 20) (.tmp 22) 37 33 (.slice none 0 0) 24 rfl Try.underlying37 info33 rfl (by decide) (by omega) u6 x6_2 x7_2 [.slice Ao11 x7_2.length co11] (fun k_ => (P0_ k_ ∨ w.heap.size ≤ k_)) (fun k_ => ((fun k_ => (P0_ k_ ∨ w.heap.size ≤ k_))) k_ ∧ some k_ ≠ (u6 : Value).ownBlock) rfl rfl ?aP (fun _ hk => hk) ?aF ?aO ?aB ?aS ?aL ?_; (case aP => exact (Kd.FK_slice_mk (Kd.V_reads' (vM (ok' := (fun k_ => ((fun k_ => (P0_ k_ ∨ w.heap.size ≤ k_))) k_ ∧ some k_ ≠ (u6 : Value).ownBlock)) (HO_7.out) (fun k_ hk => ⟨hk.1, hk.2⟩))).2.1 (Kd.V_F (vM (ok' := (fun k_ => ((fun k_ => (P0_ k_ ∨ w.heap.size ≤ k_))) k_ ∧ some k_ ≠ (u6 : Value).ownBlock)) (HO_7.out) (fun k_ hk => ⟨hk.1, hk.2⟩))))); (case aB => exact (zo HB)); (case aF => exact (fun k_ hk => (.inr (Nat.le_trans (below_size (zo HB)) hk)))); (case aO => exact (zn HO_6)); (case aS => exact (below_size (zo HB))); (case aL => have := LMc8.out; omega); intro v184 w10 ho hb hg hat; rw [← Ny183.out] at ho; replace HO_0 := zK (Kd.V_afterv (ok := (fun k_ => (P0_ k_ ∨ w.heap.size ≤ k_))) (zv HO_0) hg hat); replace HO_7 := zK (Kd.V_afterv (ok := (fun k_ => (P0_ k_ ∨ w.heap.size ≤ k_))) (zv HO_7) hg hat); replace HB := zK (hb); have HO185 := zK (ho); clear HO_6 ho hb hg hat) | ((with_reducible refine zC (f := 51) rfl ?_); refine goesL_ (some 28) rfl rfl Try.func51 (by kernel_rfl) rfl #[.slice Ao11 x7_2.length co11, .slice A0 l0.length c0, .slice A1 l1.length c1] rfl (by (try simp only [List.map_toArray, List.map_cons, List.map_nil]); first | done | rfl | (simp only [List.length_drop, List.length_take]; rfl)) ?_; (with_reducible refine (sequiturref32_next.calls k2 _ _ x7_2 _ _ l0 _ _ l1 t186 t187 _ ?side1 ?side2 ?side3 ?side4 ?side5 ?side6 A9.out).mono ?_); (case side1 => repeat (first | exact (Kd.V_reads' HO_7.out).2.2 | (with_reducible refine cA ?_ _) | (with_reducible refine Kd.C_drewN ?_ _) | (with_reducible refine cD ?_))); (case side2 => exact (Kd.V_reads' HO_7.out).2.1); (case side3 => repeat (first | exact (Kd.V_reads' HO_0.out).2.2 | (with_reducible refine cA ?_ _) | (with_reducible refine Kd.C_drewN ?_ _) | (with_reducible refine cD ?_))); (case side4 => exact (Kd.V_reads' HO_0.out).2.1); (case side5 => repeat (first | exact (Kd.C_below HR1.out HB.out) | (with_reducible refine cA ?_ _) | (with_reducible refine Kd.C_drewN ?_ _) | (with_reducible refine cD ?_))); (case side6 => exact HC1.out); rintro e w12 ⟨v188, rfl, ho0, hb⟩; refine ⟨_, rfl, ?_⟩; replace HO_0 := zK (Kd.V_elder' (zv HO_0) (Kd.R_base ho0) hb); replace HO_7 := zK (Kd.V_elder' (zv HO_7) (Kd.R_base ho0) hb); replace HO185 := zK (Kd.N_elder' (zn HO185) (Kd.R_base ho0) hb); have HO189 := zK (Kd.R_lower (Kd.R_newM (M := fun k_ => (w.heap.size ≤ k_)) ho0 (below_size (zo HB)) (fun k_ h_ => h_)) (below_size (zo HB))); replace HB := zK (below_step (zo HB) hb); (try clear hb); (try clear hb2); (try clear hk); (try clear hi); (try clear ho0)))
        go_roundg k2
        case measure => have := HJ3.out; have := HK2.out; omega
        case rel => exact ⟨(y183), (t186), (t187), (by first | rfl | (simp; done) | (simp [*]; done)), H', ⟨by have := HJ3.out; have := HK2.out; omega⟩, ⟨by (with_reducible repeat (first | apply vA | apply vN | apply vD)); exact vM HO_0.out (fun _ hk => ⟨hk.1.1, hk.1.2⟩)⟩, ⟨by (with_reducible repeat (first | apply nA | apply nN | apply nD)); exact Kd.N_mono HO185.out (fun _ hk => hk.1)⟩, ⟨vM (Kd.R_V (by (with_reducible repeat (first | apply Kd.R_alloc | apply Kd.R_drewN | apply Kd.R_drew)); exact Kd.R_apart' HO189.out (Kd.N_typed HO185.out) (by decide))) (fun k_ hk => by first | exact ⟨(.inr (hk.1)), hk.2⟩ | exact (.inr (hk)) | exact ⟨.inr hk.1.1, hk.2⟩ | exact ⟨.inr hk.1.2, hk.2⟩)⟩, ⟨zo HB⟩⟩
       ·rw [if_neg c8] at H
        exact absurd H (by simp)
      ·replace c7 := Bool.eq_false_iff.mpr c7
       subst c7
       have H1 : (some x6_2) = some r := by rw [if_neg (show ¬ (false = true) by decide)] at H; exact H
       clear H; have H := H1; clear H1
       obtain rfl := Option.some.inj H
       go_wp2
       go_ret
       exact ⟨_, by first | rfl | (simp [errW_none, errW_some] <;> rfl) | (simp [*, errW_none, errW_some] <;> rfl), by (with_reducible repeat (first | apply nA | apply nN | apply nD)); exact HO_6.out, zo HB⟩

def aliveT (k : Nat) : Option Bool := (sequiturlaw32_alive.f k).bind fun t => if t = true then some true else none
theorem aliveT_some {k : Nat} {r : Bool} (h : aliveT k = some r) : sequiturlaw32_alive.f k = some true ∧ r = true := by
 obtain ⟨t, h1, h2⟩ := Option.bind_eq_some_iff.1 h
 cases t with
 | true => exact ⟨h1, (Option.some.inj h2).symm⟩
 | false => cases h2

/-! ### sequiturlaw32_BoxPoints: function 5, by hand -/
/-! ### the law BoxPoints, by hand -/
theorem in_plain {P : Program} {o : Oper} {a : Act} {w : World} {next : Act → World → Prop} {Q : Exit → Act → World → Prop} (l : Nat) (hd : ∀ c, o.op ≠ .defer c) (h : Oper.wp P o a w next Q) : Oper.wpIn (Fence.wide.inRound l) 0 P o a w next Q := by
 refine ⟨fun _ _ => trivial, ?_⟩
 rw [show (Fence.wide.inRound l).round = some l from rfl, Oper.semAt_some l _ _ hd]
 unfold Oper.wp at h
 revert h
 generalize (execOp a.eval o).run P w = r
 intro h
 cases r with
 | ok x w' =>
  cases x with
  | value v => exact h
  | skip => exact h
  | defer d => exact h
  | enter f args => exact ⟨fun e => (by cases e), CallsIn.inRound l (callsIn_wide.2 h)⟩
  | row row args => exact ⟨fun e => (by cases e), fun c cs _ => let ⟨v, w', r, s⟩ := h c cs; ⟨v, w', r, stepsIn_wide.2 s⟩⟩
  | _ => exact h.elim
 | halt p w' =>
  cases p <;> first | exact h | exact h.elim
theorem N_appendIn {P : Program} {ops : Array Oper} {rest : List Oper} {o : Oper} {a : Act} {Q : Exit → Act → World → Prop} (l : Nat) {α : Type} (d : Kd α) {w0 W : World} (base : Nat) (hgd : o.guard = none) (s x : Operand) (t e : TypeId) (z : Value) (bytes : Nat)
  (ho : o.op = .call { callee := .builtin .append, args := #[s, x], argTypes := #[t, t] })
  (ht : P.underlying t = some (.slice e)) (hinfo : (P.info? e).map (fun i => (i.zero, i.size, i.bytes)) = some (some z, d.sz, bytes)) (hz : z.cells.size = d.sz) (hs0 : 0 < d.sz) (hb0 : 0 < bytes)
  (v : Value) (xs : List α) (p : α) (cs : List Value) (ok okp : Nat → Prop) (hs : a.eval s = v) (hx : a.eval x = .slice (some ⟨W.heap.size, 0, none⟩) 1 1) (hp : Kd.FK d W okp p cs) (hokp : ∀ k, okp k → ok k ∧ some k ≠ v.ownBlock) (hfresh : ∀ k, W.heap.size ≤ k → ok k)
  (HO : Kd.N d e W base ok v xs) (HB : Below base w0 W) (hbase : base ≤ W.heap.size) (hl : (xs.length + 1) * bytes ≤ 140737488355328)
  (h : ∀ v1 w1, Kd.N d e w1 base ok v1 (xs ++ [p]) → Below base w0 w1 → W.grownBy w1 v.ownBlock → (v1.ownBlock = v.ownBlock ∨ ∃ b, v1.ownBlock = some b ∧ W.heap.size ≤ b) → wpListIn (Fence.wide.inRound l) 0 P ops Q rest (a.put o.dst v1) w1) :
  wpListIn (Fence.wide.inRound l) 0 P ops Q (o :: rest) a (W.alloc (.cells cs.toArray e)) := by
 refine wpListIn_plain hgd fun K hK => in_plain l (fun c hc => by rw [ho] at hc; cases hc) ?_
 have hw : Region.wanted o (yielded ops a.tmps) = true := by simp [Region.wanted, hgd]
 have := Kd.N_append_step (ops := ops) (Q := Q) (Kc := K) d base hw s x t e z bytes ho ht hinfo hz hs0 hb0 v xs p cs ok okp hs hx hp hokp hfresh HO HB hbase hl (fun v1 w1 h1 h2 h3 h4 => hK _ _ (h v1 w1 h1 h2 h3 h4))
 rwa [if_pos hw] at this
/-- The points that are taken: at most so many, at most 3001. -/
def sequiturlaw32_BoxPoints.l0 : Nat → List Int → List Int → Int → List Int → Int → Int → List (List Int) → Option (List (List Int))
 | 0, _, _, _, _, _, _, _ => none
 | k + 1, lo, hi, most, x, n, j, own => if j < n then (if IntKind.u64.wrap (own.length : Int) ≥ most then some own else (if (own.length : Int) > 3000 then some own else ((box_step.f k lo hi x).bind fun y => sequiturlaw32_BoxPoints.l0 k lo hi most y n (j + 1) (own ++ [x])))) else some own
def sequiturlaw32_BoxPoints.same (k : Nat) (own all : List (List Int)) : Bool := (List.range own.length).all fun i => decide (i < all.length) && (sequiturbase_Int64s.f k (rd_L6 own (i : Int)) (rd_L6 all (i : Int)) == some true)
def sequiturlaw32_BoxPoints.n (most : Int) (all : List (List Int)) : Int := if most < IntKind.u64.wrap (all.length : Int) then wrap64 most else (all.length : Int)
def sequiturlaw32_BoxPoints.f (k : Nat) (l0 l1 : List Int) (a2 : Int) : Option Bool :=
 (aliveT k).bind fun _ => (sequiturlaw32_Few.f k [] l0 l1 2000).bind fun b => if b = true then ((sequiturref32_Points.f k l0 l1).bind fun all => (box_size.f k l0 l1).bind fun s => if s.1 ≤ 65536 ∧ l0.length < 17592186044416 ∧ l1.length < 17592186044416 then ((if s.2 = 0 then sequiturlaw32_BoxPoints.l0 k l0 l1 a2 l0 s.1 0 [] else some []).bind fun own => if (own.length : Int) = sequiturlaw32_BoxPoints.n a2 all ∧ own.length ≤ 1000000 then (if sequiturlaw32_BoxPoints.same k own all = true then aliveT k else none) else none) else none) else aliveT k
section rounds
attribute [local go_sem] Oper.semAt_some
set_option maxHeartbeats 8000000 in
set_option maxRecDepth 100000 in
theorem sequiturlaw32_BoxPoints.calls (k : Nat) (A0 : Option Addr) (c0 : Nat) (l0 : List Int) (A1 : Option Addr) (c1 : Nat) (l1 : List Int) (a2 : Int) (r : Bool) (w : World) (hr0 : Kd.C (Kd.int .i64) w A0 l0.length l0) (hc0 : l0.length ≤ c0) (hr1 : Kd.C (Kd.int .i64) w A1 l1.length l1) (hc1 : l1.length ≤ c1) (h : sequiturlaw32_BoxPoints.f k l0 l1 a2 = some r) :
  Calls Try.prog 5 #[.slice A0 l0.length c0, .slice A1 l1.length c1, .int .u64 a2] w fun e w' => e = .returned (.bool r) ∧ Below w.heap.size w w' := by
 have HR0 := zK hr0
 have HC0 := zK hc0
 have HR1 := zK hr1
 have HC1 := zK hc1; clear hr0 hc0 hr1 hc1
 unfold sequiturlaw32_BoxPoints.f at h
 obtain ⟨t0, hA, h⟩ := Option.bind_eq_some_iff.1 h
 have HA := zK (aliveT_some hA).1; clear hA
 obtain ⟨bf, hF, h⟩ := Option.bind_eq_some_iff.1 h
 cases bf with
 | false =>
  rw [if_neg (by decide)] at h
  obtain ⟨_, rfl⟩ := aliveT_some h
  have HF := zK hF; clear hF h
  go_enter Try.func5, Try.ntmps5
  go_wp2_with (first
   | ((with_reducible refine gate_dst (N := 5) rfl ?_); refine box_event ?hg (N := 5) ?hd (cs := #[.int .u64 a2]) (t := 44) ?hr ?_; (case hd => rfl); (case hg => rfl); (case hr => first | (go_simp; done) | (go_simp; rfl)); intro b5 hg_ w1 hbox_ hb_; have BB5 := zK hbox_; have HB1 := zK hb_; have G5 := zK hg_; clear hg_ hbox_ hb_)
   | (go_at_call 21; refine (sequiturlaw32_alive.calls k true w1 HA.out).mono ?_; rintro e w2 ⟨rfl, hb_⟩; have HB2 := zK hb_; clear hb_)
   | (go_at_call 20; refine (sequiturlaw32_Few.calls k none 0 [] A0 c0 l0 A1 c1 l1 2000 false w2 (Kd.C_nil _ _) (Nat.le_refl _) (Kd.C_below (Kd.C_below HR0.out HB1.out) HB2.out) HC0.out (Kd.C_below (Kd.C_below HR1.out HB1.out) HB2.out) HC1.out HF.out).mono ?_; rintro e w3 ⟨rfl, hb_⟩; have HB3 := zK hb_; clear hb_)
   | (go_at_call 21; refine (sequiturlaw32_alive.calls k true w3 HA.out).mono ?_; rintro e w4 ⟨rfl, hb_⟩; have HB4 := zK hb_; clear hb_))
  go_ret
  exact ⟨rfl, below_step (below_step (below_step HB1.out HB2.out) HB3.out) HB4.out⟩
 | true =>
  rw [if_pos rfl] at h
  obtain ⟨all, hP, h⟩ := Option.bind_eq_some_iff.1 h
  obtain ⟨⟨n, e2⟩, hS, h⟩ := Option.bind_eq_some_iff.1 h
  simp only at h
  by_cases hg : n ≤ 65536 ∧ l0.length < 17592186044416 ∧ l1.length < 17592186044416
  ·rw [if_pos hg] at h
   obtain ⟨hn, hl1, hl2⟩ := hg
   obtain ⟨OWN, hO, h⟩ := Option.bind_eq_some_iff.1 h
   by_cases hN : (OWN.length : Int) = sequiturlaw32_BoxPoints.n a2 all ∧ OWN.length ≤ 1000000
   ·rw [if_pos hN] at h
    by_cases hE : sequiturlaw32_BoxPoints.same k OWN all = true
    ·rw [if_pos hE] at h
     obtain ⟨_, rfl⟩ := aliveT_some h
     have HF := zK hF
     have HP := zK hP
     have HS := zK hS
     have HN := zK hn
     have HL1 := zK hl1
     have HL2 := zK hl2
     have HO := zK hO
     have HLB := zK hN.2
     have HNN := zK hN.1
     unfold sequiturlaw32_BoxPoints.same at hE
     rw [List.all_eq_true] at hE
     have HLE : Aside0 (∀ i, i < OWN.length → i < all.length) := zK (fun i hi => by have := hE i (List.mem_range.2 hi); simp at this; exact this.1)
     obtain ⟨kI, hkI⟩ : ∃ kI, kI = k := ⟨_, rfl⟩
     have HEQ : Aside0 (∀ i, i < OWN.length → sequiturbase_Int64s.f kI (rd_L6 OWN (i : Int)) (rd_L6 all (i : Int)) = some true) := zK (fun i hi => by have := hE i (List.mem_range.2 hi); simp at this; rw [hkI]; exact this.2)
     clear hF hP hS hn hl1 hl2 hO hN hE h hkI
     refine calls_marks Try.func5 rfl ?_
     simp only [Try.ntmps5, List.size_toArray, List.length_cons, List.length_nil, Nat.reduceAdd, Nat.reduceSub, Array.replicate_succ, Array.replicate_zero, List.push_toArray, List.append_toArray, List.nil_append, List.cons_append]
     go_wp2_with (first
      | ((with_reducible refine gate_dst (N := 5) rfl ?_); refine box_event ?hg (N := 5) ?hd (cs := #[.int .u64 a2]) (t := 44) ?hr ?_; (case hd => rfl); (case hg => rfl); (case hr => first | (go_simp; done) | (go_simp; rfl)); intro b5 hg_ w1 hbox_ hb_; have BB5 := zK hbox_; have HB1 := zK hb_; have G5 := zK hg_; clear hg_ hbox_ hb_)
      | (go_at_call 21; refine (sequiturlaw32_alive.calls k true w1 HA.out).mono ?_; rintro e w2 ⟨rfl, hb_⟩; have HB2 := zK hb_; clear hb_)
      | (go_at_call 20; refine (sequiturlaw32_Few.calls k none 0 [] A0 c0 l0 A1 c1 l1 2000 true w2 (Kd.C_nil _ _) (Nat.le_refl _) (Kd.C_below (Kd.C_below HR0.out HB1.out) HB2.out) HC0.out (Kd.C_below (Kd.C_below HR1.out HB1.out) HB2.out) HC1.out HF.out).mono ?_; rintro e w3 ⟨rfl, hb_⟩; have HB3 := zK hb_; clear hb_)
      | (go_at_call 26; refine (sequiturref32_Points.calls k (fun z => z < w3.heap.size) A0 c0 l0 A1 c1 l1 all w3 (Kd.V_mk HC0.out (Kd.C_F (Kd.heap_int _) (Kd.C_below (Kd.C_below (Kd.C_below HR0.out HB1.out) HB2.out) HB3.out))) (Kd.C_below (Kd.C_below (Kd.C_below HR1.out HB1.out) HB2.out) HB3.out) HC1.out HP.out).mono ?_; rintro e w4 ⟨v4, rfl, hR_, hb_⟩; have HB4 := zK hb_; have HO4 := zK hR_; clear hb_ hR_; obtain ⟨Aa, ca, eo4⟩ := Kd.N_slice HO4.out; subst eo4)
      | ((with_reducible refine gate_dst (N := 8) rfl ?_); refine box_event ?hg (N := 8) ?hd (cs := #[.slice none 0 0]) (t := 37) ?hr ?_; (case hd => rfl); (case hg => rfl); (case hr => first | (go_simp; done) | (go_simp; rfl)); intro b8 hg_ w5 hbox_ hb_; have BB8 := zK hbox_; have HB5 := zK hb_; have G8 := zK hg_; clear hg_ hbox_ hb_)
      | (go_at_call 27; refine (boxAll.calls A0 A1 c0 c1 l0 l1 w5 (Kd.C_below (Kd.C_below (Kd.C_below (Kd.C_below (Kd.C_below HR0.out HB1.out) HB2.out) HB3.out) HB4.out) HB5.out) (Kd.C_below (Kd.C_below (Kd.C_below (Kd.C_below (Kd.C_below HR1.out HB1.out) HB2.out) HB3.out) HB4.out) HB5.out) HL1.out HL2.out).mono ?_; rintro e w6 ⟨Bl, Bh, E1, E2, d1, d2, rfl, hbl, hbh, ⟨hq1, hd1⟩, ⟨hq2, hd2⟩, hfr, hb_⟩; have HB6 := zK hb_; have HBL := zK hbl; have HBH := zK hbh; have HQ1 := zK hq1; have HQ2 := zK hq2; have HFR := zK hfr; clear hb_ hbl hbh hq1 hq2 hfr))
     have h45 := blk_below (blk_below (blk_below BB5.out HB2.out) HB3.out) HB4.out
     have L5 := blk_lt h45
     have L8 := blk_lt BB8.out
     have s5 := HB5.out.size
     have s6 := HB6.out.size
     have hw4 : Below w.heap.size w w4 := below_step (below_step (below_step HB1.out HB2.out) HB3.out) HB4.out
     have hE4 : w.heap.size ≤ w4.heap.size := hw4.size
     have e8 : b8 = w4.heap.size := G8.out
     have q8 := blk_below BB8.out HB6.out
     have h46 : Below w4.heap.size w4 w6 := below_step HB5.out HB6.out
     have hE6 : w4.heap.size ≤ w6.heap.size := h46.size
     have M8 : w4.heap.size ≤ b8 := by omega
     have L86 : b8 < w6.heap.size := by omega
     clear e8
     refine wp_range (gf := 53) (lb := #[.pointer (some ⟨Bl, 0, none⟩), .pointer (some ⟨Bh, 0, none⟩)]) rfl (enters_of Try.func53 (by kernel_rfl) rfl) rfl
      (May := fun b => b = b8) (more := boxMore n e2) (nxt := boxNxt l0 l1) (s0 := (l0, 0)) (enc := boxEnc)
      (fun W hb => boxAll1 k Bl Bh E1 E2 d1 d2 l0 l1 n e2 W _ (blk_below HBL.out hb) (blk_below HBH.out hb) (Kd.C_below HQ1.out hb) hd1 (Kd.C_below HQ2.out hb) hd2 (fun b hm => ?hM) HS.out HN.out HL1.out)
      (fun b hm => by subst hm; omega) boxEnc_step
      (fun m s W => (∃ own, (e2 = 0 → ∃ kq, sequiturlaw32_BoxPoints.l0 kq l0 l1 a2 s.1 n s.2 own = some OWN) ∧ (¬ e2 = 0 → own = OWN) ∧ ∃ v, W.heap[b8]? = some (.cells #[v] 37 (0, 0)) ∧ Kd.N (Kd.slice 2 (Kd.int .i64)) 33 W m (fun z => m ≤ z) v own) ∧ W.heap[b5]? = some (.cells #[.int .u64 a2] 44 (0, 0)) ∧ Below w4.heap.size w4 W)
      (fun c m W => c = .exit 0 ∧ w6.heap.size < m ∧ (∃ v, W.heap[b8]? = some (.cells #[v] 37 (0, 0)) ∧ Kd.N (Kd.slice 2 (Kd.int .i64)) 33 W m (fun z => m ≤ z) v OWN) ∧ W.heap[b5]? = some (.cells #[.int .u64 a2] 44 (0, 0)) ∧ Below w4.heap.size w4 W)
      ?hI ?hIx ?h0 ?round ?done ?stop
     case hM =>
      subst hm
      obtain ⟨f1, f2⟩ := HFR.out _ L8
      exact ⟨Nat.lt_of_lt_of_le f1 hb.size, f2⟩
     case hI =>
      rintro m s A B ⟨⟨own, hk1, hk2, v, g8, hv⟩, g5, hb⟩ hs
      exact ⟨⟨own, hk1, hk2, v, hs.blk g8 (by omega), Kd.N_step hv (fun z hz hlt => hs.block z hlt (fun ⟨_, e⟩ => by omega))⟩, hs.blk g5 (by omega), hs.below' hb hE6 (Nat.le_refl _)⟩
     case hIx =>
      rintro c m A B ⟨hc, hmm, ⟨v, g8, hv⟩, g5, hb⟩ hs
      exact ⟨hc, hmm, ⟨v, hs.blk g8 (by omega), Kd.N_step hv (fun z hz hlt => hs.block z hlt (fun ⟨_, e⟩ => by omega))⟩, hs.blk g5 (by omega), hs.below' hb hE6 (Nat.le_refl _)⟩
     case h0 =>
      intro W hb
      have hO := HO.out
      refine ⟨⟨[], fun e => ?_, fun e => ?_, .slice none 0 0, blk_below q8 hb, Kd.N_nil _ _ _ _ _⟩, blk_below (blk_below h45 h46) hb, h46.trans (hb.mono hE6)⟩
      ·rw [if_pos e] at hO
       exact ⟨k, hO⟩
      ·rw [if_neg e] at hO
       exact Option.some.inj hO
     case round =>
      intro l m s v W hm hm2
      gi_wp2
      refine ⟨trivial, ?_⟩
      rintro Wb ⟨⟨own, hq1, hq2, vo, g8, hv⟩, g5, hb⟩ hn he
      obtain ⟨kq, hq⟩ := hq1 hm.1
      obtain ⟨Av, cv, rfl⟩ := Kd.R_slice he
      obtain ⟨_, hcv, hCv⟩ := Kd.R_reads' he
      obtain ⟨Ao, co, rfl⟩ := Kd.N_slice hv
      cases kq with
      | zero => exact absurd hq (by simp [sequiturlaw32_BoxPoints.l0])
      | succ kq =>
       simp only [sequiturlaw32_BoxPoints.l0] at hq
       rw [if_pos hm.2] at hq
       have hz5 := (blk_cell g5 0).trans rfl
       have hz8 := (blk_cell g8 0).trans rfl
       have fz8 := blk_frozen g8 0
       have HV := zK hv
       have HBb := zK hb
       have HE := zK he; clear hq1 hq2 hv hb he
       by_cases z1 : IntKind.u64.wrap (own.length : Int) ≥ a2
       ·rw [if_pos z1] at hq
        obtain rfl := Option.some.inj hq
        have z1b : decide (a2 ≤ IntKind.u64.wrap (own.length : Int)) = true := decide_eq_true z1
        clear hq
        gi_wp2
        all_goals (first | exact ⟨RStep.of_below (Below.refl _ _) hn, rfl, by omega, ⟨_, g8, HV.out⟩, g5, HBb.out⟩ | (exfalso; rename_i h1 _; exact absurd h1 (by simp [undef])))
       ·rw [if_neg z1] at hq
        have z1b : decide (a2 ≤ IntKind.u64.wrap (own.length : Int)) = false := decide_eq_false z1
        by_cases z2 : (own.length : Int) > 3000
        ·rw [if_pos z2] at hq
         obtain rfl := Option.some.inj hq
         have z2b : decide (3000 < (own.length : Int)) = true := decide_eq_true z2
         clear hq
         gi_wp2
         all_goals (first | exact ⟨RStep.of_below (Below.refl _ _) hn, rfl, by omega, ⟨_, g8, HV.out⟩, g5, HBb.out⟩ | (exfalso; rename_i h1 _; exact absurd h1 (by simp [undef])))
        ·rw [if_neg z2] at hq
         have z2b : decide (3000 < (own.length : Int)) = false := decide_eq_false z2
         have z1c : decide (a2 ≤ (own.length : Int)) = false := decide_eq_false (fun h => z1 (by have e : IntKind.u64.wrap (own.length : Int) = (own.length : Int) % 18446744073709551616 := rfl; omega))
         obtain ⟨y, hy, hq⟩ := Option.bind_eq_some_iff.1 hq
         have HY := zK hy
         have HQ := zK hq; clear hy hq
         gi_wp2_with (gi_at_builtin; refine N_appendIn l (Kd.slice 2 (Kd.int .i64)) (w0 := Wb) m rfl (.tmp 37) (.tmp 39) 37 33 (.slice none 0 0) 24 rfl Try.underlying37 info33 rfl (by decide) (by omega) (.slice Ao own.length co) own s.1 [.slice Av s.1.length cv] (fun z => m ≤ z) (fun z => m ≤ z ∧ some z ≠ (Value.slice Ao own.length co).ownBlock) rfl rfl ?aP (fun _ hk => hk) (fun z hz => Nat.le_trans hn hz) HV.out (Below.refl _ _) hn (by omega) ?_; (case aP => exact Kd.FK_slice_mk hcv (Kd.R_F (Kd.R_apart' (Kd.R_mono (ok' := fun z => m ≤ z) (Kd.R_bound HE.out) (fun _ hk => hk.2.1)) (Kd.N_typed HV.out) (by decide)))); intro v1 w1 hN_ hB_ hg_ hat_; have HN1 := zK hN_; have HB1' := zK hB_; clear hN_ hB_ hg_ hat_; obtain ⟨A1', c1', eN⟩ := Kd.N_slice HN1.out; subst eN; have k8 := (HB1'.out.block b8 (by omega)).trans g8; have hy8 := (blk_cell k8 0).trans rfl; have fy8 := blk_frozen k8 0)
         have hN9 := HN1.out
         simp only [List.length_append, List.length_cons, List.length_nil, Nat.zero_add] at hN9
         have hRS : RStep (fun b => b = b8) m Wb w1 := ⟨HB1'.out.os, HB1'.out.tape, HB1'.out.output, HB1'.out.size, fun z hz _ => HB1'.out.block z hz⟩
         exact ⟨hRS.setCell rfl _, (y, s.2 + 1), ⟨rfl, kq, HY.out⟩, ⟨own ++ [s.1], fun _ => ⟨kq, HQ.out⟩, fun e => absurd hm.1 e, _, blk_put k8 0 _ rfl, Kd.N_step hN9 (fun z hz _ => Below.heap_setCell _ _ _ _ (by show z ≠ b8; omega))⟩, blk_far ((HB1'.out.block b5 (by omega)).trans g5) (p := ⟨b8, 0, none⟩) (by show b5 ≠ b8; omega) _, yS (HBb.out.trans (HB1'.out.mono (by omega))) M8⟩
     case done =>
      rintro m s W ⟨⟨own, hq1, hq2, v, g8, hv⟩, g5, hb⟩ hm hK
      have hown : OWN = own := by
       by_cases e0 : e2 = 0
       ·obtain ⟨kq, hq⟩ := hq1 e0
        cases kq with
        | zero => exact absurd hq (by simp [sequiturlaw32_BoxPoints.l0])
        | succ kq =>
         simp only [sequiturlaw32_BoxPoints.l0] at hq
         rw [if_neg (fun e => hm ⟨e0, e⟩)] at hq
         exact (Option.some.inj hq).symm
       ·exact (hq2 e0).symm
      subst hown
      clear hq1 hq2 hm
      have hN := HNN.out
      unfold sequiturlaw32_BoxPoints.n at hN
      by_cases cN : a2 < IntKind.u64.wrap (all.length : Int)
      ·rw [if_pos cN] at hN
       have cNb : decide (a2 < IntKind.u64.wrap (all.length : Int)) = true := decide_eq_true cN
       have hN1 : ((OWN.length : Int) != (wrap64 a2)) = false := bne_eq_false_iff_eq.mpr hN
       have hN2 : ((OWN.length : Int) == (wrap64 a2)) = true := beq_iff_eq.mpr hN
       obtain ⟨Ao, co, eo⟩ := Kd.N_slice hv
       subst eo
       have hz5 := (blk_cell g5 0).trans rfl
       have hz8 := (blk_cell g8 0).trans rfl
       have HV := zK hv
       have HBW := zK hb
       have HK := zK hK; clear hv hb hK hN
       dsimp only
       go_wp2
       go_loopg [55] OWN.length (fun kq v55 W' => ∃ i : Nat, v55 = .int .i64 i ∧ Aside0 (i ≤ OWN.length ∧ kq = OWN.length - i) ∧ Aside0 (Drawn0 W W'))
       case atStart => exact ⟨0, rfl, ⟨by omega, by omega⟩, ⟨Drawn0.refl _⟩⟩
       case round =>
        obtain ⟨i, rfl, HI, HD⟩ := hrel
        by_cases hlt : i < OWN.length
        ·obtain ⟨gko, rfl⟩ : ∃ gko, gk = gko + 1 := ⟨gk - 1, by have := HI.out; omega⟩
         have hl1 : decide ((i : Int) < (OWN.length : Int)) = true := decide_eq_true (by omega)
         have hla : i < all.length := HLE.out i hlt
         have hl2 : decide ((i : Int) < (all.length : Int)) = true := decide_eq_true (by omega)
         have hl0 : decide (0 ≤ (i : Int)) = true := decide_eq_true (by omega)
         obtain ⟨adx, Ax, cx, ex, hxx, hlx, hix⟩ := at_L6 (Kd.N_reads' HV.out).2.2 (i : Int) (by omega) (by omega)
         obtain ⟨ady, Ay, cy, ey, hyy, hly, hiy⟩ := at_L6 (Kd.N_reads' (Kd.N_below HO4.out (HBW.out : Below w4.heap.size w4 W))).2.2 (i : Int) (by omega) (by omega)
         cases ex
         cases ey
         simp only [Int.toNat_natCast] at hxx hyy
         obtain ⟨nd, rfl⟩ := HD.out.out
         have CI := zK (fun nd => sequiturbase_Int64s.calls kI Ax cx (rd_L6 OWN (i : Int)) Ay cy (rd_L6 all (i : Int)) true (W.drewN nd) (Kd.C_drewN hix nd) hlx (Kd.C_drewN hiy nd) hly (HEQ.out i hlt))
         clear hix hiy
         go_wp2_with (first | (go_at_call 25; refine (CI.out _).mono ?_; rintro e W2 ⟨rfl, ⟨nd2, rfl⟩⟩))
         go_roundg gko
         case measure => omega
         case rel =>
          refine ⟨i + 1, by rw [w64_ (by omega) (by have := HLB.out; omega)]; simp, ⟨by omega, by have := HI.out; omega⟩, ⟨by repeat (first | exact Drawn0.refl _ | apply Drawn0.step)⟩⟩
        ·have hl1 : decide ((i : Int) < (OWN.length : Int)) = false := decide_eq_false (by omega)
         obtain ⟨nd, rfl⟩ := HD.out.out
         go_wp2_with (first | (go_at_call 21; refine (sequiturlaw32_alive.calls k true _ HA.out).mono ?_; rintro e W3 ⟨rfl, hb_⟩; have HW3 := zK hb_; clear hb_))
         have hD := blk_below (zN HK.out nd) HW3.out
         refine ⟨by simp, .inl ⟨_, _, rfl, run_takeDeferred hD, ?_⟩⟩
         exact ⟨_, results_tmp rfl _ _ _, rfl, below_putObj (below_step (yN (hw4.trans (HBW.out.mono hE4)) nd) HW3.out) (by omega)⟩
      ·rw [if_neg cN] at hN
       have cNb : decide (a2 < IntKind.u64.wrap (all.length : Int)) = false := decide_eq_false cN
       have hN1 : ((OWN.length : Int) != (all.length : Int)) = false := bne_eq_false_iff_eq.mpr hN
       have hN2 : ((OWN.length : Int) == (all.length : Int)) = true := beq_iff_eq.mpr hN
       obtain ⟨Ao, co, eo⟩ := Kd.N_slice hv
       subst eo
       have hz5 := (blk_cell g5 0).trans rfl
       have hz8 := (blk_cell g8 0).trans rfl
       have HV := zK hv
       have HBW := zK hb
       have HK := zK hK; clear hv hb hK hN
       dsimp only
       go_wp2
       go_loopg [55] OWN.length (fun kq v55 W' => ∃ i : Nat, v55 = .int .i64 i ∧ Aside0 (i ≤ OWN.length ∧ kq = OWN.length - i) ∧ Aside0 (Drawn0 W W'))
       case atStart => exact ⟨0, rfl, ⟨by omega, by omega⟩, ⟨Drawn0.refl _⟩⟩
       case round =>
        obtain ⟨i, rfl, HI, HD⟩ := hrel
        by_cases hlt : i < OWN.length
        ·obtain ⟨gko, rfl⟩ : ∃ gko, gk = gko + 1 := ⟨gk - 1, by have := HI.out; omega⟩
         have hl1 : decide ((i : Int) < (OWN.length : Int)) = true := decide_eq_true (by omega)
         have hla : i < all.length := HLE.out i hlt
         have hl2 : decide ((i : Int) < (all.length : Int)) = true := decide_eq_true (by omega)
         have hl0 : decide (0 ≤ (i : Int)) = true := decide_eq_true (by omega)
         obtain ⟨adx, Ax, cx, ex, hxx, hlx, hix⟩ := at_L6 (Kd.N_reads' HV.out).2.2 (i : Int) (by omega) (by omega)
         obtain ⟨ady, Ay, cy, ey, hyy, hly, hiy⟩ := at_L6 (Kd.N_reads' (Kd.N_below HO4.out (HBW.out : Below w4.heap.size w4 W))).2.2 (i : Int) (by omega) (by omega)
         cases ex
         cases ey
         simp only [Int.toNat_natCast] at hxx hyy
         obtain ⟨nd, rfl⟩ := HD.out.out
         have CI := zK (fun nd => sequiturbase_Int64s.calls kI Ax cx (rd_L6 OWN (i : Int)) Ay cy (rd_L6 all (i : Int)) true (W.drewN nd) (Kd.C_drewN hix nd) hlx (Kd.C_drewN hiy nd) hly (HEQ.out i hlt))
         clear hix hiy
         go_wp2_with (first | (go_at_call 25; refine (CI.out _).mono ?_; rintro e W2 ⟨rfl, ⟨nd2, rfl⟩⟩))
         go_roundg gko
         case measure => omega
         case rel =>
          refine ⟨i + 1, by rw [w64_ (by omega) (by have := HLB.out; omega)]; simp, ⟨by omega, by have := HI.out; omega⟩, ⟨by repeat (first | exact Drawn0.refl _ | apply Drawn0.step)⟩⟩
        ·have hl1 : decide ((i : Int) < (OWN.length : Int)) = false := decide_eq_false (by omega)
         obtain ⟨nd, rfl⟩ := HD.out.out
         go_wp2_with (first | (go_at_call 21; refine (sequiturlaw32_alive.calls k true _ HA.out).mono ?_; rintro e W3 ⟨rfl, hb_⟩; have HW3 := zK hb_; clear hb_))
         have hD := blk_below (zN HK.out nd) HW3.out
         refine ⟨by simp, .inl ⟨_, _, rfl, run_takeDeferred hD, ?_⟩⟩
         exact ⟨_, results_tmp rfl _ _ _, rfl, below_putObj (below_step (yN (hw4.trans (HBW.out.mono hE4)) nd) HW3.out) (by omega)⟩
     case stop =>
      rintro c m W ⟨rfl, hmm, ⟨v, g8, hv⟩, g5, hb⟩ hK
      have hN := HNN.out
      unfold sequiturlaw32_BoxPoints.n at hN
      by_cases cN : a2 < IntKind.u64.wrap (all.length : Int)
      ·rw [if_pos cN] at hN
       have cNb : decide (a2 < IntKind.u64.wrap (all.length : Int)) = true := decide_eq_true cN
       have hN1 : ((OWN.length : Int) != (wrap64 a2)) = false := bne_eq_false_iff_eq.mpr hN
       have hN2 : ((OWN.length : Int) == (wrap64 a2)) = true := beq_iff_eq.mpr hN
       obtain ⟨Ao, co, eo⟩ := Kd.N_slice hv
       subst eo
       have hz5 := (blk_cell g5 0).trans rfl
       have hz8 := (blk_cell g8 0).trans rfl
       have HV := zK hv
       have HBW := zK hb
       have HK := zK hK; clear hv hb hK hN
       dsimp only
       go_wp2
       go_loopg [55] OWN.length (fun kq v55 W' => ∃ i : Nat, v55 = .int .i64 i ∧ Aside0 (i ≤ OWN.length ∧ kq = OWN.length - i) ∧ Aside0 (Drawn0 W W'))
       case atStart => exact ⟨0, rfl, ⟨by omega, by omega⟩, ⟨Drawn0.refl _⟩⟩
       case round =>
        obtain ⟨i, rfl, HI, HD⟩ := hrel
        by_cases hlt : i < OWN.length
        ·obtain ⟨gko, rfl⟩ : ∃ gko, gk = gko + 1 := ⟨gk - 1, by have := HI.out; omega⟩
         have hl1 : decide ((i : Int) < (OWN.length : Int)) = true := decide_eq_true (by omega)
         have hla : i < all.length := HLE.out i hlt
         have hl2 : decide ((i : Int) < (all.length : Int)) = true := decide_eq_true (by omega)
         have hl0 : decide (0 ≤ (i : Int)) = true := decide_eq_true (by omega)
         obtain ⟨adx, Ax, cx, ex, hxx, hlx, hix⟩ := at_L6 (Kd.N_reads' HV.out).2.2 (i : Int) (by omega) (by omega)
         obtain ⟨ady, Ay, cy, ey, hyy, hly, hiy⟩ := at_L6 (Kd.N_reads' (Kd.N_below HO4.out (HBW.out : Below w4.heap.size w4 W))).2.2 (i : Int) (by omega) (by omega)
         cases ex
         cases ey
         simp only [Int.toNat_natCast] at hxx hyy
         obtain ⟨nd, rfl⟩ := HD.out.out
         have CI := zK (fun nd => sequiturbase_Int64s.calls kI Ax cx (rd_L6 OWN (i : Int)) Ay cy (rd_L6 all (i : Int)) true (W.drewN nd) (Kd.C_drewN hix nd) hlx (Kd.C_drewN hiy nd) hly (HEQ.out i hlt))
         clear hix hiy
         go_wp2_with (first | (go_at_call 25; refine (CI.out _).mono ?_; rintro e W2 ⟨rfl, ⟨nd2, rfl⟩⟩))
         go_roundg gko
         case measure => omega
         case rel =>
          refine ⟨i + 1, by rw [w64_ (by omega) (by have := HLB.out; omega)]; simp, ⟨by omega, by have := HI.out; omega⟩, ⟨by repeat (first | exact Drawn0.refl _ | apply Drawn0.step)⟩⟩
        ·have hl1 : decide ((i : Int) < (OWN.length : Int)) = false := decide_eq_false (by omega)
         obtain ⟨nd, rfl⟩ := HD.out.out
         go_wp2_with (first | (go_at_call 21; refine (sequiturlaw32_alive.calls k true _ HA.out).mono ?_; rintro e W3 ⟨rfl, hb_⟩; have HW3 := zK hb_; clear hb_))
         have hD := blk_below (zN HK.out nd) HW3.out
         refine ⟨by simp, .inl ⟨_, _, rfl, run_takeDeferred hD, ?_⟩⟩
         exact ⟨_, results_tmp rfl _ _ _, rfl, below_putObj (below_step (yN (hw4.trans (HBW.out.mono hE4)) nd) HW3.out) (by omega)⟩
      ·rw [if_neg cN] at hN
       have cNb : decide (a2 < IntKind.u64.wrap (all.length : Int)) = false := decide_eq_false cN
       have hN1 : ((OWN.length : Int) != (all.length : Int)) = false := bne_eq_false_iff_eq.mpr hN
       have hN2 : ((OWN.length : Int) == (all.length : Int)) = true := beq_iff_eq.mpr hN
       obtain ⟨Ao, co, eo⟩ := Kd.N_slice hv
       subst eo
       have hz5 := (blk_cell g5 0).trans rfl
       have hz8 := (blk_cell g8 0).trans rfl
       have HV := zK hv
       have HBW := zK hb
       have HK := zK hK; clear hv hb hK hN
       dsimp only
       go_wp2
       go_loopg [55] OWN.length (fun kq v55 W' => ∃ i : Nat, v55 = .int .i64 i ∧ Aside0 (i ≤ OWN.length ∧ kq = OWN.length - i) ∧ Aside0 (Drawn0 W W'))
       case atStart => exact ⟨0, rfl, ⟨by omega, by omega⟩, ⟨Drawn0.refl _⟩⟩
       case round =>
        obtain ⟨i, rfl, HI, HD⟩ := hrel
        by_cases hlt : i < OWN.length
        ·obtain ⟨gko, rfl⟩ : ∃ gko, gk = gko + 1 := ⟨gk - 1, by have := HI.out; omega⟩
         have hl1 : decide ((i : Int) < (OWN.length : Int)) = true := decide_eq_true (by omega)
         have hla : i < all.length := HLE.out i hlt
         have hl2 : decide ((i : Int) < (all.length : Int)) = true := decide_eq_true (by omega)
         have hl0 : decide (0 ≤ (i : Int)) = true := decide_eq_true (by omega)
         obtain ⟨adx, Ax, cx, ex, hxx, hlx, hix⟩ := at_L6 (Kd.N_reads' HV.out).2.2 (i : Int) (by omega) (by omega)
         obtain ⟨ady, Ay, cy, ey, hyy, hly, hiy⟩ := at_L6 (Kd.N_reads' (Kd.N_below HO4.out (HBW.out : Below w4.heap.size w4 W))).2.2 (i : Int) (by omega) (by omega)
         cases ex
         cases ey
         simp only [Int.toNat_natCast] at hxx hyy
         obtain ⟨nd, rfl⟩ := HD.out.out
         have CI := zK (fun nd => sequiturbase_Int64s.calls kI Ax cx (rd_L6 OWN (i : Int)) Ay cy (rd_L6 all (i : Int)) true (W.drewN nd) (Kd.C_drewN hix nd) hlx (Kd.C_drewN hiy nd) hly (HEQ.out i hlt))
         clear hix hiy
         go_wp2_with (first | (go_at_call 25; refine (CI.out _).mono ?_; rintro e W2 ⟨rfl, ⟨nd2, rfl⟩⟩))
         go_roundg gko
         case measure => omega
         case rel =>
          refine ⟨i + 1, by rw [w64_ (by omega) (by have := HLB.out; omega)]; simp, ⟨by omega, by have := HI.out; omega⟩, ⟨by repeat (first | exact Drawn0.refl _ | apply Drawn0.step)⟩⟩
        ·have hl1 : decide ((i : Int) < (OWN.length : Int)) = false := decide_eq_false (by omega)
         obtain ⟨nd, rfl⟩ := HD.out.out
         go_wp2_with (first | (go_at_call 21; refine (sequiturlaw32_alive.calls k true _ HA.out).mono ?_; rintro e W3 ⟨rfl, hb_⟩; have HW3 := zK hb_; clear hb_))
         have hD := blk_below (zN HK.out nd) HW3.out
         refine ⟨by simp, .inl ⟨_, _, rfl, run_takeDeferred hD, ?_⟩⟩
         exact ⟨_, results_tmp rfl _ _ _, rfl, below_putObj (below_step (yN (hw4.trans (HBW.out.mono hE4)) nd) HW3.out) (by omega)⟩
    ·rw [if_neg hE] at h; cases h
   ·rw [if_neg hN] at h; cases h
  ·rw [if_neg hg] at h; cases h
end rounds

end Go.Proofs.Ytkfbfgkdabljiaa.PBoxPoints
