/- What the call of each function that the law reaches comes to, and the law out of its plain form; no condition but what stands in each theorem. -/
import Derived.Test.YtjinmlpekecmbaaEu5
import Derived.Test.YtjinmlpekecmbaaPEuclidNonex0
import Derived.Test.YtjinmlpekecmbaaPEuclidNonex1
import Derived.Test.YtjinmlpekecmbaaPEuclidNonex3
namespace Go.Proofs.Ytjinmlpekecmbaa.PEuclidNone
open Go.RowKit Go.Proofs.YtjinmlpekecmbaaW.PrintWords Go.Proofs.YtjinmlpekecmbaaW.PrintLast Go.Proofs.YtjinmlpekecmbaaW.PrintMore
open Go.Proofs.YtjinmlpekecmbaaW.PrintWords renaming blk_drewN → zN, blk_drew → zD, blk_alloc → zA, below_alloc → yA, pw_below_drewN → yN, below_drew1 → yD, below_set → yS, gate_callee → zC, gate_guard → zG
open Go.Proofs.YtjinmlpekecmbaaW.PrintWords.Kd renaming N_alloc → nA, N_drewN → nN, N_drew → nD, C_alloc → cA, C_drewN → cN, C_drew → cD
open Go.Proofs.YtjinmlpekecmbaaW.PrintWords.Aside0 renaming mk → zK
attribute [local go_sem] max2_int min2_int max_two min_two max_three min_three max_four min_four
set_option linter.unusedVariables false
set_option maxHeartbeats 8000000
set_option maxRecDepth 100000
set_option linter.unusedSimpArgs false

/-! ### euclid_run: function 28, by hand -/
-- EURUN: told by hand in the texts ..Eu*

/-! ### euclid_Solve: function 15 -/
def euclid_Solve.f (k : Nat) (l0 : List (S41)) (a1 : Int) : Option ((List (S41)) × Int × Bool × Int) := (euclid_run.f k l0 a1).bind fun bt249 => (some (bt249.1, bt249.2.1, bt249.2.2.1, bt249.2.2.2.2.2))
theorem euclid_Solve.mono : ∀ a0 a1 k, LeO (euclid_Solve.f k a0 a1) (euclid_Solve.f (k + 1) a0 a1) := by
 intro a0 a1 k
 unfold euclid_Solve.f
 repeat' first | (with_reducible first | exact euclid_run.mono .. | exact LeO.refl _ | exact LeO.none _ | refine LeO.ite ?_ ?_ | refine LeO.bind ?_ (fun _ => ?_)) | exact euclid_run.mono .. | exact LeO.none _ | refine LeO.ite ?_ ?_ | refine LeO.bind ?_ (fun _ => ?_)
theorem euclid_Solve.calls (k : Nat) (A0 : Option Addr) (c0 : Nat) (l0 : List (S41)) (a1 : Int) (r1 : List (S41)) (r2 : Int) (r3 : Bool) (r4 : Int) (w : World) (hr0 : Kd.C k41 w A0 l0.length l0) (hc0 : l0.length ≤ c0) (h : euclid_Solve.f k l0 a1 = some (r1, r2, r3, r4)) :
  Calls Try.prog 15 #[.slice A0 l0.length c0, .int .i64 a1] w fun e w' => ∃ v0_ : Value, e = .returned (.tuple #[.agg #[v0_, .int .i64 r2], .bool r3, .int .i64 r4]) ∧ Kd.S k41 41 w' w.heap.size (fun _ => True) v0_ r1 ∧ Below w.heap.size w w' := by
 have hu32 := Try.underlying32
 have HR0 := zK hr0
 have HC0 := zK hc0; clear hr0 hc0
 have HB := zK (Below.refl w.heap.size w)
 have H : ((euclid_run.f k l0 a1).bind fun bt249 => (some (bt249.1, bt249.2.1, bt249.2.2.1, bt249.2.2.2.2.2))) = some (r1, r2, r3, r4) := h
 clear h; replace H := zob H
 obtain ⟨⟨t249, t252, t253, t254, t257, t258⟩, A30, H⟩ := H
 replace H : (some (t249, t252, t253, t258)) = some (r1, r2, r3, r4) := H
 have A3 := zK A30; clear A30
 simp only [Option.some.injEq, Prod.mk.injEq] at H
 obtain ⟨rfl, rfl, rfl, rfl⟩ := H
 go_enter Try.func15, Try.ntmps15
 go_wp2_with (first | ((with_reducible refine gate_dst (N := 4) rfl ?_); refine zBx HB (cs := #[.slice none 0 0, .int .i64 0]) (t := 32) ?_; clear HB; intro gb248 hg w4 BK248 GW248 hb HB; clear hb hg) | ((with_reducible refine zC (f := 28) rfl ?_); refine zGo (some 15) Try.func28 #[.slice A0 l0.length c0, .int .i64 a1] ?_; (with_reducible refine (euclid_run.calls k _ _ l0 a1 t249 t252 t253 t254 t257 t258 _ ?side1 ?side2 A3.out).mono ?_); (case side1 => repeat (first | exact (Kd.C_below HR0.out HB.out) | (with_reducible refine cA ?_ _) | (with_reducible refine cN ?_ _) | (with_reducible refine cD ?_))); (case side2 => exact HC0.out); rintro e w5 ⟨v250, v255, rfl, ho0, ho1, hb⟩; refine ⟨_, rfl, ?_⟩; have HO251 := zK (Kd.S_lower ho0 (below_size (zo HB))); have HO256 := zK (Kd.R_lower ho1 (below_size (zo HB))); replace BK248 := zbb BK248 hb; replace HB := zst HB hb; clear hb; (try clear ho0); (try clear ho1)) | ((with_reducible refine gate_dst (N := 7) rfl ?_); refine zBox (cs := #[.slice none 0 0, .int .i64 0]) (t := 32) ?_; intro gb259 hg w6 hbox hb; replace HO251 := zK (Kd.S_below (by (with_reducible repeat (first | apply Kd.S_alloc | apply Kd.S_drewN | apply Kd.S_drew)); exact HO251.out) hb); replace HO256 := zK (Kd.R_below (zr HO256) hb); have BK259 := zK (hbox); have GW259 := zK ((by rw [hg]; exact (below_size (zo HB)) : w.heap.size ≤ gb259)); replace HB := zst HB hb; have NB248_259 := zn1 BK248 hg; have NB259_248 := zn2 BK248 hg; replace BK248 := zbb BK248 hb; clear hb hbox hg; obtain ⟨Ao7, co7, eo7⟩ := Kd.S_slice HO251.out; subst eo7; have hnb8 := NB259_248.out; have hnc8 := NB248_259.out; have hcz9_0 := zc0 BK259; have hcz9_1 := zc1 BK259; have hfz9_0 := zfz BK259 0; have hfz9_1 := zfz BK259 1; have hcz10_0 := zc0 BK248; have hcz10_1 := zc1 BK248; have hfz10_0 := zfz BK248 0; have hfz10_1 := zfz BK248 1))
 refine bodyPost_ret (results_ctt rfl _ _ gb248 32 #[.slice Ao7 t249.length co7, .int .i64 t252] (0, 0) _ rfl (by refine zM ?_; refine blk_put (cs := #[.slice Ao7 t249.length co7, .int .i64 0]) ?_ 1 _ rfl; refine zM ?_; refine blk_put (cs := #[.slice none 0 0, .int .i64 0]) ?_ 0 _ rfl; refine zM ?_; refine blk_far ?_ NB248_259.out _; refine zM ?_; refine blk_far ?_ NB248_259.out _; refine zM ?_; exact BK248.out) Try.underlying32 rfl (by kernel_rfl)) rfl ?_
 exact ⟨_, by first | rfl | (simp [errW_none, errW_some] <;> rfl) | (simp [*, errW_none, errW_some] <;> rfl), by (with_reducible repeat (first | apply Kd.S_alloc | apply Kd.S_drewN | apply Kd.S_drew)); exact Kd.S_mono (Kd.S_far (p := ⟨gb248, 1, none⟩) (Kd.S_far (p := ⟨gb248, 0, none⟩) (Kd.S_far (p := ⟨gb259, 1, none⟩) (Kd.S_far (p := ⟨gb259, 0, none⟩) (Kd.S_types (Kd.S_types HO251.out BK259.out (by decide)) BK248.out (by decide)) (fun _ hk => hk.1.2) (.slice Ao7 t249.length co7)) (fun _ hk => hk.1.2) (.int .i64 t252)) (fun _ hk => hk.2) (.slice Ao7 t249.length co7)) (fun _ hk => hk.2) (.int .i64 t252)) (fun _ hk => trivial), zo HB⟩

/-! ### sequiturlaw29_form: function 24 -/
def sequiturlaw29_form.l0 : Nat → List Int → Int → Int → Int → List (S44) → Option (Int × (List (S44)))
 | 0, _, _, _, _, _ => none
 | k + 1, x10, x11, x12, x262000, x262001 => if x12 < x11 then (if 0 ≤ x12 then (if x12 < (x10.length : Int) then (if (rd x10 x12) = 0 then (sequiturlaw29_form.l0 k x10 x11 (wrap64 (x12 + 1)) x262000 x262001) else (if x262001.length < 8796093022208 then (sequiturlaw29_form.l0 k x10 x11 (wrap64 (x12 + 1)) x262000 (x262001 ++ [(⟨x12, rd x10 x12⟩ : S44)])) else (none))) else (none)) else (none)) else (some (x262000, x262001))
def sequiturlaw29_form.f (k : Nat) (a0 : Int) (l1 : List Int) : Option (Int × (List (S44))) := sequiturlaw29_form.l0 k l1 (l1.length : Int) 0 a0 ([] : List (S44))
theorem sequiturlaw29_form.mono_l : ∀ k, (∀ y0 y1 y2 y3 y4, LeO (sequiturlaw29_form.l0 k y0 y1 y2 y3 y4) (sequiturlaw29_form.l0 (k + 1) y0 y1 y2 y3 y4))
 | 0 => fun _ _ _ _ _ r h => by simp [sequiturlaw29_form.l0] at h
 | k + 1 => by
  have ih0 := sequiturlaw29_form.mono_l k
  ·intro y0 y1 y2 y3 y4
   unfold sequiturlaw29_form.l0
   repeat' first | (with_reducible first | exact ih0 .. | exact LeO.refl _ | exact LeO.none _ | refine LeO.ite ?_ ?_ | refine LeO.bind ?_ (fun _ => ?_)) | exact ih0 .. | exact LeO.none _ | refine LeO.ite ?_ ?_ | refine LeO.bind ?_ (fun _ => ?_)
theorem sequiturlaw29_form.mono : ∀ a0 a1 k, LeO (sequiturlaw29_form.f k a0 a1) (sequiturlaw29_form.f (k + 1) a0 a1) := by
 intro a0 a1 k
 have ih0 := sequiturlaw29_form.mono_l k
 unfold sequiturlaw29_form.f
 repeat' first | (with_reducible first | exact ih0 .. | exact LeO.refl _ | exact LeO.none _ | refine LeO.ite ?_ ?_ | refine LeO.bind ?_ (fun _ => ?_)) | exact ih0 .. | exact LeO.none _ | refine LeO.ite ?_ ?_ | refine LeO.bind ?_ (fun _ => ?_)
theorem sequiturlaw29_form.calls (k : Nat) (a0 : Int) (A1 : Option Addr) (c1 : Nat) (l1 : List Int) (r1 : Int) (r2 : List (S44)) (w : World) (hr1 : Kd.C (Kd.int .i64) w A1 l1.length l1) (hc1 : l1.length ≤ c1) (h : sequiturlaw29_form.f k a0 l1 = some (r1, r2)) :
  Calls Try.prog 24 #[.int .i64 a0, .slice A1 l1.length c1] w fun e w' => ∃ v1_ : Value, e = .returned (.agg #[.int .i64 r1, v1_]) ∧ Kd.R k44 44 w' w.heap.size (fun _ => True) v1_ r2 ∧ Below w.heap.size w w' := by
 have hu41 := Try.underlying41
 have hu44 := Try.underlying44
 have HR1 := zK hr1
 have HC1 := zK hc1; clear hr1 hc1
 have HB := zK (Below.refl w.heap.size w)
 have H : (sequiturlaw29_form.l0 k l1 (l1.length : Int) 0 a0 ([] : List (S44))) = some (r1, r2) := h
 clear h
 have H' := zK H; clear H
 go_enter Try.func24, Try.ntmps24
 go_wp2_with (first | ((with_reducible refine gate_dst (N := 4) rfl ?_); refine zBx HB (cs := #[.int .i64 0, .slice none 0 0]) (t := 41) ?_; clear HB; intro gb260 hg w3 BK260 GW260 hb HB; clear hb hg) | ((with_reducible refine gate_dst (N := 5) rfl ?_); refine zBx HB (cs := #[.int .i64 0, .slice none 0 0]) (t := 41) ?_; clear HB; intro gb261 hg w4 BK261 GW261 hb HB; have NB260_261 := zn1 BK260 hg; have NB261_260 := zn2 BK260 hg; replace BK260 := zbb BK260 hb; clear hb hg; have hnb5 := NB261_260.out; have hnc5 := NB260_261.out; have hcz6_0 := zc0 BK261; have hcz6_1 := zc1 BK261; have hfz6_0 := zfz BK261 0; have hfz6_1 := zfz BK261 1))
 go_loopg [12] k (fun kq v12 w' => ∃ (x12_1 : Int) (x262001_1 : List (S44)) (u262001 : Value), v12 = .int .i64 x12_1 ∧ Aside0 (sequiturlaw29_form.l0 kq l1 (l1.length : Int) x12_1 a0 x262001_1 = some (r1, r2)) ∧ Aside0 (kq ≤ k) ∧ Aside0 (Kd.R k44 44 w' w.heap.size (fun _ => True) u262001 x262001_1) ∧ Aside0 (w'.heap[gb260]? = some (.cells #[.int .i64 0, (.slice none 0 0)] 41 (0, 0))) ∧ Aside0 (w'.heap[gb261]? = some (.cells #[.int .i64 a0, u262001] 41 (0, 0))) ∧ Aside0 (Below w.heap.size w w'))
 case atStart => exact ⟨(0), (([] : List (S44))), (.slice none 0 0), (by first | rfl | (simp; done) | (simp [*]; done)), H', ⟨Nat.le_refl _⟩, ⟨by first | exact Kd.R_nil _ _ _ _ _ | exact Kd.N_nil _ _ _ _ _ | exact Kd.V_nil _ _ _ _ _ | exact Kd.Q_nil _ _ _ _ _ | exact Kd.S_nil _ _ _ _ _⟩, ⟨zb BK260⟩, ⟨by refine zM ?_; refine blk_put (cs := #[.int .i64 a0, .slice none 0 0]) ?_ 1 _ rfl; refine zM ?_; refine blk_put (cs := #[.int .i64 0, .slice none 0 0]) ?_ 0 _ rfl; refine zM ?_; exact BK261.out⟩, ⟨zo HB⟩⟩
 case round =>
  clear H'; try clear c1; try clear c2; try clear p2
  try clear c5; try clear hcz6_0; try clear hcz6_1; try clear hfz6_0; try clear hfz6_1
  obtain ⟨x12_1, x262001_1, u262001, rfl, HA, HK1, HO_262001, BK260, BK261, HB⟩ := hrel
  cases gk with
  | zero => exact absurd HA.out (by simp [sequiturlaw29_form.l0])
  | succ k1 =>
   have H := HA.out; clear HA
   simp only [sequiturlaw29_form.l0] at H
   by_cases c7 : x12_1 < (l1.length : Int)
   ·rw [if_pos c7] at H
    have c7b0 : decide (x12_1 < (l1.length : Int)) = true := decide_eq_true c7
    clear c7
    by_cases c8 : 0 ≤ x12_1
    ·rw [if_pos c8] at H
     have c8b0 : decide (0 ≤ x12_1) = true := decide_eq_true c8; clear c8
     by_cases c9 : x12_1 < (l1.length : Int)
     ·rw [if_pos c9] at H
      have c9b0 : decide (x12_1 < (l1.length : Int)) = true := decide_eq_true c9
      clear c9
      by_cases c10 : (rd l1 x12_1) = 0
      ·rw [if_pos c10] at H
       have c10b0 : ((rd l1 x12_1) == 0) = true := beq_iff_eq.mpr c10
       have c10b1 : ((rd l1 x12_1) != 0) = false := bne_eq_false_iff_eq.mpr c10
       clear c10
       have H' := zK H; clear H
       have p262 : 0 ≤ (x12_1 : Int) := zdt
       have q262 : x12_1 < (l1.length : Int) := zdt
       obtain ⟨ad262, e262, hx262_0⟩ := Kd.at_int HR1.out x12_1 p262 q262
       cases e262
       replace hx262_0 := zcl HB hx262_0
       replace p262 := eq_true p262
       replace q262 := eq_true q262
       go_wp2
       go_roundg k1
       case measure => have := HK1.out; omega
       case rel => exact ⟨(wrap64 (x12_1 + 1)), (x262001_1), (u262001), (by first | rfl | (simp; done) | (simp [*]; done)), H', ⟨by have := HK1.out; omega⟩, ⟨zr HO_262001⟩, ⟨zb BK260⟩, ⟨zb BK261⟩, ⟨zo HB⟩⟩
      ·rw [if_neg c10] at H
       have c10b0 : ((rd l1 x12_1) == 0) = false := beq_eq_false_iff_ne.mpr c10
       have c10b1 : ((rd l1 x12_1) != 0) = true := bne_iff_ne.mpr c10
       by_cases c11 : x262001_1.length < 8796093022208
       ·rw [if_pos c11] at H
        have LMc11 := zK c11; clear c11
        obtain ⟨y263, hy263⟩ : ∃ y_ : List (S44), y_ = (x262001_1 ++ [(⟨x12_1, rd l1 x12_1⟩ : S44)]) := ⟨_, rfl⟩
        replace H : (sequiturlaw29_form.l0 k1 l1 (l1.length : Int) (wrap64 (x12_1 + 1)) a0 y263) = some (r1, r2) := by first | (rw [hy263]; with_reducible exact H) | (have H2_ := (Option.bind_some _ _).symm.trans H; rw [hy263]; with_reducible exact H2_) | (have H2_ := (Option.bind_some _ _).symm.trans H; with_reducible exact H2_) | with_reducible exact H | (rw [hy263]; exact H) | exact H
        have Ny263 := zK hy263; clear hy263
        have H' := zK H; clear H
        have p262 : 0 ≤ (x12_1 : Int) := zdt
        have q262 : x12_1 < (l1.length : Int) := zdt
        obtain ⟨ad262, e262, hx262_0⟩ := Kd.at_int HR1.out x12_1 p262 q262
        cases e262
        replace hx262_0 := zcl HB hx262_0
        replace p262 := eq_true p262
        replace q262 := eq_true q262
        have hnb12 := NB261_260.out
        have hnc12 := NB260_261.out
        have hcz13_0 := zc0 BK261
        have hcz13_1 := zc1 BK261
        have hfz13_0 := zfz BK261 0
        have hfz13_1 := zfz BK261 1
        go_wp2_with (first | ((with_reducible refine gate_builtin (b := .append) (xs := #[.tmp 20, .tmp 24]) rfl ?_); at_builtin; refine Kd.R_append k44 (w0 := w) w.heap.size rfl (.tmp 20) (.tmp 24) 39 44 (.agg #[(.int .i64 0), (.int .i64 0)]) 16 rfl Try.underlying39 info44 rfl (by decide) (by omega) u262001 x262001_1 (⟨x12_1, rd l1 x12_1⟩ : S44) [.int .i64 x12_1, .int .i64 (rd l1 x12_1)] (fun _ => True) (fun _ => False) rfl rfl ?aP (fun _ hk => hk.elim) ?aF ?aO ?aB ?aS ?aL ?_; (case aP => exact k44_mkM _ _ _ (⟨x12_1, rd l1 x12_1⟩ : S44)); (case aB => exact (zo HB)); (case aF => exact (fun _ _ => trivial)); (case aO => exact (zr HO_262001)); (case aS => exact (below_size (zo HB))); (case aL => have := LMc11.out; omega); intro v264 w14 ho hb hg hat; rw [← Ny263.out] at ho; replace BK260 := zK (blk_grown (g := gb260) (o := .cells #[.int .i64 0, .slice none 0 0] 41 (0, 0)) (zb BK260) hg (Kd.R_ne HO_262001.out BK260.out (by decide))); replace BK261 := zK (blk_grown (g := gb261) (o := .cells #[.int .i64 a0, u262001] 41 (0, 0)) (zb BK261) hg (Kd.R_ne HO_262001.out BK261.out (by decide))); replace HB := zK (hb); have HO265 := zK (ho); clear HO_262001 ho hb hg hat; obtain ⟨Ao15, co15, eo15⟩ := Kd.R_slice HO265.out; subst eo15; have hcz16_0 := zc0 BK261; have hcz16_1 := zc1 BK261; have hfz16_0 := zfz BK261 0; have hfz16_1 := zfz BK261 1))
        go_roundg k1
        case measure => have := HK1.out; omega
        case rel => exact ⟨(wrap64 (x12_1 + 1)), (y263), (.slice Ao15 y263.length co15), (by first | rfl | (simp; done) | (simp [*]; done)), H', ⟨by have := HK1.out; omega⟩, ⟨by (with_reducible repeat (first | apply Kd.R_alloc | apply Kd.R_drewN | apply Kd.R_drew)); exact Kd.R_mono (Kd.R_far (p := ⟨gb261, 1, none⟩) (Kd.R_types HO265.out BK261.out (by decide)) (fun _ hk => hk.2) (.slice Ao15 y263.length co15)) (fun _ hk => trivial)⟩, ⟨zb BK260⟩, ⟨by refine zM ?_; refine blk_put (cs := #[.int .i64 a0, u262001]) ?_ 1 _ rfl; refine zM ?_; exact BK261.out⟩, ⟨zo HB⟩⟩
       ·rw [if_neg c11] at H
        exact absurd H (by simp)
     ·rw [if_neg c9] at H
      exact absurd H (by simp)
    ·rw [if_neg c8] at H
     exact absurd H (by simp)
   ·rw [if_neg c7] at H
    have c7b0 : decide (x12_1 < (l1.length : Int)) = false := decide_eq_false c7
    clear c7
    simp only [Option.some.injEq, Prod.mk.injEq] at H
    obtain ⟨rfl, rfl⟩ := H
    have hnb17 := NB261_260.out
    have hnc17 := NB260_261.out
    have hcz18_0 := zc0 BK261
    have hcz18_1 := zc1 BK261
    have hfz18_0 := zfz BK261 0
    have hfz18_1 := zfz BK261 1
    have hcz19_0 := zc0 BK260
    have hcz19_1 := zc1 BK260
    have hfz19_0 := zfz BK260 0
    have hfz19_1 := zfz BK260 1
    obtain ⟨Ao20, co20, eo20⟩ := Kd.R_slice HO_262001.out
    subst eo20
    go_wp2
    refine bodyPost_ret (results_cell_row rfl _ _ gb260 41 #[.int .i64 a0, .slice Ao20 x262001_1.length co20] (0, 0) _ rfl (by refine zM ?_; refine blk_put (cs := #[.int .i64 a0, .slice none 0 0]) ?_ 1 _ rfl; refine zM ?_; refine blk_put (cs := #[.int .i64 0, .slice none 0 0]) ?_ 0 _ rfl; refine zM ?_; exact BK260.out) Try.underlying41 rfl (by kernel_rfl)) rfl ?_
    exact ⟨_, by first | rfl | (simp [errW_none, errW_some] <;> rfl) | (simp [*, errW_none, errW_some] <;> rfl), by (with_reducible repeat (first | apply Kd.R_alloc | apply Kd.R_drewN | apply Kd.R_drew)); exact Kd.R_mono (Kd.R_far (p := ⟨gb260, 1, none⟩) (Kd.R_far (p := ⟨gb260, 0, none⟩) (Kd.R_types HO_262001.out BK260.out (by decide)) (fun _ hk => hk.2) (.int .i64 a0)) (fun _ hk => hk.2) (.slice Ao20 x262001_1.length co20)) (fun _ hk => trivial), zo HB⟩

/-! ### sequiturlaw29_alive: function 10 -/
def sequiturlaw29_alive.f (k : Nat)  : Option (Bool) := (sequiturlaw29_form.f k (-1) (([2, 3] : List Int))).bind fun bt269 => ((euclid_Solve.f k (([(⟨bt269.1, bt269.2⟩ : S41)] : List (S41))) 2).bind fun bt276 => ((sequiturlaw29_form.f k (-1) (([2, 4] : List Int))).bind fun bt286 => ((euclid_Solve.f k (([(⟨bt286.1, bt286.2⟩ : S41)] : List (S41))) 2).bind fun bt293 => (if bt276.2.2.1 = true then (if bt276.2.2.2 = 0 then (if bt276.2.1 = 1 then (if bt293.2.2.1 = true then (none) else (if bt293.2.2.2 = 0 then ((sequiturlaw29_form.f k (-1) (([2, 4] : List Int))).bind fun bt303 => ((euclid_Check.f k (([(⟨bt303.1, bt303.2⟩ : S41)] : List (S41))) (([1] : List Int)) 2).bind fun t313 => (some (t313 == 0)))) else (none))) else (none)) else (none)) else (none)))))
theorem sequiturlaw29_alive.mono : ∀ k, LeO (sequiturlaw29_alive.f k ) (sequiturlaw29_alive.f (k + 1) ) := by
 intro  k
 unfold sequiturlaw29_alive.f
 repeat' first | (with_reducible first | exact euclid_Check.mono .. | exact euclid_Solve.mono .. | exact sequiturlaw29_form.mono .. | exact LeO.refl _ | exact LeO.none _ | refine LeO.ite ?_ ?_ | refine LeO.bind ?_ (fun _ => ?_)) | exact euclid_Check.mono .. | exact euclid_Solve.mono .. | exact sequiturlaw29_form.mono .. | exact LeO.none _ | refine LeO.ite ?_ ?_ | refine LeO.bind ?_ (fun _ => ?_)
theorem sequiturlaw29_alive.calls (k : Nat)  (r : Bool) (w : World) (h : sequiturlaw29_alive.f k  = some r) :
  Calls Try.prog 10 #[] w fun e w' => e = .returned (.bool r) ∧ Below w.heap.size w w' := by
 have hu32 := Try.underlying32
 have HB := zK (Below.refl w.heap.size w)
 have H : ((sequiturlaw29_form.f k (-1) (([2, 3] : List Int))).bind fun bt269 => ((euclid_Solve.f k (([(⟨bt269.1, bt269.2⟩ : S41)] : List (S41))) 2).bind fun bt276 => ((sequiturlaw29_form.f k (-1) (([2, 4] : List Int))).bind fun bt286 => ((euclid_Solve.f k (([(⟨bt286.1, bt286.2⟩ : S41)] : List (S41))) 2).bind fun bt293 => (if bt276.2.2.1 = true then (if bt276.2.2.2 = 0 then (if bt276.2.1 = 1 then (if bt293.2.2.1 = true then (none) else (if bt293.2.2.2 = 0 then ((sequiturlaw29_form.f k (-1) (([2, 4] : List Int))).bind fun bt303 => ((euclid_Check.f k (([(⟨bt303.1, bt303.2⟩ : S41)] : List (S41))) (([1] : List Int)) 2).bind fun t313 => (some (t313 == 0)))) else (none))) else (none)) else (none)) else (none)))))) = some r := h
 clear h
 obtain ⟨y266, hy266⟩ : ∃ y_ : List Int, y_ = (([2, 3] : List Int)) := ⟨_, rfl⟩
 replace H : ((sequiturlaw29_form.f k (-1) y266).bind fun bt269 => ((euclid_Solve.f k (([(⟨bt269.1, bt269.2⟩ : S41)] : List (S41))) 2).bind fun bt276 => ((sequiturlaw29_form.f k (-1) (([2, 4] : List Int))).bind fun bt286 => ((euclid_Solve.f k (([(⟨bt286.1, bt286.2⟩ : S41)] : List (S41))) 2).bind fun bt293 => (if bt276.2.2.1 = true then (if bt276.2.2.2 = 0 then (if bt276.2.1 = 1 then (if bt293.2.2.1 = true then (none) else (if bt293.2.2.2 = 0 then ((sequiturlaw29_form.f k (-1) (([2, 4] : List Int))).bind fun bt303 => ((euclid_Check.f k (([(⟨bt303.1, bt303.2⟩ : S41)] : List (S41))) (([1] : List Int)) 2).bind fun t313 => (some (t313 == 0)))) else (none))) else (none)) else (none)) else (none)))))) = some r := by first | (rw [hy266]; with_reducible exact H) | (have H2_ := (Option.bind_some _ _).symm.trans H; rw [hy266]; with_reducible exact H2_) | (have H2_ := (Option.bind_some _ _).symm.trans H; with_reducible exact H2_) | with_reducible exact H | (rw [hy266]; exact H) | exact H
 have Ny266 := zK hy266; clear hy266; replace H := zob H
 obtain ⟨⟨t269, t270⟩, A10, H⟩ := H
 replace H : ((euclid_Solve.f k (([(⟨t269, t270⟩ : S41)] : List (S41))) 2).bind fun bt276 => ((sequiturlaw29_form.f k (-1) (([2, 4] : List Int))).bind fun bt286 => ((euclid_Solve.f k (([(⟨bt286.1, bt286.2⟩ : S41)] : List (S41))) 2).bind fun bt293 => (if bt276.2.2.1 = true then (if bt276.2.2.2 = 0 then (if bt276.2.1 = 1 then (if bt293.2.2.1 = true then (none) else (if bt293.2.2.2 = 0 then ((sequiturlaw29_form.f k (-1) (([2, 4] : List Int))).bind fun bt303 => ((euclid_Check.f k (([(⟨bt303.1, bt303.2⟩ : S41)] : List (S41))) (([1] : List Int)) 2).bind fun t313 => (some (t313 == 0)))) else (none))) else (none)) else (none)) else (none))))) = some r := H
 have A1 := zK A10; clear A10
 obtain ⟨y273, hy273⟩ : ∃ y_ : List (S41), y_ = (([(⟨t269, t270⟩ : S41)] : List (S41))) := ⟨_, rfl⟩
 replace H : ((euclid_Solve.f k y273 2).bind fun bt276 => ((sequiturlaw29_form.f k (-1) (([2, 4] : List Int))).bind fun bt286 => ((euclid_Solve.f k (([(⟨bt286.1, bt286.2⟩ : S41)] : List (S41))) 2).bind fun bt293 => (if bt276.2.2.1 = true then (if bt276.2.2.2 = 0 then (if bt276.2.1 = 1 then (if bt293.2.2.1 = true then (none) else (if bt293.2.2.2 = 0 then ((sequiturlaw29_form.f k (-1) (([2, 4] : List Int))).bind fun bt303 => ((euclid_Check.f k (([(⟨bt303.1, bt303.2⟩ : S41)] : List (S41))) (([1] : List Int)) 2).bind fun t313 => (some (t313 == 0)))) else (none))) else (none)) else (none)) else (none))))) = some r := by first | (rw [hy273]; with_reducible exact H) | (have H2_ := (Option.bind_some _ _).symm.trans H; rw [hy273]; with_reducible exact H2_) | (have H2_ := (Option.bind_some _ _).symm.trans H; with_reducible exact H2_) | with_reducible exact H | (rw [hy273]; exact H) | exact H
 have Ny273 := zK hy273; clear hy273; replace H := zob H
 obtain ⟨⟨t276, t279, t280, t281⟩, A20, H⟩ := H
 replace H : ((sequiturlaw29_form.f k (-1) (([2, 4] : List Int))).bind fun bt286 => ((euclid_Solve.f k (([(⟨bt286.1, bt286.2⟩ : S41)] : List (S41))) 2).bind fun bt293 => (if t280 = true then (if t281 = 0 then (if t279 = 1 then (if bt293.2.2.1 = true then (none) else (if bt293.2.2.2 = 0 then ((sequiturlaw29_form.f k (-1) (([2, 4] : List Int))).bind fun bt303 => ((euclid_Check.f k (([(⟨bt303.1, bt303.2⟩ : S41)] : List (S41))) (([1] : List Int)) 2).bind fun t313 => (some (t313 == 0)))) else (none))) else (none)) else (none)) else (none)))) = some r := H
 have A2 := zK A20; clear A20
 obtain ⟨y283, hy283⟩ : ∃ y_ : List Int, y_ = (([2, 4] : List Int)) := ⟨_, rfl⟩
 replace H : ((sequiturlaw29_form.f k (-1) y283).bind fun bt286 => ((euclid_Solve.f k (([(⟨bt286.1, bt286.2⟩ : S41)] : List (S41))) 2).bind fun bt293 => (if t280 = true then (if t281 = 0 then (if t279 = 1 then (if bt293.2.2.1 = true then (none) else (if bt293.2.2.2 = 0 then ((sequiturlaw29_form.f k (-1) (([2, 4] : List Int))).bind fun bt303 => ((euclid_Check.f k (([(⟨bt303.1, bt303.2⟩ : S41)] : List (S41))) (([1] : List Int)) 2).bind fun t313 => (some (t313 == 0)))) else (none))) else (none)) else (none)) else (none)))) = some r := by first | (rw [hy283]; with_reducible exact H) | (have H2_ := (Option.bind_some _ _).symm.trans H; rw [hy283]; with_reducible exact H2_) | (have H2_ := (Option.bind_some _ _).symm.trans H; with_reducible exact H2_) | with_reducible exact H | (rw [hy283]; exact H) | exact H
 have Ny283 := zK hy283; clear hy283; replace H := zob H
 obtain ⟨⟨t286, t287⟩, A30, H⟩ := H
 replace H : ((euclid_Solve.f k (([(⟨t286, t287⟩ : S41)] : List (S41))) 2).bind fun bt293 => (if t280 = true then (if t281 = 0 then (if t279 = 1 then (if bt293.2.2.1 = true then (none) else (if bt293.2.2.2 = 0 then ((sequiturlaw29_form.f k (-1) (([2, 4] : List Int))).bind fun bt303 => ((euclid_Check.f k (([(⟨bt303.1, bt303.2⟩ : S41)] : List (S41))) (([1] : List Int)) 2).bind fun t313 => (some (t313 == 0)))) else (none))) else (none)) else (none)) else (none))) = some r := H
 have A3 := zK A30; clear A30
 obtain ⟨y290, hy290⟩ : ∃ y_ : List (S41), y_ = (([(⟨t286, t287⟩ : S41)] : List (S41))) := ⟨_, rfl⟩
 replace H : ((euclid_Solve.f k y290 2).bind fun bt293 => (if t280 = true then (if t281 = 0 then (if t279 = 1 then (if bt293.2.2.1 = true then (none) else (if bt293.2.2.2 = 0 then ((sequiturlaw29_form.f k (-1) (([2, 4] : List Int))).bind fun bt303 => ((euclid_Check.f k (([(⟨bt303.1, bt303.2⟩ : S41)] : List (S41))) (([1] : List Int)) 2).bind fun t313 => (some (t313 == 0)))) else (none))) else (none)) else (none)) else (none))) = some r := by first | (rw [hy290]; with_reducible exact H) | (have H2_ := (Option.bind_some _ _).symm.trans H; rw [hy290]; with_reducible exact H2_) | (have H2_ := (Option.bind_some _ _).symm.trans H; with_reducible exact H2_) | with_reducible exact H | (rw [hy290]; exact H) | exact H
 have Ny290 := zK hy290; clear hy290; replace H := zob H
 obtain ⟨⟨t293, t296, t297, t298⟩, A40, H⟩ := H
 replace H : (if t280 = true then (if t281 = 0 then (if t279 = 1 then (if t297 = true then (none) else (if t298 = 0 then ((sequiturlaw29_form.f k (-1) (([2, 4] : List Int))).bind fun bt303 => ((euclid_Check.f k (([(⟨bt303.1, bt303.2⟩ : S41)] : List (S41))) (([1] : List Int)) 2).bind fun t313 => (some (t313 == 0)))) else (none))) else (none)) else (none)) else (none)) = some r := H
 have A4 := zK A40; clear A40
 by_cases c5 : t280 = true
 ·subst c5
  have H1 : (if t281 = 0 then (if t279 = 1 then (if t297 = true then (none) else (if t298 = 0 then ((sequiturlaw29_form.f k (-1) (([2, 4] : List Int))).bind fun bt303 => ((euclid_Check.f k (([(⟨bt303.1, bt303.2⟩ : S41)] : List (S41))) (([1] : List Int)) 2).bind fun t313 => (some (t313 == 0)))) else (none))) else (none)) else (none)) = some r := by rw [if_pos rfl] at H; exact H
  clear H; have H := H1; clear H1
  by_cases c6 : t281 = 0
  ·rw [if_pos c6] at H
   have c6b0 : (t281 == 0) = true := beq_iff_eq.mpr c6
   have c6b1 : (t281 != 0) = false := bne_eq_false_iff_eq.mpr c6; clear c6
   by_cases c7 : t279 = 1
   ·rw [if_pos c7] at H
    have c7b0 : (t279 == 1) = true := beq_iff_eq.mpr c7
    have c7b1 : (t279 != 1) = false := bne_eq_false_iff_eq.mpr c7; clear c7
    by_cases c8 : t297 = true
    ·subst c8
     have H1 : (none) = some r := by rw [if_pos rfl] at H; exact H
     clear H
     have H := H1; clear H1
     exact absurd H (by simp)
    ·replace c8 := Bool.eq_false_iff.mpr c8
     subst c8
     have H1 : (if t298 = 0 then ((sequiturlaw29_form.f k (-1) (([2, 4] : List Int))).bind fun bt303 => ((euclid_Check.f k (([(⟨bt303.1, bt303.2⟩ : S41)] : List (S41))) (([1] : List Int)) 2).bind fun t313 => (some (t313 == 0)))) else (none)) = some r := by rw [if_neg (show ¬ (false = true) by decide)] at H; exact H
     clear H; have H := H1; clear H1
     by_cases c9 : t298 = 0
     ·rw [if_pos c9] at H
      have c9b0 : (t298 == 0) = true := beq_iff_eq.mpr c9
      have c9b1 : (t298 != 0) = false := bne_eq_false_iff_eq.mpr c9; clear c9
      obtain ⟨y300, hy300⟩ : ∃ y_ : List Int, y_ = (([2, 4] : List Int)) := ⟨_, rfl⟩
      replace H : ((sequiturlaw29_form.f k (-1) y300).bind fun bt303 => ((euclid_Check.f k (([(⟨bt303.1, bt303.2⟩ : S41)] : List (S41))) (([1] : List Int)) 2).bind fun t313 => (some (t313 == 0)))) = some r := by first | (rw [hy300]; with_reducible exact H) | (have H2_ := (Option.bind_some _ _).symm.trans H; rw [hy300]; with_reducible exact H2_) | (have H2_ := (Option.bind_some _ _).symm.trans H; with_reducible exact H2_) | with_reducible exact H | (rw [hy300]; exact H) | exact H
      have Ny300 := zK hy300; clear hy300; replace H := zob H
      obtain ⟨⟨t303, t304⟩, A100, H⟩ := H
      replace H : ((euclid_Check.f k (([(⟨t303, t304⟩ : S41)] : List (S41))) (([1] : List Int)) 2).bind fun t313 => (some (t313 == 0))) = some r := H
      have A10 := zK A100; clear A100
      obtain ⟨y307, hy307⟩ : ∃ y_ : List (S41), y_ = (([(⟨t303, t304⟩ : S41)] : List (S41))) := ⟨_, rfl⟩
      replace H : ((euclid_Check.f k y307 (([1] : List Int)) 2).bind fun t313 => (some (t313 == 0))) = some r := by first | (rw [hy307]; with_reducible exact H) | (have H2_ := (Option.bind_some _ _).symm.trans H; rw [hy307]; with_reducible exact H2_) | (have H2_ := (Option.bind_some _ _).symm.trans H; with_reducible exact H2_) | with_reducible exact H | (rw [hy307]; exact H) | exact H
      have Ny307 := zK hy307; clear hy307
      obtain ⟨y310, hy310⟩ : ∃ y_ : List Int, y_ = (([1] : List Int)) := ⟨_, rfl⟩
      replace H : ((euclid_Check.f k y307 y310 2).bind fun t313 => (some (t313 == 0))) = some r := by first | (rw [hy310]; with_reducible exact H) | (have H2_ := (Option.bind_some _ _).symm.trans H; rw [hy310]; with_reducible exact H2_) | (have H2_ := (Option.bind_some _ _).symm.trans H; with_reducible exact H2_) | with_reducible exact H | (rw [hy310]; exact H) | exact H
      have Ny310 := zK hy310; clear hy310; replace H := zob H
      obtain ⟨t313, A110, H⟩ := H; replace H : (some (t313 == 0)) = some r := H
      have A11 := zK A110; clear A110
      obtain rfl := Option.some.inj H
      go_enter Try.func10, Try.ntmps10
      go_wp2_with (first | ((with_reducible refine gate_dst (N := 8) rfl ?_); (try (refine zG (by rfl) ?_; dsimp only)); refine Kd.R_lit (Kd.int .i64) _ 2 ?hg (N := 8) ?hd (xs := ([2, 3] : List Int)) (inner := [.int .i64 2, .int .i64 3]) (ok := fun _ => True) (okp := fun _ => True) ?hr ?hp (fun _ hk => hk) trivial (Below.refl _ _) (Nat.le_refl _) (by simp) ?_; (case hd => rfl); (case hg => rfl); (case hr => first | (go_simp; done) | (go_simp; rfl)); (case hp => exact (Reps.one (show Kd.M (Kd.int .i64) _ _ _ 2 [.int .i64 2] from rfl) (Reps.one (show Kd.M (Kd.int .i64) _ _ _ 3 [.int .i64 3] from rfl) (Reps.none _ _)))); intro v267 w12 ho13 hb hg_ hnew_; clear hg_ hnew_; (first | rw [← Ny266.out] at ho13 | (simp only [Int.reduceToNat] at ho13; rw [← Ny266.out] at ho13)); have HO268 := zK (Kd.R_lower ho13 (below_size (zo HB))); replace HB := zst HB hb; clear hb ho13; obtain ⟨Ao14, co14, eo14⟩ := Kd.R_slice HO268.out; subst eo14) | ((with_reducible refine zC (f := 24) rfl ?_); refine zGo (some 9) Try.func24 #[.int .i64 (-1), .slice Ao14 y266.length co14] ?_; (with_reducible refine (sequiturlaw29_form.calls k (-1) _ _ y266 t269 t270 _ ?side1 ?side2 A1.out).mono ?_); (case side1 => repeat (first | exact (Kd.R_reads' HO268.out).2.2 | (with_reducible refine cA ?_ _) | (with_reducible refine cN ?_ _) | (with_reducible refine cD ?_))); (case side2 => exact (Kd.R_reads' HO268.out).2.1); rintro e w15 ⟨v271, rfl, ho0, hb⟩; refine ⟨_, rfl, ?_⟩; replace HO268 := zK (Kd.R_below (zr HO268) hb); have HO272 := zK (Kd.R_lower ho0 (below_size (zo HB))); replace HB := zst HB hb; clear hb; (try clear ho0); obtain ⟨Ao16, co16, eo16⟩ := Kd.R_slice HO272.out; subst eo16) | ((with_reducible refine gate_dst (N := 10) rfl ?_); (try (refine zG (by rfl) ?_; dsimp only)); refine Kd.N_lit k41 _ 41 ?hg (N' := 10) ?hd (xs := ([(⟨t269, t270⟩ : S41)] : List (S41))) (inner := [.int .i64 t269, .slice Ao16 t270.length co16]) (ok := (fun k_ => some k_ ≠ (.slice Ao14 y266.length co14 : Value).ownBlock)) (okp := (fun k_ => some k_ ≠ (.slice Ao14 y266.length co14 : Value).ownBlock)) ?hr ?hp (fun _ hk => hk) ((show ∀ k_, w15.heap.size ≤ k_ → (fun k_ => some k_ ≠ (.slice Ao14 y266.length co14 : Value).ownBlock) k_ from fun k_ hk => Kd.fresh' (Kd.R_lt (zr HO268)) k_ hk) _ (Nat.le_refl _)) (Below.refl _ _) (Nat.le_refl _) (by simp) ?_; (case hd => rfl); (case hg => rfl); (case hr => first | (go_simp; done) | (go_simp; rfl)); (case hp => exact (Reps.c2 (show Kd.FK k41 _ _ (⟨t269, t270⟩ : S41) [.int .i64 t269, .slice Ao16 t270.length co16] from (k41_mkF _ _ (⟨t269, t270⟩ : S41) (Kd.R_reads' (Kd.R_mono (ok' := (fun k_ => some k_ ≠ (.slice Ao14 y266.length co14 : Value).ownBlock)) (Kd.R_apart' (HO272.out) (Kd.R_typed HO268.out) (by decide)) (fun k_ hk => hk.2))).2.1 (Kd.R_F (Kd.R_mono (ok' := (fun k_ => some k_ ≠ (.slice Ao14 y266.length co14 : Value).ownBlock)) (Kd.R_apart' (HO272.out) (Kd.R_typed HO268.out) (by decide)) (fun k_ hk => hk.2))))) (Reps.none _ _))); intro v274 w17 ho18 hb hg_ hnew_; clear hg_ hnew_; (first | rw [← Ny273.out] at ho18 | (simp only [Int.reduceToNat] at ho18; rw [← Ny273.out] at ho18)); replace HO268 := zK (Kd.R_below (zr HO268) hb); have HO275 := zK (Kd.N_lower ho18 (below_size (zo HB))); replace HB := zst HB hb; clear HO272 hb ho18; obtain ⟨Ao19, co19, eo19⟩ := Kd.N_slice HO275.out; subst eo19) | ((with_reducible refine zC (f := 15) rfl ?_); refine zGo (some 11) Try.func15 #[.slice Ao19 y273.length co19, .int .i64 2] ?_; (with_reducible refine (euclid_Solve.calls k _ _ y273 2 t276 t279 true t281 _ ?side1 ?side2 A2.out).mono ?_); (case side1 => repeat (first | exact (Kd.N_reads' HO275.out).2.2 | (with_reducible refine cA ?_ _) | (with_reducible refine cN ?_ _) | (with_reducible refine cD ?_))); (case side2 => exact (Kd.N_reads' HO275.out).2.1); rintro e w20 ⟨v277, rfl, ho0, hb⟩; refine ⟨_, rfl, ?_⟩; have HO278 := zK (Kd.N_lower (Kd.N_mono (ok' := fun k_ => some k_ ≠ (.slice Ao14 y266.length co14 : Value).ownBlock ∧ some k_ ≠ (.slice Ao19 y273.length co19 : Value).ownBlock) (Kd.S_N (Kd.S_bound ho0)) (fun k_ hk_ => ⟨(Kd.fresh' (Kd.R_lt (zr HO268)) k_ hk_.2.1), (Kd.fresh' (Kd.N_lt (zn HO275)) k_ hk_.2.1)⟩)) (below_size (zo HB))); replace HO268 := zK (Kd.R_below (zr HO268) hb); replace HO275 := zK (Kd.N_elder' (zn HO275) (Kd.N_base (Kd.S_N (Kd.S_bound ho0))) hb); replace HB := zst HB hb; clear hb; (try clear ho0)) | ((with_reducible refine gate_dst (N := 1) rfl ?_); (try (refine zG (by rfl) ?_; dsimp only)); refine zBox (cs := #[.slice none 0 0, .int .i64 0]) (t := 32) ?_; intro gb282 hg w21 hbox hb; replace HO268 := zK (Kd.R_below (zr HO268) hb); replace HO275 := zK (Kd.N_below (Kd.N_elderB (zn HO275) gb282 (Nat.le_of_eq hg.symm)) hb); replace HO278 := zK (Kd.N_below (Kd.N_elderB (zn HO278) gb282 (Nat.le_of_eq hg.symm)) hb); have BK282 := zK (hbox); have GW282 := zK ((by rw [hg]; exact (below_size (zo HB)) : w.heap.size ≤ gb282)); replace HB := zst HB hb; clear hb hbox hg; obtain ⟨Ao22, co22, eo22⟩ := Kd.N_slice HO278.out; subst eo22; have hcz23_0 := zc0 BK282; have hcz23_1 := zc1 BK282; have hfz23_0 := zfz BK282 0; have hfz23_1 := zfz BK282 1) | ((with_reducible refine gate_dst (N := 16) rfl ?_); (try (refine zG (by rfl) ?_; dsimp only)); refine Kd.R_lit (Kd.int .i64) _ 2 ?hg (N := 16) ?hd (xs := ([2, 4] : List Int)) (inner := [.int .i64 2, .int .i64 4]) (ok := fun _ => True) (okp := fun _ => True) ?hr ?hp (fun _ hk => hk) trivial (Below.refl _ _) (Nat.le_refl _) (by simp) ?_; (case hd => rfl); (case hg => rfl); (case hr => first | (go_simp; done) | (go_simp; rfl)); (case hp => exact (Reps.one (show Kd.M (Kd.int .i64) _ _ _ 2 [.int .i64 2] from rfl) (Reps.one (show Kd.M (Kd.int .i64) _ _ _ 4 [.int .i64 4] from rfl) (Reps.none _ _)))); intro v284 w24 ho25 hb hg_ hnew_; clear hg_ hnew_; (first | rw [← Ny283.out] at ho25 | (simp only [Int.reduceToNat] at ho25; rw [← Ny283.out] at ho25)); replace HO275 := zK (Kd.N_elder' (by (with_reducible repeat (first | apply nA | apply nN | apply nD)); exact (Kd.N_mono (Kd.N_far (p := ⟨gb282, 1, none⟩) (Kd.N_far (p := ⟨gb282, 0, none⟩) (Kd.N_mono HO275.out (fun k_ hk => (⟨hk, hk.2⟩ : _ ∧ k_ ≠ gb282))) (fun _ hk => hk.2) (.slice Ao22 t276.length co22)) (fun _ hk => hk.2) (.int .i64 t279)) (fun _ h_ => h_.1))) (Kd.R_base ho25) hb); replace HO278 := zK (Kd.N_elder' (by (with_reducible repeat (first | apply nA | apply nN | apply nD)); exact (Kd.N_mono (Kd.N_far (p := ⟨gb282, 1, none⟩) (Kd.N_far (p := ⟨gb282, 0, none⟩) (Kd.N_mono HO278.out (fun k_ hk => (⟨hk, hk.2⟩ : _ ∧ k_ ≠ gb282))) (fun _ hk => hk.2) (.slice Ao22 t276.length co22)) (fun _ hk => hk.2) (.int .i64 t279)) (fun _ h_ => h_.1))) (Kd.R_base ho25) hb); have HO285 := zK (Kd.R_lower (Kd.R_new' ho25 (Kd.R_lt (by (with_reducible repeat (first | apply Kd.R_alloc | apply Kd.R_drewN | apply Kd.R_drew)); exact (Kd.R_mono (Kd.R_far (p := ⟨gb282, 1, none⟩) (Kd.R_far (p := ⟨gb282, 0, none⟩) (Kd.R_types HO268.out BK282.out (by decide)) (fun _ hk => hk.2) (.slice Ao22 t276.length co22)) (fun _ hk => hk.2) (.int .i64 t279)) (fun _ h_ => h_.1))))) (below_size (zo HB))); replace HO268 := zK (Kd.R_elder' (by (with_reducible repeat (first | apply Kd.R_alloc | apply Kd.R_drewN | apply Kd.R_drew)); exact (Kd.R_mono (Kd.R_far (p := ⟨gb282, 1, none⟩) (Kd.R_far (p := ⟨gb282, 0, none⟩) (Kd.R_types HO268.out BK282.out (by decide)) (fun _ hk => hk.2) (.slice Ao22 t276.length co22)) (fun _ hk => hk.2) (.int .i64 t279)) (fun _ h_ => h_.1))) (Kd.R_base ho25) hb); replace BK282 := zK (blk_below (g := gb282) (o := .cells #[.slice Ao22 t276.length co22, .int .i64 t279] 32 (0, 0)) (by refine zM ?_; refine blk_put (cs := #[.slice Ao22 t276.length co22, .int .i64 0]) ?_ 1 _ rfl; refine zM ?_; refine blk_put (cs := #[.slice none 0 0, .int .i64 0]) ?_ 0 _ rfl; refine zM ?_; exact BK282.out) hb); replace HB := zst HB hb; clear hb ho25; obtain ⟨Ao26, co26, eo26⟩ := Kd.R_slice HO285.out; subst eo26) | ((with_reducible refine zC (f := 24) rfl ?_); refine zGo (some 17) Try.func24 #[.int .i64 (-1), .slice Ao26 y283.length co26] ?_; (with_reducible refine (sequiturlaw29_form.calls k (-1) _ _ y283 t286 t287 _ ?side1 ?side2 A3.out).mono ?_); (case side1 => repeat (first | exact (Kd.R_reads' HO285.out).2.2 | (with_reducible refine cA ?_ _) | (with_reducible refine cN ?_ _) | (with_reducible refine cD ?_))); (case side2 => exact (Kd.R_reads' HO285.out).2.1); rintro e w27 ⟨v288, rfl, ho0, hb⟩; refine ⟨_, rfl, ?_⟩; replace HO268 := zK (Kd.R_below (zr HO268) hb); replace HO275 := zK (Kd.N_elder' (zn HO275) (Kd.R_base ho0) hb); replace HO278 := zK (Kd.N_elder' (zn HO278) (Kd.R_base ho0) hb); replace HO285 := zK (Kd.R_below (zr HO285) hb); have HO289 := zK (Kd.R_lower ho0 (below_size (zo HB))); replace BK282 := zbb BK282 hb; replace HB := zst HB hb; clear hb; (try clear ho0); obtain ⟨Ao28, co28, eo28⟩ := Kd.R_slice HO289.out; subst eo28) | ((with_reducible refine gate_dst (N := 18) rfl ?_); (try (refine zG (by rfl) ?_; dsimp only)); refine Kd.N_lit k41 _ 41 ?hg (N' := 18) ?hd (xs := ([(⟨t286, t287⟩ : S41)] : List (S41))) (inner := [.int .i64 t286, .slice Ao28 t287.length co28]) (ok := (fun k_ => some k_ ≠ (.slice Ao14 y266.length co14 : Value).ownBlock ∧ some k_ ≠ (.slice Ao19 y273.length co19 : Value).ownBlock ∧ some k_ ≠ (.slice Ao22 t276.length co22 : Value).ownBlock ∧ some k_ ≠ (.slice Ao26 y283.length co26 : Value).ownBlock ∧ k_ ≠ gb282)) (okp := (fun k_ => some k_ ≠ (.slice Ao14 y266.length co14 : Value).ownBlock ∧ some k_ ≠ (.slice Ao19 y273.length co19 : Value).ownBlock ∧ some k_ ≠ (.slice Ao22 t276.length co22 : Value).ownBlock ∧ some k_ ≠ (.slice Ao26 y283.length co26 : Value).ownBlock ∧ k_ ≠ gb282)) ?hr ?hp (fun _ hk => hk) ((show ∀ k_, w27.heap.size ≤ k_ → (fun k_ => some k_ ≠ (.slice Ao14 y266.length co14 : Value).ownBlock ∧ some k_ ≠ (.slice Ao19 y273.length co19 : Value).ownBlock ∧ some k_ ≠ (.slice Ao22 t276.length co22 : Value).ownBlock ∧ some k_ ≠ (.slice Ao26 y283.length co26 : Value).ownBlock ∧ k_ ≠ gb282) k_ from fun k_ hk => ⟨Kd.fresh' (Kd.R_lt (zr HO268)) k_ hk, Kd.fresh' (Kd.N_lt (zn HO275)) k_ hk, Kd.fresh' (Kd.N_lt (zn HO278)) k_ hk, Kd.fresh' (Kd.R_lt (zr HO285)) k_ hk, Kd.freshB (g := gb282) (o := .cells #[.slice Ao22 t276.length co22, .int .i64 t279] 32 (0, 0)) (zb BK282) k_ hk⟩) _ (Nat.le_refl _)) (Below.refl _ _) (Nat.le_refl _) (by simp) ?_; (case hd => rfl); (case hg => rfl); (case hr => first | (go_simp; done) | (go_simp; rfl)); (case hp => exact (Reps.c2 (show Kd.FK k41 _ _ (⟨t286, t287⟩ : S41) [.int .i64 t286, .slice Ao28 t287.length co28] from (k41_mkF _ _ (⟨t286, t287⟩ : S41) (Kd.R_reads' (Kd.R_mono (ok' := (fun k_ => some k_ ≠ (.slice Ao14 y266.length co14 : Value).ownBlock ∧ some k_ ≠ (.slice Ao19 y273.length co19 : Value).ownBlock ∧ some k_ ≠ (.slice Ao22 t276.length co22 : Value).ownBlock ∧ some k_ ≠ (.slice Ao26 y283.length co26 : Value).ownBlock ∧ k_ ≠ gb282)) (Kd.R_types (Kd.R_apart' (Kd.R_apart' (Kd.R_apart' (Kd.R_apart' (HO289.out) (Kd.R_typed HO268.out) (by decide)) (Kd.N_typed HO275.out) (by decide)) (Kd.N_typed HO278.out) (by decide)) (Kd.R_typed HO285.out) (by decide)) BK282.out (by decide)) (fun k_ hk => ⟨hk.1.1.1.1.2, ⟨hk.1.1.1.2, ⟨hk.1.1.2, ⟨hk.1.2, hk.2⟩⟩⟩⟩))).2.1 (Kd.R_F (Kd.R_mono (ok' := (fun k_ => some k_ ≠ (.slice Ao14 y266.length co14 : Value).ownBlock ∧ some k_ ≠ (.slice Ao19 y273.length co19 : Value).ownBlock ∧ some k_ ≠ (.slice Ao22 t276.length co22 : Value).ownBlock ∧ some k_ ≠ (.slice Ao26 y283.length co26 : Value).ownBlock ∧ k_ ≠ gb282)) (Kd.R_types (Kd.R_apart' (Kd.R_apart' (Kd.R_apart' (Kd.R_apart' (HO289.out) (Kd.R_typed HO268.out) (by decide)) (Kd.N_typed HO275.out) (by decide)) (Kd.N_typed HO278.out) (by decide)) (Kd.R_typed HO285.out) (by decide)) BK282.out (by decide)) (fun k_ hk => ⟨hk.1.1.1.1.2, ⟨hk.1.1.1.2, ⟨hk.1.1.2, ⟨hk.1.2, hk.2⟩⟩⟩⟩))))) (Reps.none _ _))); intro v291 w29 ho30 hb hg_ hnew_; clear hg_ hnew_; (first | rw [← Ny290.out] at ho30 | (simp only [Int.reduceToNat] at ho30; rw [← Ny290.out] at ho30)); replace HO268 := zK (Kd.R_below (zr HO268) hb); replace HO275 := zK (Kd.N_elder' (zn HO275) (Kd.N_base ho30) hb); replace HO278 := zK (Kd.N_elder' (zn HO278) (Kd.N_base ho30) hb); replace HO285 := zK (Kd.R_below (zr HO285) hb); have HO292 := zK (Kd.N_lower ho30 (below_size (zo HB))); replace BK282 := zbb BK282 hb; replace HB := zst HB hb; clear HO289 hb ho30; obtain ⟨Ao31, co31, eo31⟩ := Kd.N_slice HO292.out; subst eo31) | ((with_reducible refine zC (f := 15) rfl ?_); refine zGo (some 19) Try.func15 #[.slice Ao31 y290.length co31, .int .i64 2] ?_; (with_reducible refine (euclid_Solve.calls k _ _ y290 2 t293 t296 false t298 _ ?side1 ?side2 A4.out).mono ?_); (case side1 => repeat (first | exact (Kd.N_reads' HO292.out).2.2 | (with_reducible refine cA ?_ _) | (with_reducible refine cN ?_ _) | (with_reducible refine cD ?_))); (case side2 => exact (Kd.N_reads' HO292.out).2.1); rintro e w32 ⟨v294, rfl, ho0, hb⟩; refine ⟨_, rfl, ?_⟩; have HO295 := zK (Kd.N_lower (Kd.N_mono (ok' := fun k_ => some k_ ≠ (.slice Ao14 y266.length co14 : Value).ownBlock ∧ some k_ ≠ (.slice Ao19 y273.length co19 : Value).ownBlock ∧ some k_ ≠ (.slice Ao22 t276.length co22 : Value).ownBlock ∧ some k_ ≠ (.slice Ao26 y283.length co26 : Value).ownBlock ∧ some k_ ≠ (.slice Ao31 y290.length co31 : Value).ownBlock ∧ k_ ≠ gb282) (Kd.S_N (Kd.S_bound ho0)) (fun k_ hk_ => ⟨(Kd.fresh' (Kd.R_lt (zr HO268)) k_ hk_.2.1), (Kd.fresh' (Kd.N_lt (zn HO275)) k_ hk_.2.1), (Kd.fresh' (Kd.N_lt (zn HO278)) k_ hk_.2.1), (Kd.fresh' (Kd.R_lt (zr HO285)) k_ hk_.2.1), (Kd.fresh' (Kd.N_lt (zn HO292)) k_ hk_.2.1), (Kd.freshB (g := gb282) (o := .cells #[.slice Ao22 t276.length co22, .int .i64 t279] 32 (0, 0)) (zb BK282) k_ hk_.2.1)⟩)) (below_size (zo HB))); replace HO268 := zK (Kd.R_below (zr HO268) hb); replace HO275 := zK (Kd.N_elder' (zn HO275) (Kd.N_base (Kd.S_N (Kd.S_bound ho0))) hb); replace HO278 := zK (Kd.N_elder' (zn HO278) (Kd.N_base (Kd.S_N (Kd.S_bound ho0))) hb); replace HO285 := zK (Kd.R_below (zr HO285) hb); replace HO292 := zK (Kd.N_elder' (zn HO292) (Kd.N_base (Kd.S_N (Kd.S_bound ho0))) hb); replace BK282 := zbb BK282 hb; replace HB := zst HB hb; clear hb; (try clear ho0)) | ((with_reducible refine gate_dst (N := 4) rfl ?_); (try (refine zG (by rfl) ?_; dsimp only)); refine zBox (cs := #[.slice none 0 0, .int .i64 0]) (t := 32) ?_; intro gb299 hg w33 hbox hb; replace HO268 := zK (Kd.R_below (zr HO268) hb); replace HO275 := zK (Kd.N_below (Kd.N_elderB (zn HO275) gb299 (Nat.le_of_eq hg.symm)) hb); replace HO278 := zK (Kd.N_below (Kd.N_elderB (zn HO278) gb299 (Nat.le_of_eq hg.symm)) hb); replace HO285 := zK (Kd.R_below (zr HO285) hb); replace HO292 := zK (Kd.N_below (Kd.N_elderB (zn HO292) gb299 (Nat.le_of_eq hg.symm)) hb); replace HO295 := zK (Kd.N_below (Kd.N_elderB (zn HO295) gb299 (Nat.le_of_eq hg.symm)) hb); have BK299 := zK (hbox); have GW299 := zK ((by rw [hg]; exact (below_size (zo HB)) : w.heap.size ≤ gb299)); replace HB := zst HB hb; have NB282_299 := zn1 BK282 hg; have NB299_282 := zn2 BK282 hg; replace BK282 := zbb BK282 hb; clear hb hbox hg; obtain ⟨Ao34, co34, eo34⟩ := Kd.N_slice HO295.out; subst eo34; have hnb35 := NB299_282.out; have hnc35 := NB282_299.out; have hcz36_0 := zc0 BK299; have hcz36_1 := zc1 BK299; have hfz36_0 := zfz BK299 0; have hfz36_1 := zfz BK299 1; have hcz37_0 := zc0 BK282; have hcz37_1 := zc1 BK282; have hfz37_0 := zfz BK282 0; have hfz37_1 := zfz BK282 1) | ((with_reducible refine gate_dst (N := 42) rfl ?_); (try (refine zG (by rfl) ?_; dsimp only)); refine Kd.R_lit (Kd.int .i64) _ 2 ?hg (N := 42) ?hd (xs := ([2, 4] : List Int)) (inner := [.int .i64 2, .int .i64 4]) (ok := fun _ => True) (okp := fun _ => True) ?hr ?hp (fun _ hk => hk) trivial (Below.refl _ _) (Nat.le_refl _) (by simp) ?_; (case hd => rfl); (case hg => rfl); (case hr => first | (go_simp; done) | (go_simp; rfl)); (case hp => exact (Reps.one (show Kd.M (Kd.int .i64) _ _ _ 2 [.int .i64 2] from rfl) (Reps.one (show Kd.M (Kd.int .i64) _ _ _ 4 [.int .i64 4] from rfl) (Reps.none _ _)))); intro v301 w38 ho39 hb hg_ hnew_; clear hg_ hnew_; (first | rw [← Ny300.out] at ho39 | (simp only [Int.reduceToNat] at ho39; rw [← Ny300.out] at ho39)); replace HO275 := zK (Kd.N_elder' (by (with_reducible repeat (first | apply nA | apply nN | apply nD)); exact (Kd.N_mono (Kd.N_far (p := ⟨gb299, 1, none⟩) (Kd.N_far (p := ⟨gb299, 0, none⟩) (Kd.N_mono HO275.out (fun k_ hk => (⟨hk, hk.2⟩ : _ ∧ k_ ≠ gb299))) (fun _ hk => hk.2) (.slice Ao34 t293.length co34)) (fun _ hk => hk.2) (.int .i64 t296)) (fun _ h_ => h_.1))) (Kd.R_base ho39) hb); replace HO278 := zK (Kd.N_elder' (by (with_reducible repeat (first | apply nA | apply nN | apply nD)); exact (Kd.N_mono (Kd.N_far (p := ⟨gb299, 1, none⟩) (Kd.N_far (p := ⟨gb299, 0, none⟩) (Kd.N_mono HO278.out (fun k_ hk => (⟨hk, hk.2⟩ : _ ∧ k_ ≠ gb299))) (fun _ hk => hk.2) (.slice Ao34 t293.length co34)) (fun _ hk => hk.2) (.int .i64 t296)) (fun _ h_ => h_.1))) (Kd.R_base ho39) hb); replace HO292 := zK (Kd.N_elder' (by (with_reducible repeat (first | apply nA | apply nN | apply nD)); exact (Kd.N_mono (Kd.N_far (p := ⟨gb299, 1, none⟩) (Kd.N_far (p := ⟨gb299, 0, none⟩) (Kd.N_mono HO292.out (fun k_ hk => (⟨hk, hk.2⟩ : _ ∧ k_ ≠ gb299))) (fun _ hk => hk.2) (.slice Ao34 t293.length co34)) (fun _ hk => hk.2) (.int .i64 t296)) (fun _ h_ => h_.1))) (Kd.R_base ho39) hb); replace HO295 := zK (Kd.N_elder' (by (with_reducible repeat (first | apply nA | apply nN | apply nD)); exact (Kd.N_mono (Kd.N_far (p := ⟨gb299, 1, none⟩) (Kd.N_far (p := ⟨gb299, 0, none⟩) (Kd.N_mono HO295.out (fun k_ hk => (⟨hk, hk.2⟩ : _ ∧ k_ ≠ gb299))) (fun _ hk => hk.2) (.slice Ao34 t293.length co34)) (fun _ hk => hk.2) (.int .i64 t296)) (fun _ h_ => h_.1))) (Kd.R_base ho39) hb); have HO302 := zK (Kd.R_lower (Kd.R_new' (Kd.R_new' ho39 (Kd.R_lt (by (with_reducible repeat (first | apply Kd.R_alloc | apply Kd.R_drewN | apply Kd.R_drew)); exact (Kd.R_mono (Kd.R_far (p := ⟨gb299, 1, none⟩) (Kd.R_far (p := ⟨gb299, 0, none⟩) (Kd.R_types HO268.out BK299.out (by decide)) (fun _ hk => hk.2) (.slice Ao34 t293.length co34)) (fun _ hk => hk.2) (.int .i64 t296)) (fun _ h_ => h_.1))))) (Kd.R_lt (by (with_reducible repeat (first | apply Kd.R_alloc | apply Kd.R_drewN | apply Kd.R_drew)); exact (Kd.R_mono (Kd.R_far (p := ⟨gb299, 1, none⟩) (Kd.R_far (p := ⟨gb299, 0, none⟩) (Kd.R_types HO285.out BK299.out (by decide)) (fun _ hk => hk.2) (.slice Ao34 t293.length co34)) (fun _ hk => hk.2) (.int .i64 t296)) (fun _ h_ => h_.1))))) (below_size (zo HB))); replace HO268 := zK (Kd.R_elder' (by (with_reducible repeat (first | apply Kd.R_alloc | apply Kd.R_drewN | apply Kd.R_drew)); exact (Kd.R_mono (Kd.R_far (p := ⟨gb299, 1, none⟩) (Kd.R_far (p := ⟨gb299, 0, none⟩) (Kd.R_types HO268.out BK299.out (by decide)) (fun _ hk => hk.2) (.slice Ao34 t293.length co34)) (fun _ hk => hk.2) (.int .i64 t296)) (fun _ h_ => h_.1))) (Kd.R_base ho39) hb); replace HO285 := zK (Kd.R_elder' (by (with_reducible repeat (first | apply Kd.R_alloc | apply Kd.R_drewN | apply Kd.R_drew)); exact (Kd.R_mono (Kd.R_far (p := ⟨gb299, 1, none⟩) (Kd.R_far (p := ⟨gb299, 0, none⟩) (Kd.R_types HO285.out BK299.out (by decide)) (fun _ hk => hk.2) (.slice Ao34 t293.length co34)) (fun _ hk => hk.2) (.int .i64 t296)) (fun _ h_ => h_.1))) (Kd.R_base ho39) hb); replace BK282 := zbb BK282 hb; replace BK299 := zK (blk_below (g := gb299) (o := .cells #[.slice Ao34 t293.length co34, .int .i64 t296] 32 (0, 0)) (by refine zM ?_; refine blk_put (cs := #[.slice Ao34 t293.length co34, .int .i64 0]) ?_ 1 _ rfl; refine zM ?_; refine blk_put (cs := #[.slice none 0 0, .int .i64 0]) ?_ 0 _ rfl; refine zM ?_; exact BK299.out) hb); replace HB := zst HB hb; clear hb ho39; obtain ⟨Ao40, co40, eo40⟩ := Kd.R_slice HO302.out; subst eo40) | (go_at_call 24; (with_reducible refine (sequiturlaw29_form.calls k (-1) _ _ y300 t303 t304 _ ?side1 ?side2 A10.out).mono ?_); (case side1 => repeat (first | exact (Kd.R_reads' HO302.out).2.2 | (with_reducible refine cA ?_ _) | (with_reducible refine cN ?_ _) | (with_reducible refine cD ?_))); (case side2 => exact (Kd.R_reads' HO302.out).2.1); rintro e w41 ⟨v305, rfl, ho0, hb⟩; replace HO268 := zK (Kd.R_below (zr HO268) hb); replace HO275 := zK (Kd.N_elder' (zn HO275) (Kd.R_base ho0) hb); replace HO278 := zK (Kd.N_elder' (zn HO278) (Kd.R_base ho0) hb); replace HO285 := zK (Kd.R_below (zr HO285) hb); replace HO292 := zK (Kd.N_elder' (zn HO292) (Kd.R_base ho0) hb); replace HO295 := zK (Kd.N_elder' (zn HO295) (Kd.R_base ho0) hb); replace HO302 := zK (Kd.R_below (zr HO302) hb); have HO306 := zK (Kd.R_lower ho0 (below_size (zo HB))); replace BK282 := zbb BK282 hb; replace BK299 := zbb BK299 hb; replace HB := zst HB hb; (try clear hb); (try clear hb2); (try clear hk); (try clear hi); (try clear ho0); obtain ⟨Ao42, co42, eo42⟩ := Kd.R_slice HO306.out; subst eo42) | ((with_reducible refine gate_dst (N := 44) rfl ?_); (try (refine zG (by rfl) ?_; dsimp only)); refine Kd.N_lit k41 _ 41 ?hg (N' := 44) ?hd (xs := ([(⟨t303, t304⟩ : S41)] : List (S41))) (inner := [.int .i64 t303, .slice Ao42 t304.length co42]) (ok := (fun k_ => some k_ ≠ (.slice Ao14 y266.length co14 : Value).ownBlock ∧ some k_ ≠ (.slice Ao19 y273.length co19 : Value).ownBlock ∧ some k_ ≠ (.slice Ao22 t276.length co22 : Value).ownBlock ∧ some k_ ≠ (.slice Ao26 y283.length co26 : Value).ownBlock ∧ some k_ ≠ (.slice Ao31 y290.length co31 : Value).ownBlock ∧ some k_ ≠ (.slice Ao34 t293.length co34 : Value).ownBlock ∧ some k_ ≠ (.slice Ao40 y300.length co40 : Value).ownBlock ∧ k_ ≠ gb282 ∧ k_ ≠ gb299)) (okp := (fun k_ => some k_ ≠ (.slice Ao14 y266.length co14 : Value).ownBlock ∧ some k_ ≠ (.slice Ao19 y273.length co19 : Value).ownBlock ∧ some k_ ≠ (.slice Ao22 t276.length co22 : Value).ownBlock ∧ some k_ ≠ (.slice Ao26 y283.length co26 : Value).ownBlock ∧ some k_ ≠ (.slice Ao31 y290.length co31 : Value).ownBlock ∧ some k_ ≠ (.slice Ao34 t293.length co34 : Value).ownBlock ∧ some k_ ≠ (.slice Ao40 y300.length co40 : Value).ownBlock ∧ k_ ≠ gb282 ∧ k_ ≠ gb299)) ?hr ?hp (fun _ hk => hk) ((show ∀ k_, w41.heap.size ≤ k_ → (fun k_ => some k_ ≠ (.slice Ao14 y266.length co14 : Value).ownBlock ∧ some k_ ≠ (.slice Ao19 y273.length co19 : Value).ownBlock ∧ some k_ ≠ (.slice Ao22 t276.length co22 : Value).ownBlock ∧ some k_ ≠ (.slice Ao26 y283.length co26 : Value).ownBlock ∧ some k_ ≠ (.slice Ao31 y290.length co31 : Value).ownBlock ∧ some k_ ≠ (.slice Ao34 t293.length co34 : Value).ownBlock ∧ some k_ ≠ (.slice Ao40 y300.length co40 : Value).ownBlock ∧ k_ ≠ gb282 ∧ k_ ≠ gb299) k_ from fun k_ hk => ⟨Kd.fresh' (Kd.R_lt (zr HO268)) k_ hk, Kd.fresh' (Kd.N_lt (zn HO275)) k_ hk, Kd.fresh' (Kd.N_lt (zn HO278)) k_ hk, Kd.fresh' (Kd.R_lt (zr HO285)) k_ hk, Kd.fresh' (Kd.N_lt (zn HO292)) k_ hk, Kd.fresh' (Kd.N_lt (zn HO295)) k_ hk, Kd.fresh' (Kd.R_lt (zr HO302)) k_ hk, Kd.freshB (g := gb282) (o := .cells #[.slice Ao22 t276.length co22, .int .i64 t279] 32 (0, 0)) (zb BK282) k_ hk, Kd.freshB (g := gb299) (o := .cells #[.slice Ao34 t293.length co34, .int .i64 t296] 32 (0, 0)) (zb BK299) k_ hk⟩) _ (Nat.le_refl _)) (Below.refl _ _) (Nat.le_refl _) (by simp) ?_; (case hd => rfl); (case hg => rfl); (case hr => first | (go_simp; done) | (go_simp; rfl)); (case hp => exact (Reps.c2 (show Kd.FK k41 _ _ (⟨t303, t304⟩ : S41) [.int .i64 t303, .slice Ao42 t304.length co42] from (k41_mkF _ _ (⟨t303, t304⟩ : S41) (Kd.R_reads' (Kd.R_mono (ok' := (fun k_ => some k_ ≠ (.slice Ao14 y266.length co14 : Value).ownBlock ∧ some k_ ≠ (.slice Ao19 y273.length co19 : Value).ownBlock ∧ some k_ ≠ (.slice Ao22 t276.length co22 : Value).ownBlock ∧ some k_ ≠ (.slice Ao26 y283.length co26 : Value).ownBlock ∧ some k_ ≠ (.slice Ao31 y290.length co31 : Value).ownBlock ∧ some k_ ≠ (.slice Ao34 t293.length co34 : Value).ownBlock ∧ some k_ ≠ (.slice Ao40 y300.length co40 : Value).ownBlock ∧ k_ ≠ gb282 ∧ k_ ≠ gb299)) (Kd.R_types (Kd.R_types (Kd.R_apart' (Kd.R_apart' (Kd.R_apart' (Kd.R_apart' (Kd.R_apart' (Kd.R_apart' (Kd.R_apart' (HO306.out) (Kd.R_typed HO268.out) (by decide)) (Kd.N_typed HO275.out) (by decide)) (Kd.N_typed HO278.out) (by decide)) (Kd.R_typed HO285.out) (by decide)) (Kd.N_typed HO292.out) (by decide)) (Kd.N_typed HO295.out) (by decide)) (Kd.R_typed HO302.out) (by decide)) BK282.out (by decide)) BK299.out (by decide)) (fun k_ hk => ⟨hk.1.1.1.1.1.1.1.1.2, ⟨hk.1.1.1.1.1.1.1.2, ⟨hk.1.1.1.1.1.1.2, ⟨hk.1.1.1.1.1.2, ⟨hk.1.1.1.1.2, ⟨hk.1.1.1.2, ⟨hk.1.1.2, ⟨hk.1.2, hk.2⟩⟩⟩⟩⟩⟩⟩⟩))).2.1 (Kd.R_F (Kd.R_mono (ok' := (fun k_ => some k_ ≠ (.slice Ao14 y266.length co14 : Value).ownBlock ∧ some k_ ≠ (.slice Ao19 y273.length co19 : Value).ownBlock ∧ some k_ ≠ (.slice Ao22 t276.length co22 : Value).ownBlock ∧ some k_ ≠ (.slice Ao26 y283.length co26 : Value).ownBlock ∧ some k_ ≠ (.slice Ao31 y290.length co31 : Value).ownBlock ∧ some k_ ≠ (.slice Ao34 t293.length co34 : Value).ownBlock ∧ some k_ ≠ (.slice Ao40 y300.length co40 : Value).ownBlock ∧ k_ ≠ gb282 ∧ k_ ≠ gb299)) (Kd.R_types (Kd.R_types (Kd.R_apart' (Kd.R_apart' (Kd.R_apart' (Kd.R_apart' (Kd.R_apart' (Kd.R_apart' (Kd.R_apart' (HO306.out) (Kd.R_typed HO268.out) (by decide)) (Kd.N_typed HO275.out) (by decide)) (Kd.N_typed HO278.out) (by decide)) (Kd.R_typed HO285.out) (by decide)) (Kd.N_typed HO292.out) (by decide)) (Kd.N_typed HO295.out) (by decide)) (Kd.R_typed HO302.out) (by decide)) BK282.out (by decide)) BK299.out (by decide)) (fun k_ hk => ⟨hk.1.1.1.1.1.1.1.1.2, ⟨hk.1.1.1.1.1.1.1.2, ⟨hk.1.1.1.1.1.1.2, ⟨hk.1.1.1.1.1.2, ⟨hk.1.1.1.1.2, ⟨hk.1.1.1.2, ⟨hk.1.1.2, ⟨hk.1.2, hk.2⟩⟩⟩⟩⟩⟩⟩⟩))))) (Reps.none _ _))); intro v308 w43 ho44 hb hg_ hnew_; clear hg_ hnew_; (first | rw [← Ny307.out] at ho44 | (simp only [Int.reduceToNat] at ho44; rw [← Ny307.out] at ho44)); replace HO268 := zK (Kd.R_below (zr HO268) hb); replace HO275 := zK (Kd.N_elder' (zn HO275) (Kd.N_base ho44) hb); replace HO278 := zK (Kd.N_elder' (zn HO278) (Kd.N_base ho44) hb); replace HO285 := zK (Kd.R_below (zr HO285) hb); replace HO292 := zK (Kd.N_elder' (zn HO292) (Kd.N_base ho44) hb); replace HO295 := zK (Kd.N_elder' (zn HO295) (Kd.N_base ho44) hb); replace HO302 := zK (Kd.R_below (zr HO302) hb); have HO309 := zK (Kd.N_lower ho44 (below_size (zo HB))); replace BK282 := zbb BK282 hb; replace BK299 := zbb BK299 hb; replace HB := zst HB hb; clear HO306 hb ho44) | ((with_reducible refine gate_dst (N := 45) rfl ?_); (try (refine zG (by rfl) ?_; dsimp only)); refine Kd.R_lit (Kd.int .i64) _ 2 ?hg (N := 45) ?hd (xs := ([1] : List Int)) (inner := [.int .i64 1]) (ok := fun _ => True) (okp := fun _ => True) ?hr ?hp (fun _ hk => hk) trivial (Below.refl _ _) (Nat.le_refl _) (by simp) ?_; (case hd => rfl); (case hg => rfl); (case hr => first | (go_simp; done) | (go_simp; rfl)); (case hp => exact (Reps.one (show Kd.M (Kd.int .i64) _ _ _ 1 [.int .i64 1] from rfl) (Reps.none _ _))); intro v311 w45 ho46 hb hg_ hnew_; clear hg_ hnew_; (first | rw [← Ny310.out] at ho46 | (simp only [Int.reduceToNat] at ho46; rw [← Ny310.out] at ho46)); replace HO275 := zK (Kd.N_elder' (zn HO275) (Kd.R_base ho46) hb); replace HO278 := zK (Kd.N_elder' (zn HO278) (Kd.R_base ho46) hb); replace HO292 := zK (Kd.N_elder' (zn HO292) (Kd.R_base ho46) hb); replace HO295 := zK (Kd.N_elder' (zn HO295) (Kd.R_base ho46) hb); replace HO309 := zK (Kd.N_elder' (zn HO309) (Kd.R_base ho46) hb); have HO312 := zK (Kd.R_lower (Kd.R_new' (Kd.R_new' (Kd.R_new' ho46 (Kd.R_lt (zr HO268))) (Kd.R_lt (zr HO285))) (Kd.R_lt (zr HO302))) (below_size (zo HB))); replace HO268 := zK (Kd.R_elder' (zr HO268) (Kd.R_base ho46) hb); replace HO285 := zK (Kd.R_elder' (zr HO285) (Kd.R_base ho46) hb); replace HO302 := zK (Kd.R_elder' (zr HO302) (Kd.R_base ho46) hb); replace BK282 := zbb BK282 hb; replace BK299 := zbb BK299 hb; replace HB := zst HB hb; clear hb ho46; obtain ⟨Ao47, co47, eo47⟩ := Kd.N_slice HO309.out; subst eo47; obtain ⟨Ao48, co48, eo48⟩ := Kd.R_slice HO312.out; subst eo48) | (go_at_call 11; (with_reducible refine (euclid_Check.calls k _ _ y307 _ _ y310 2 t313 _ ?side1 ?side2 ?side3 ?side4 A11.out).mono ?_); (case side1 => repeat (first | exact (Kd.N_reads' HO309.out).2.2 | (with_reducible refine cA ?_ _) | (with_reducible refine cN ?_ _) | (with_reducible refine cD ?_))); (case side2 => exact (Kd.N_reads' HO309.out).2.1); (case side3 => repeat (first | exact (Kd.R_reads' HO312.out).2.2 | (with_reducible refine cA ?_ _) | (with_reducible refine cN ?_ _) | (with_reducible refine cD ?_))); (case side4 => exact (Kd.R_reads' HO312.out).2.1); rintro e w49 ⟨rfl, hb⟩; replace HO268 := zK (Kd.R_below (zr HO268) hb); replace HO275 := zK (Kd.N_below (zn HO275) hb); replace HO278 := zK (Kd.N_below (zn HO278) hb); replace HO285 := zK (Kd.R_below (zr HO285) hb); replace HO292 := zK (Kd.N_below (zn HO292) hb); replace HO295 := zK (Kd.N_below (zn HO295) hb); replace HO302 := zK (Kd.R_below (zr HO302) hb); replace HO309 := zK (Kd.N_below (zn HO309) hb); replace HO312 := zK (Kd.R_below (zr HO312) hb); replace BK282 := zbb BK282 hb; replace BK299 := zbb BK299 hb; replace HB := zst HB hb; (try clear hb); (try clear hb2); (try clear hk); (try clear hi)))
      go_ret
      exact zR (h := zo HB)
     ·rw [if_neg c9] at H
      exact absurd H (by simp)
   ·rw [if_neg c7] at H
    exact absurd H (by simp)
  ·rw [if_neg c6] at H
   exact absurd H (by simp)
 ·replace c5 := Bool.eq_false_iff.mpr c5
  subst c5
  have H1 : (none) = some r := by rw [if_neg (show ¬ (false = true) by decide)] at H; exact H
  clear H; have H := H1; clear H1
  exact absurd H (by simp)

/-! ### euclid_Witness: function 20 -/
def euclid_Witness.f (k : Nat) (l0 : List (S41)) (a1 : Int) : Option (List Int × Int × Bool × Int) := (euclid_run.f k l0 a1).bind fun bt314 => (if bt314.2.2.2.2.2 = 0 then (if bt314.2.2.1 = true then (some (([] : List Int), 0, false, bt314.2.2.2.2.2)) else (some (bt314.2.2.2.1, bt314.2.2.2.2.1, true, 0))) else (some (([] : List Int), 0, false, bt314.2.2.2.2.2)))
theorem euclid_Witness.mono : ∀ a0 a1 k, LeO (euclid_Witness.f k a0 a1) (euclid_Witness.f (k + 1) a0 a1) := by
 intro a0 a1 k
 unfold euclid_Witness.f
 repeat' first | (with_reducible first | exact euclid_run.mono .. | exact LeO.refl _ | exact LeO.none _ | refine LeO.ite ?_ ?_ | refine LeO.bind ?_ (fun _ => ?_)) | exact euclid_run.mono .. | exact LeO.none _ | refine LeO.ite ?_ ?_ | refine LeO.bind ?_ (fun _ => ?_)
theorem euclid_Witness.calls (k : Nat) (A0 : Option Addr) (c0 : Nat) (l0 : List (S41)) (a1 : Int) (r1 : List Int) (r2 : Int) (r3 : Bool) (r4 : Int) (w : World) (hr0 : Kd.C k41 w A0 l0.length l0) (hc0 : l0.length ≤ c0) (h : euclid_Witness.f k l0 a1 = some (r1, r2, r3, r4)) :
  Calls Try.prog 20 #[.slice A0 l0.length c0, .int .i64 a1] w fun e w' => ∃ v0_ : Value, e = .returned (.tuple #[v0_, .int .i64 r2, .bool r3, .int .i64 r4]) ∧ Kd.R (Kd.int .i64) 2 w' w.heap.size (fun _ => True) v0_ r1 ∧ Below w.heap.size w w' := by
 have hu32 := Try.underlying32
 have HR0 := zK hr0
 have HC0 := zK hc0; clear hr0 hc0
 have HB := zK (Below.refl w.heap.size w)
 have H : ((euclid_run.f k l0 a1).bind fun bt314 => (if bt314.2.2.2.2.2 = 0 then (if bt314.2.2.1 = true then (some (([] : List Int), 0, false, bt314.2.2.2.2.2)) else (some (bt314.2.2.2.1, bt314.2.2.2.2.1, true, 0))) else (some (([] : List Int), 0, false, bt314.2.2.2.2.2)))) = some (r1, r2, r3, r4) := h
 clear h; replace H := zob H
 obtain ⟨⟨t314, t317, t318, t319, t322, t323⟩, A30, H⟩ := H
 replace H : (if t323 = 0 then (if t318 = true then (some (([] : List Int), 0, false, t323)) else (some (t319, t322, true, 0))) else (some (([] : List Int), 0, false, t323))) = some (r1, r2, r3, r4) := H
 have A3 := zK A30; clear A30
 by_cases c4 : t323 = 0
 ·rw [if_pos c4] at H
  have c4b0 : (t323 == 0) = true := beq_iff_eq.mpr c4
  have c4b1 : (t323 != 0) = false := bne_eq_false_iff_eq.mpr c4; clear c4
  by_cases c5 : t318 = true
  ·subst c5
   have H1 : (some (([] : List Int), 0, false, t323)) = some (r1, r2, r3, r4) := by rw [if_pos rfl] at H; exact H
   clear H; have H := H1; clear H1
   simp only [Option.some.injEq, Prod.mk.injEq] at H
   obtain ⟨rfl, rfl, rfl, rfl⟩ := H
   go_enter Try.func20, Try.ntmps20
   go_wp2_with (first | ((with_reducible refine zC (f := 28) rfl ?_); refine zGo (some 16) Try.func28 #[.slice A0 l0.length c0, .int .i64 a1] ?_; (with_reducible refine (euclid_run.calls k _ _ l0 a1 t314 t317 true t319 t322 t323 _ ?side1 ?side2 A3.out).mono ?_); (case side1 => repeat (first | exact HR0.out | (with_reducible refine cA ?_ _) | (with_reducible refine cN ?_ _) | (with_reducible refine cD ?_))); (case side2 => exact HC0.out); rintro e w6 ⟨v315, v320, rfl, ho0, ho1, hb⟩; refine ⟨_, rfl, ?_⟩; have HO316 := zK (Kd.S_lower ho0 (below_size (zo HB))); have HO321 := zK (Kd.R_lower ho1 (below_size (zo HB))); replace HB := zst HB hb; clear hb; (try clear ho0); (try clear ho1)) | ((with_reducible refine gate_dst (N := 8) rfl ?_); refine zBox (cs := #[.slice none 0 0, .int .i64 0]) (t := 32) ?_; intro gb324 hg w7 hbox hb; replace HO316 := zK (Kd.S_below (by (with_reducible repeat (first | apply Kd.S_alloc | apply Kd.S_drewN | apply Kd.S_drew)); exact HO316.out) hb); replace HO321 := zK (Kd.R_below (zr HO321) hb); have BK324 := zK (hbox); have GW324 := zK ((by rw [hg]; exact (below_size (zo HB)) : w.heap.size ≤ gb324)); replace HB := zst HB hb; clear hb hbox hg; obtain ⟨Ao8, co8, eo8⟩ := Kd.S_slice HO316.out; subst eo8; have hcz9_0 := zc0 BK324; have hcz9_1 := zc1 BK324; have hfz9_0 := zfz BK324 0; have hfz9_1 := zfz BK324 1))
   refine bodyPost_ret (results_list (rs := [.tmp 4, .tmp 5, .tmp 6, .tmp 7]) rfl (by simp) (.tmp (.tmp (.tmp (.tmp .nil))))) rfl ?_
   exact ⟨_, zR (h := zL (h := zo HB))⟩
  ·replace c5 := Bool.eq_false_iff.mpr c5
   subst c5
   have H1 : (some (t319, t322, true, 0)) = some (r1, r2, r3, r4) := by rw [if_neg (show ¬ (false = true) by decide)] at H; exact H
   clear H; have H := H1; clear H1
   simp only [Option.some.injEq, Prod.mk.injEq] at H
   obtain ⟨rfl, rfl, rfl, rfl⟩ := H
   go_enter Try.func20, Try.ntmps20
   go_wp2_with (first | ((with_reducible refine zC (f := 28) rfl ?_); refine zGo (some 16) Try.func28 #[.slice A0 l0.length c0, .int .i64 a1] ?_; (with_reducible refine (euclid_run.calls k _ _ l0 a1 t314 t317 false t319 t322 t323 _ ?side1 ?side2 A3.out).mono ?_); (case side1 => repeat (first | exact HR0.out | (with_reducible refine cA ?_ _) | (with_reducible refine cN ?_ _) | (with_reducible refine cD ?_))); (case side2 => exact HC0.out); rintro e w10 ⟨v315, v320, rfl, ho0, ho1, hb⟩; refine ⟨_, rfl, ?_⟩; have HO316 := zK (Kd.S_lower ho0 (below_size (zo HB))); have HO321 := zK (Kd.R_lower ho1 (below_size (zo HB))); replace HB := zst HB hb; clear hb; (try clear ho0); (try clear ho1)) | ((with_reducible refine gate_dst (N := 8) rfl ?_); refine zBox (cs := #[.slice none 0 0, .int .i64 0]) (t := 32) ?_; intro gb324 hg w11 hbox hb; replace HO316 := zK (Kd.S_below (by (with_reducible repeat (first | apply Kd.S_alloc | apply Kd.S_drewN | apply Kd.S_drew)); exact HO316.out) hb); replace HO321 := zK (Kd.R_below (zr HO321) hb); have BK324 := zK (hbox); have GW324 := zK ((by rw [hg]; exact (below_size (zo HB)) : w.heap.size ≤ gb324)); replace HB := zst HB hb; clear hb hbox hg; obtain ⟨Ao12, co12, eo12⟩ := Kd.S_slice HO316.out; subst eo12; have hcz13_0 := zc0 BK324; have hcz13_1 := zc1 BK324; have hfz13_0 := zfz BK324 0; have hfz13_1 := zfz BK324 1))
   refine bodyPost_ret (results_list (rs := [.tmp 4, .tmp 5, .tmp 6, .tmp 7]) rfl (by simp) (.tmp (.tmp (.tmp (.tmp .nil))))) rfl ?_
   exact ⟨_, by first | rfl | (simp [errW_none, errW_some] <;> rfl) | (simp [*, errW_none, errW_some] <;> rfl), by (with_reducible repeat (first | apply Kd.R_alloc | apply Kd.R_drewN | apply Kd.R_drew)); exact Kd.R_mono (Kd.R_far (p := ⟨gb324, 1, none⟩) (Kd.R_far (p := ⟨gb324, 0, none⟩) (Kd.R_types HO321.out BK324.out (by decide)) (fun _ hk => hk.2) (.slice Ao12 t314.length co12)) (fun _ hk => hk.2) (.int .i64 t317)) (fun _ hk => trivial), zo HB⟩
 ·rw [if_neg c4] at H
  have c4b0 : (t323 == 0) = false := beq_eq_false_iff_ne.mpr c4
  have c4b1 : (t323 != 0) = true := bne_iff_ne.mpr c4
  simp only [Option.some.injEq, Prod.mk.injEq] at H
  obtain ⟨rfl, rfl, rfl, rfl⟩ := H
  go_enter Try.func20, Try.ntmps20
  go_wp2_with (first | ((with_reducible refine zC (f := 28) rfl ?_); refine zGo (some 16) Try.func28 #[.slice A0 l0.length c0, .int .i64 a1] ?_; (with_reducible refine (euclid_run.calls k _ _ l0 a1 t314 t317 t318 t319 t322 t323 _ ?side1 ?side2 A3.out).mono ?_); (case side1 => repeat (first | exact HR0.out | (with_reducible refine cA ?_ _) | (with_reducible refine cN ?_ _) | (with_reducible refine cD ?_))); (case side2 => exact HC0.out); rintro e w14 ⟨v315, v320, rfl, ho0, ho1, hb⟩; refine ⟨_, rfl, ?_⟩; have HO316 := zK (Kd.S_lower ho0 (below_size (zo HB))); have HO321 := zK (Kd.R_lower ho1 (below_size (zo HB))); replace HB := zst HB hb; clear hb; (try clear ho0); (try clear ho1)) | ((with_reducible refine gate_dst (N := 8) rfl ?_); refine zBox (cs := #[.slice none 0 0, .int .i64 0]) (t := 32) ?_; intro gb324 hg w15 hbox hb; replace HO316 := zK (Kd.S_below (by (with_reducible repeat (first | apply Kd.S_alloc | apply Kd.S_drewN | apply Kd.S_drew)); exact HO316.out) hb); replace HO321 := zK (Kd.R_below (zr HO321) hb); have BK324 := zK (hbox); have GW324 := zK ((by rw [hg]; exact (below_size (zo HB)) : w.heap.size ≤ gb324)); replace HB := zst HB hb; clear hb hbox hg; obtain ⟨Ao16, co16, eo16⟩ := Kd.S_slice HO316.out; subst eo16; have hcz17_0 := zc0 BK324; have hcz17_1 := zc1 BK324; have hfz17_0 := zfz BK324 0; have hfz17_1 := zfz BK324 1))
  refine bodyPost_ret (results_list (rs := [.tmp 4, .tmp 5, .tmp 6, .tmp 7]) rfl (by simp) (.tmp (.tmp (.tmp (.tmp .nil))))) rfl ?_
  exact ⟨_, zR (h := zL (h := zo HB))⟩

/-! ### sequiturlaw29_EuclidNone: function 6 -/
mutual
def sequiturlaw29_EuclidNone.j0 : Nat → List (S41) → Int → List Int → Int → Bool → Option (Bool)
 | 0, _, _, _, _, _ => none
 | k + 1, x0, x1, x2, x3, x23 => if x23 = true then ((sequiturlaw29_alive.f k).bind fun t326 => (some t326)) else ((euclid_Solve.f k x0 x1).bind fun bt327 => (if bt327.2.2.2 = 0 then ((euclid_Witness.f k x0 x1).bind fun bt335 => (if bt335.2.2.2 = 0 then (if (bt335.2.2.1 == bt327.2.2.1) = true then (sequiturlaw29_EuclidNone.j1 k x0 x2 x3 bt327.2.2.1 true) else (if bt335.2.2.1 = true then ((euclid_Check.f k x0 bt335.1 bt335.2.1).bind fun t341 => (sequiturlaw29_EuclidNone.j1 k x0 x2 x3 bt327.2.2.1 (t341 != 0))) else (sequiturlaw29_EuclidNone.j1 k x0 x2 x3 bt327.2.2.1 false))) else (sequiturlaw29_EuclidNone.j1 k x0 x2 x3 bt327.2.2.1 true))) else ((sequiturlaw29_alive.f k).bind fun t334 => (some t334))))
def sequiturlaw29_EuclidNone.j1 : Nat → List (S41) → List Int → Int → Bool → Bool → Option (Bool)
 | 0, _, _, _, _, _ => none
 | k + 1, x0, x2, x3, x10, x59 => if x59 = true then (none) else (if x10 = true then ((euclid_Check.f k x0 x2 x3).bind fun t342 => (if t342 = 0 then (none) else ((sequiturlaw29_alive.f k).bind fun t343 => (some t343)))) else ((sequiturlaw29_alive.f k).bind fun t344 => (some t344)))
end
def sequiturlaw29_EuclidNone.f (k : Nat) (l0 : List (S41)) (a1 : Int) (l2 : List Int) (a3 : Int) : Option (Bool) := (sequiturlaw29_few.f k l0).bind fun t325 => (if t325 = true then (sequiturlaw29_EuclidNone.j0 k l0 a1 l2 a3 (decide ((l2.length : Int) > 100))) else (sequiturlaw29_EuclidNone.j0 k l0 a1 l2 a3 true))
theorem sequiturlaw29_EuclidNone.mono_l : ∀ k, (∀ y0 y1 y2 y3 y4, LeO (sequiturlaw29_EuclidNone.j0 k y0 y1 y2 y3 y4) (sequiturlaw29_EuclidNone.j0 (k + 1) y0 y1 y2 y3 y4)) ∧ (∀ y0 y1 y2 y3 y4, LeO (sequiturlaw29_EuclidNone.j1 k y0 y1 y2 y3 y4) (sequiturlaw29_EuclidNone.j1 (k + 1) y0 y1 y2 y3 y4))
 | 0 => ⟨fun _ _ _ _ _ r h => by simp [sequiturlaw29_EuclidNone.j0] at h, fun _ _ _ _ _ r h => by simp [sequiturlaw29_EuclidNone.j1] at h⟩
 | k + 1 => by
  obtain ⟨ih0, ih1⟩ := sequiturlaw29_EuclidNone.mono_l k
  refine ⟨?_, ?_⟩ <;> intros <;> first | unfold sequiturlaw29_EuclidNone.j0 | unfold sequiturlaw29_EuclidNone.j1
  all_goals repeat' first | (with_reducible first | exact ih0 .. | exact ih1 .. | exact euclid_Check.mono .. | exact euclid_Solve.mono .. | exact euclid_Witness.mono .. | exact sequiturlaw29_alive.mono .. | exact sequiturlaw29_few.mono .. | exact LeO.refl _ | exact LeO.none _ | refine LeO.ite ?_ ?_ | refine LeO.bind ?_ (fun _ => ?_)) | exact ih0 .. | exact ih1 .. | exact euclid_Check.mono .. | exact euclid_Solve.mono .. | exact euclid_Witness.mono .. | exact sequiturlaw29_alive.mono .. | exact sequiturlaw29_few.mono .. | exact LeO.none _ | refine LeO.ite ?_ ?_ | refine LeO.bind ?_ (fun _ => ?_)
theorem sequiturlaw29_EuclidNone.mono : ∀ a0 a1 a2 a3 k, LeO (sequiturlaw29_EuclidNone.f k a0 a1 a2 a3) (sequiturlaw29_EuclidNone.f (k + 1) a0 a1 a2 a3) := by
 intro a0 a1 a2 a3 k
 obtain ⟨ih0, ih1⟩ := sequiturlaw29_EuclidNone.mono_l k
 unfold sequiturlaw29_EuclidNone.f
 repeat' first | (with_reducible first | exact ih0 .. | exact ih1 .. | exact euclid_Check.mono .. | exact euclid_Solve.mono .. | exact euclid_Witness.mono .. | exact sequiturlaw29_alive.mono .. | exact sequiturlaw29_few.mono .. | exact LeO.refl _ | exact LeO.none _ | refine LeO.ite ?_ ?_ | refine LeO.bind ?_ (fun _ => ?_)) | exact ih0 .. | exact ih1 .. | exact euclid_Check.mono .. | exact euclid_Solve.mono .. | exact euclid_Witness.mono .. | exact sequiturlaw29_alive.mono .. | exact sequiturlaw29_few.mono .. | exact LeO.none _ | refine LeO.ite ?_ ?_ | refine LeO.bind ?_ (fun _ => ?_)
theorem sequiturlaw29_EuclidNone.calls (k : Nat) (A0 : Option Addr) (c0 : Nat) (l0 : List (S41)) (a1 : Int) (A2 : Option Addr) (c2 : Nat) (l2 : List Int) (a3 : Int) (r : Bool) (w : World) (hr0 : Kd.C k41 w A0 l0.length l0) (hc0 : l0.length ≤ c0) (hr2 : Kd.C (Kd.int .i64) w A2 l2.length l2) (hc2 : l2.length ≤ c2) (h : sequiturlaw29_EuclidNone.f k l0 a1 l2 a3 = some r) :
  Calls Try.prog 6 #[.slice A0 l0.length c0, .int .i64 a1, .slice A2 l2.length c2, .int .i64 a3] w fun e w' => e = .returned (.bool r) ∧ Below w.heap.size w w' := by
 have hu32 := Try.underlying32
 have HR0 := zK hr0
 have HC0 := zK hc0; clear hr0 hc0
 have HR2 := zK hr2
 have HC2 := zK hc2; clear hr2 hc2
 have HB := zK (Below.refl w.heap.size w)
 have H : ((sequiturlaw29_few.f k l0).bind fun t325 => (if t325 = true then (sequiturlaw29_EuclidNone.j0 k l0 a1 l2 a3 (decide ((l2.length : Int) > 100))) else (sequiturlaw29_EuclidNone.j0 k l0 a1 l2 a3 true))) = some r := h
 clear h
 have HC5 := zK H; clear H
 go_enter Try.func6, Try.ntmps6
 go_upto_region 1 with (fail)
 go_cut [23] (fun v23 wc => ∃ (kq : Nat) (x23_4 : Bool), v23 = .bool x23_4 ∧ Aside0 (sequiturlaw29_EuclidNone.j0 kq l0 a1 l2 a3 x23_4 = some r) ∧ Aside0 (kq ≤ k) ∧ Aside0 (Below w.heap.size w wc))
 case first =>
  have H := HC5.out; clear HC5; replace H := zob H
  obtain ⟨t325, A60, H⟩ := H
  replace H : (if t325 = true then (sequiturlaw29_EuclidNone.j0 k l0 a1 l2 a3 (decide ((l2.length : Int) > 100))) else (sequiturlaw29_EuclidNone.j0 k l0 a1 l2 a3 true)) = some r := H
  have A6 := zK A60; clear A60
  by_cases c7 : t325 = true
  ·subst c7
   have H1 : (sequiturlaw29_EuclidNone.j0 k l0 a1 l2 a3 (decide ((l2.length : Int) > 100))) = some r := by rw [if_pos rfl] at H; exact H
   clear H; have H := H1; clear H1
   have H' := zK H; clear H
   go_wp2_with (first | ((with_reducible refine zC (f := 9) rfl ?_); refine zGo (some 17) Try.func9 #[.slice A0 l0.length c0] ?_; (with_reducible refine (sequiturlaw29_few.calls k _ _ l0 true _ ?side1 ?side2 A6.out).mono ?_); (case side1 => repeat (first | exact (Kd.C_below HR0.out HB.out) | (with_reducible refine cA ?_ _) | (with_reducible refine cN ?_ _) | (with_reducible refine cD ?_))); (case side2 => exact HC0.out); rintro e w8 ⟨rfl, hb⟩; refine ⟨_, rfl, ?_⟩; replace HB := zst HB hb; clear hb))
   go_meet
   case rel => exact ⟨_, (decide ((l2.length : Int) > 100)), (by first | rfl | (simp; done) | (simp [*]; done)), H', ⟨by first | omega | exact Nat.le_refl _⟩, ⟨zo HB⟩⟩
  ·replace c7 := Bool.eq_false_iff.mpr c7
   subst c7
   have H1 : (sequiturlaw29_EuclidNone.j0 k l0 a1 l2 a3 true) = some r := by rw [if_neg (show ¬ (false = true) by decide)] at H; exact H
   clear H; have H := H1; clear H1
   have H' := zK H; clear H
   go_wp2_with (first | ((with_reducible refine zC (f := 9) rfl ?_); refine zGo (some 17) Try.func9 #[.slice A0 l0.length c0] ?_; (with_reducible refine (sequiturlaw29_few.calls k _ _ l0 false _ ?side1 ?side2 A6.out).mono ?_); (case side1 => repeat (first | exact (Kd.C_below HR0.out HB.out) | (with_reducible refine cA ?_ _) | (with_reducible refine cN ?_ _) | (with_reducible refine cD ?_))); (case side2 => exact HC0.out); rintro e w9 ⟨rfl, hb⟩; refine ⟨_, rfl, ?_⟩; replace HB := zst HB hb; clear hb))
   go_meet
   case rel => exact ⟨_, (true), (by first | rfl | (simp; done) | (simp [*]; done)), H', ⟨by first | omega | exact Nat.le_refl _⟩, ⟨zo HB⟩⟩
 case rest =>
  clear HC5; try clear c2; try clear p2; try clear c6; try clear c7; try clear c9
  obtain ⟨kq, x23_4, rfl, HA, HJ4, HB⟩ := hcut
  cases kq with
  | zero => exact absurd HA.out (by simp [sequiturlaw29_EuclidNone.j0])
  | succ kj4 =>
   have H := HA.out; clear HA
   simp only [sequiturlaw29_EuclidNone.j0] at H
   by_cases c10 : x23_4 = true
   ·subst c10
    have H1 : ((sequiturlaw29_alive.f kj4).bind fun t326 => (some t326)) = some r := by rw [if_pos rfl] at H; exact H
    clear H; have H := H1
    clear H1; replace H := zob H
    obtain ⟨t326, A110, H⟩ := H; replace H : (some t326) = some r := H
    have A11 := zK A110; clear A110
    obtain rfl := Option.some.inj H
    go_wp2_with (first | ((with_reducible refine zC (f := 10) rfl ?_); refine zGo (some 24) Try.func10 #[] ?_; (with_reducible refine (sequiturlaw29_alive.calls kj4  t326 _ A11.out).mono ?_); rintro e w12 ⟨rfl, hb⟩; refine ⟨_, rfl, ?_⟩; replace HB := zst HB hb; clear hb))
    go_ret
    exact zR (h := zo HB)
   ·replace c10 := Bool.eq_false_iff.mpr c10
    subst c10
    have H1 : ((euclid_Solve.f kj4 l0 a1).bind fun bt327 => (if bt327.2.2.2 = 0 then ((euclid_Witness.f kj4 l0 a1).bind fun bt335 => (if bt335.2.2.2 = 0 then (if (bt335.2.2.1 == bt327.2.2.1) = true then (sequiturlaw29_EuclidNone.j1 kj4 l0 l2 a3 bt327.2.2.1 true) else (if bt335.2.2.1 = true then ((euclid_Check.f kj4 l0 bt335.1 bt335.2.1).bind fun t341 => (sequiturlaw29_EuclidNone.j1 kj4 l0 l2 a3 bt327.2.2.1 (t341 != 0))) else (sequiturlaw29_EuclidNone.j1 kj4 l0 l2 a3 bt327.2.2.1 false))) else (sequiturlaw29_EuclidNone.j1 kj4 l0 l2 a3 bt327.2.2.1 true))) else ((sequiturlaw29_alive.f kj4).bind fun t334 => (some t334)))) = some r := by rw [if_neg (show ¬ (false = true) by decide)] at H; exact H
    clear H; have H := H1
    clear H1; replace H := zob H
    obtain ⟨⟨t327, t330, t331, t332⟩, A130, H⟩ := H
    replace H : (if t332 = 0 then ((euclid_Witness.f kj4 l0 a1).bind fun bt335 => (if bt335.2.2.2 = 0 then (if (bt335.2.2.1 == t331) = true then (sequiturlaw29_EuclidNone.j1 kj4 l0 l2 a3 t331 true) else (if bt335.2.2.1 = true then ((euclid_Check.f kj4 l0 bt335.1 bt335.2.1).bind fun t341 => (sequiturlaw29_EuclidNone.j1 kj4 l0 l2 a3 t331 (t341 != 0))) else (sequiturlaw29_EuclidNone.j1 kj4 l0 l2 a3 t331 false))) else (sequiturlaw29_EuclidNone.j1 kj4 l0 l2 a3 t331 true))) else ((sequiturlaw29_alive.f kj4).bind fun t334 => (some t334))) = some r := H
    have A13 := zK A130; clear A130
    by_cases c14 : t332 = 0
    ·rw [if_pos c14] at H
     have c14b0 : (t332 == 0) = true := beq_iff_eq.mpr c14
     have c14b1 : (t332 != 0) = false := bne_eq_false_iff_eq.mpr c14; clear c14
     replace H := zob H
     obtain ⟨⟨t335, t336, t337, t338⟩, A150, H⟩ := H
     replace H : (if t338 = 0 then (if (t337 == t331) = true then (sequiturlaw29_EuclidNone.j1 kj4 l0 l2 a3 t331 true) else (if t337 = true then ((euclid_Check.f kj4 l0 t335 t336).bind fun t341 => (sequiturlaw29_EuclidNone.j1 kj4 l0 l2 a3 t331 (t341 != 0))) else (sequiturlaw29_EuclidNone.j1 kj4 l0 l2 a3 t331 false))) else (sequiturlaw29_EuclidNone.j1 kj4 l0 l2 a3 t331 true)) = some r := H
     have A15 := zK A150; clear A150
     have HC16 := zK H; clear H
     go_upto_region 7 with (first | ((with_reducible refine zC (f := 15) rfl ?_); refine zGo (some 28) Try.func15 #[.slice A0 l0.length c0, .int .i64 a1] ?_; (with_reducible refine (euclid_Solve.calls kj4 _ _ l0 a1 t327 t330 t331 t332 _ ?side1 ?side2 A13.out).mono ?_); (case side1 => repeat (first | exact (Kd.C_below HR0.out HB.out) | (with_reducible refine cA ?_ _) | (with_reducible refine cN ?_ _) | (with_reducible refine cD ?_))); (case side2 => exact HC0.out); rintro e w17 ⟨v328, rfl, ho0, hb⟩; refine ⟨_, rfl, ?_⟩; have HO329 := zK (Kd.S_lower ho0 (below_size (zo HB))); replace HB := zst HB hb; clear hb; (try clear ho0)) | ((with_reducible refine gate_dst (N := 9) rfl ?_); (try (refine zG (by rfl) ?_; dsimp only)); refine zBox (cs := #[.slice none 0 0, .int .i64 0]) (t := 32) ?_; intro gb333 hg w18 hbox hb; replace HO329 := zK (Kd.S_below (by (with_reducible repeat (first | apply Kd.S_alloc | apply Kd.S_drewN | apply Kd.S_drew)); exact HO329.out) hb); have BK333 := zK (hbox); have GW333 := zK ((by rw [hg]; exact (below_size (zo HB)) : w.heap.size ≤ gb333)); replace HB := zst HB hb; clear hb hbox hg; obtain ⟨Ao19, co19, eo19⟩ := Kd.S_slice HO329.out; subst eo19; have hcz20_0 := zc0 BK333; have hcz20_1 := zc1 BK333; have hfz20_0 := zfz BK333 0; have hfz20_1 := zfz BK333 1) | ((with_reducible refine zC (f := 20) rfl ?_); refine zGo (some 38) Try.func20 #[.slice A0 l0.length c0, .int .i64 a1] ?_; (with_reducible refine (euclid_Witness.calls kj4 _ _ l0 a1 t335 t336 t337 t338 _ ?side1 ?side2 A15.out).mono ?_); (case side1 => exact Kd.C_below HR0.out (zo HB)); (case side2 => exact HC0.out); rintro e w21 ⟨v339, rfl, ho0, hb⟩; refine ⟨_, rfl, ?_⟩; replace HO329 := zK (Kd.S_below (by (with_reducible repeat (first | apply Kd.S_alloc | apply Kd.S_drewN | apply Kd.S_drew)); exact (Kd.S_mono (Kd.S_far (p := ⟨gb333, 1, none⟩) (Kd.S_far (p := ⟨gb333, 0, none⟩) (Kd.S_types HO329.out BK333.out (by decide)) (fun _ hk => hk.2) (.slice Ao19 t327.length co19)) (fun _ hk => hk.2) (.int .i64 t330)) (fun _ h_ => h_.1))) hb); have HO340 := zK (Kd.R_lower ho0 (below_size (zo HB))); replace BK333 := zK (blk_below (g := gb333) (o := .cells #[.slice Ao19 t327.length co19, .int .i64 t330] 32 (0, 0)) (by refine zM ?_; refine blk_put (cs := #[.slice Ao19 t327.length co19, .int .i64 0]) ?_ 1 _ rfl; refine zM ?_; refine blk_put (cs := #[.slice none 0 0, .int .i64 0]) ?_ 0 _ rfl; refine zM ?_; exact BK333.out) hb); replace HB := zst HB hb; clear hb; (try clear hk); (try clear ho0)))
     (try simp only [Act.put, List.setIfInBounds_toArray, List.set_cons_zero, List.set_cons_succ])
     go_cut [59] (fun v59 wc => ∃ (kq : Nat) (x59_15 : Bool), v59 = .bool x59_15 ∧ Aside0 (sequiturlaw29_EuclidNone.j1 kq l0 l2 a3 t331 x59_15 = some r) ∧ Aside0 (kq ≤ kj4) ∧ Aside0 (Kd.S k41 41 wc w.heap.size (fun _ => True) (.slice Ao19 t327.length co19) t327) ∧ Aside0 (wc.heap[gb333]? = some (.cells #[(.slice Ao19 t327.length co19), .int .i64 t330] 32 (0, 0))) ∧ Aside0 (Below w.heap.size w wc))
     case first =>
      have H := HC16.out; clear HC16
      by_cases c22 : t338 = 0
      ·rw [if_pos c22] at H
       have c22b0 : (t338 == 0) = true := beq_iff_eq.mpr c22
       have c22b1 : (t338 != 0) = false := bne_eq_false_iff_eq.mpr c22; clear c22
       (first | rw [c22b0] | (simp only [i64_w, i32_w]; rw [c22b0]) | skip)
       by_cases c23 : (t337 == t331) = true
       ·rw [if_pos c23] at H
        have c23b0 : (t337 == t331) = true := c23
        (try (have c23b1 : decide (t337 = t331) = true := by simpa using c23))
        (try (have c23b2 : (t337 == t331) = true := by simpa using c23))
        clear c23
        have H' := zK H; clear H
        go_wp2
        go_meet
        case rel => exact ⟨_, (true), (by first | rfl | (simp; done) | (simp [*]; done)), H', ⟨by have := HJ4.out; first | omega | exact Nat.le_refl _⟩, ⟨by (with_reducible repeat (first | apply Kd.S_alloc | apply Kd.S_drewN | apply Kd.S_drew)); exact HO329.out⟩, ⟨zb BK333⟩, ⟨zo HB⟩⟩
       ·rw [if_neg c23] at H
        have c23b0 : (t337 == t331) = false := by simpa using c23
        (try (have c23b1 : decide (t337 = t331) = false := by simpa using c23))
        (try (have c23b2 : (t337 == t331) = false := by simpa using c23))
        (try (have c23b3 : ¬ (t337 = t331) := by simpa using c23))
        clear c23
        by_cases c24 : t337 = true
        ·subst c24
         have H1 : ((euclid_Check.f kj4 l0 t335 t336).bind fun t341 => (sequiturlaw29_EuclidNone.j1 kj4 l0 l2 a3 t331 (t341 != 0))) = some r := by rw [if_pos rfl] at H; exact H
         clear H; have H := H1
         clear H1; replace H := zob H
         obtain ⟨t341, A250, H⟩ := H
         replace H : (sequiturlaw29_EuclidNone.j1 kj4 l0 l2 a3 t331 (t341 != 0)) = some r := H
         have A25 := zK A250; clear A250
         have H' := zK H; clear H
         obtain ⟨Ao26, co26, eo26⟩ := Kd.R_slice HO340.out
         subst eo26
         go_wp2_with (first | (go_at_call 11; (with_reducible refine (euclid_Check.calls kj4 _ _ l0 _ _ t335 t336 t341 _ ?side1 ?side2 ?side3 ?side4 A25.out).mono ?_); (case side1 => repeat (first | exact (Kd.C_below HR0.out HB.out) | (with_reducible refine cA ?_ _) | (with_reducible refine cN ?_ _) | (with_reducible refine cD ?_))); (case side2 => exact HC0.out); (case side3 => repeat (first | exact (Kd.R_reads' HO340.out).2.2 | (with_reducible refine cA ?_ _) | (with_reducible refine cN ?_ _) | (with_reducible refine cD ?_))); (case side4 => exact (Kd.R_reads' HO340.out).2.1); rintro e w27 ⟨rfl, hb⟩; replace HO329 := zK (Kd.S_below (by (with_reducible repeat (first | apply Kd.S_alloc | apply Kd.S_drewN | apply Kd.S_drew)); exact HO329.out) hb); replace HO340 := zK (Kd.R_below (zr HO340) hb); replace BK333 := zbb BK333 hb; replace HB := zst HB hb; (try clear hb); (try clear hb2); (try clear hk); (try clear hi)))
         go_meet
         case rel => exact ⟨_, ((t341 != 0)), (by first | rfl | (simp; done) | (simp [*]; done)), H', ⟨by have := HJ4.out; first | omega | exact Nat.le_refl _⟩, ⟨by (with_reducible repeat (first | apply Kd.S_alloc | apply Kd.S_drewN | apply Kd.S_drew)); exact HO329.out⟩, ⟨zb BK333⟩, ⟨zo HB⟩⟩
        ·replace c24 := Bool.eq_false_iff.mpr c24
         subst c24
         have H1 : (sequiturlaw29_EuclidNone.j1 kj4 l0 l2 a3 t331 false) = some r := by rw [if_neg (show ¬ (false = true) by decide)] at H; exact H
         clear H; have H := H1; clear H1
         have H' := zK H; clear H
         go_wp2
         go_meet
         case rel => exact ⟨_, (false), (by first | rfl | (simp; done) | (simp [*]; done)), H', ⟨by have := HJ4.out; first | omega | exact Nat.le_refl _⟩, ⟨by (with_reducible repeat (first | apply Kd.S_alloc | apply Kd.S_drewN | apply Kd.S_drew)); exact HO329.out⟩, ⟨zb BK333⟩, ⟨zo HB⟩⟩
      ·rw [if_neg c22] at H
       have c22b0 : (t338 == 0) = false := beq_eq_false_iff_ne.mpr c22
       have c22b1 : (t338 != 0) = true := bne_iff_ne.mpr c22
       (first | rw [c22b0] | (simp only [i64_w, i32_w]; rw [c22b0]) | skip)
       have H' := zK H; clear H
       go_wp2
       go_meet
       case rel => exact ⟨_, (true), (by first | rfl | (simp; done) | (simp [*]; done)), H', ⟨by have := HJ4.out; first | omega | exact Nat.le_refl _⟩, ⟨by (with_reducible repeat (first | apply Kd.S_alloc | apply Kd.S_drewN | apply Kd.S_drew)); exact HO329.out⟩, ⟨zb BK333⟩, ⟨zo HB⟩⟩
     case rest =>
      clear HC16; try clear c1; try clear c2; try clear p2
      try clear c6; try clear c7; try clear c9; try clear c10
      try clear c14; try clear c14b0; try clear c14b1; try clear c15
      try clear c20; try clear c22; try clear c22b0; try clear c22b1
      try clear c23; try clear c23b0; try clear c23b1; try clear c23b2
      try clear c24; try clear hcz20_0; try clear hcz20_1; try clear hfz20_0; try clear hfz20_1; try clear p2
      obtain ⟨kq, x59_15, rfl, HA, HJ15, HO_334000, BK333, HB⟩ := hcut
      cases kq with
      | zero => exact absurd HA.out (by simp [sequiturlaw29_EuclidNone.j1])
      | succ kj15 =>
       have H := HA.out; clear HA
       simp only [sequiturlaw29_EuclidNone.j1] at H
       by_cases c28 : x59_15 = true
       ·subst c28
        have H1 : (none) = some r := by rw [if_pos rfl] at H; exact H
        clear H
        have H := H1; clear H1
        exact absurd H (by simp)
       ·replace c28 := Bool.eq_false_iff.mpr c28
        subst c28
        have H1 : (if t331 = true then ((euclid_Check.f kj15 l0 l2 a3).bind fun t342 => (if t342 = 0 then (none) else ((sequiturlaw29_alive.f kj15).bind fun t343 => (some t343)))) else ((sequiturlaw29_alive.f kj15).bind fun t344 => (some t344))) = some r := by rw [if_neg (show ¬ (false = true) by decide)] at H; exact H
        clear H; have H := H1; clear H1
        by_cases c29 : t331 = true
        ·subst c29
         have H1 : ((euclid_Check.f kj15 l0 l2 a3).bind fun t342 => (if t342 = 0 then (none) else ((sequiturlaw29_alive.f kj15).bind fun t343 => (some t343)))) = some r := by rw [if_pos rfl] at H; exact H
         clear H; have H := H1
         clear H1; replace H := zob H
         obtain ⟨t342, A300, H⟩ := H
         replace H : (if t342 = 0 then (none) else ((sequiturlaw29_alive.f kj15).bind fun t343 => (some t343))) = some r := H
         have A30 := zK A300; clear A300
         by_cases c31 : t342 = 0
         ·rw [if_pos c31] at H
          exact absurd H (by simp)
         ·rw [if_neg c31] at H
          have c31b0 : (t342 == 0) = false := beq_eq_false_iff_ne.mpr c31
          have c31b1 : (t342 != 0) = true := bne_iff_ne.mpr c31; replace H := zob H
          obtain ⟨t343, A320, H⟩ := H; replace H : (some t343) = some r := H
          have A32 := zK A320; clear A320
          obtain rfl := Option.some.inj H
          go_wp2_with (first | (go_at_call 11; (with_reducible refine (euclid_Check.calls kj15 _ _ l0 _ _ l2 a3 t342 _ ?side1 ?side2 ?side3 ?side4 A30.out).mono ?_); (case side1 => repeat (first | exact (Kd.C_below HR0.out HB.out) | (with_reducible refine cA ?_ _) | (with_reducible refine cN ?_ _) | (with_reducible refine cD ?_))); (case side2 => exact HC0.out); (case side3 => repeat (first | exact (Kd.C_below HR2.out HB.out) | (with_reducible refine cA ?_ _) | (with_reducible refine cN ?_ _) | (with_reducible refine cD ?_))); (case side4 => exact HC2.out); rintro e w33 ⟨rfl, hb⟩; replace HO_334000 := zK (Kd.S_below (by (with_reducible repeat (first | apply Kd.S_alloc | apply Kd.S_drewN | apply Kd.S_drew)); exact HO_334000.out) hb); replace BK333 := zbb BK333 hb; replace HB := zst HB hb; (try clear hb); (try clear hb2); (try clear hk); (try clear hi)) | (go_at_call 10; (with_reducible refine (sequiturlaw29_alive.calls kj15  t343 _ A32.out).mono ?_); rintro e w34 ⟨rfl, hb⟩; replace HO_334000 := zK (Kd.S_below (by (with_reducible repeat (first | apply Kd.S_alloc | apply Kd.S_drewN | apply Kd.S_drew)); exact HO_334000.out) hb); replace BK333 := zbb BK333 hb; replace HB := zst HB hb; (try clear hb); (try clear hb2); (try clear hk); (try clear hi)))
          go_ret
          exact zR (h := zo HB)
        ·replace c29 := Bool.eq_false_iff.mpr c29
         subst c29
         have H1 : ((sequiturlaw29_alive.f kj15).bind fun t344 => (some t344)) = some r := by rw [if_neg (show ¬ (false = true) by decide)] at H; exact H
         clear H; have H := H1
         clear H1; replace H := zob H
         obtain ⟨t344, A350, H⟩ := H; replace H : (some t344) = some r := H
         have A35 := zK A350; clear A350
         obtain rfl := Option.some.inj H
         go_wp2_with (first | (go_at_call 10; (with_reducible refine (sequiturlaw29_alive.calls kj15  t344 _ A35.out).mono ?_); rintro e w36 ⟨rfl, hb⟩; replace HO_334000 := zK (Kd.S_below (by (with_reducible repeat (first | apply Kd.S_alloc | apply Kd.S_drewN | apply Kd.S_drew)); exact HO_334000.out) hb); replace BK333 := zbb BK333 hb; replace HB := zst HB hb; (try clear hb); (try clear hb2); (try clear hk); (try clear hi)))
         go_ret
         exact zR (h := zo HB)
    ·rw [if_neg c14] at H
     have c14b0 : (t332 == 0) = false := beq_eq_false_iff_ne.mpr c14
     have c14b1 : (t332 != 0) = true := bne_iff_ne.mpr c14; replace H := zob H
     obtain ⟨t334, A370, H⟩ := H; replace H : (some t334) = some r := H
     have A37 := zK A370; clear A370
     obtain rfl := Option.some.inj H
     go_wp2_with (first | ((with_reducible refine zC (f := 15) rfl ?_); refine zGo (some 28) Try.func15 #[.slice A0 l0.length c0, .int .i64 a1] ?_; (with_reducible refine (euclid_Solve.calls kj4 _ _ l0 a1 t327 t330 t331 t332 _ ?side1 ?side2 A13.out).mono ?_); (case side1 => repeat (first | exact (Kd.C_below HR0.out HB.out) | (with_reducible refine cA ?_ _) | (with_reducible refine cN ?_ _) | (with_reducible refine cD ?_))); (case side2 => exact HC0.out); rintro e w38 ⟨v328, rfl, ho0, hb⟩; refine ⟨_, rfl, ?_⟩; have HO329 := zK (Kd.S_lower ho0 (below_size (zo HB))); replace HB := zst HB hb; clear hb; (try clear ho0)) | ((with_reducible refine gate_dst (N := 9) rfl ?_); (try (refine zG (by rfl) ?_; dsimp only)); refine zBox (cs := #[.slice none 0 0, .int .i64 0]) (t := 32) ?_; intro gb333 hg w39 hbox hb; replace HO329 := zK (Kd.S_below (by (with_reducible repeat (first | apply Kd.S_alloc | apply Kd.S_drewN | apply Kd.S_drew)); exact HO329.out) hb); have BK333 := zK (hbox); have GW333 := zK ((by rw [hg]; exact (below_size (zo HB)) : w.heap.size ≤ gb333)); replace HB := zst HB hb; clear hb hbox hg; obtain ⟨Ao40, co40, eo40⟩ := Kd.S_slice HO329.out; subst eo40; have hcz41_0 := zc0 BK333; have hcz41_1 := zc1 BK333; have hfz41_0 := zfz BK333 0; have hfz41_1 := zfz BK333 1) | ((with_reducible refine zC (f := 10) rfl ?_); refine zGo (some 34) Try.func10 #[] ?_; (with_reducible refine (sequiturlaw29_alive.calls kj4  t334 _ A37.out).mono ?_); rintro e w42 ⟨rfl, hb⟩; refine ⟨_, rfl, ?_⟩; replace HO329 := zK (Kd.S_below (by (with_reducible repeat (first | apply Kd.S_alloc | apply Kd.S_drewN | apply Kd.S_drew)); exact (Kd.S_mono (Kd.S_far (p := ⟨gb333, 1, none⟩) (Kd.S_far (p := ⟨gb333, 0, none⟩) (Kd.S_types HO329.out BK333.out (by decide)) (fun _ hk => hk.2) (.slice Ao40 t327.length co40)) (fun _ hk => hk.2) (.int .i64 t330)) (fun _ h_ => h_.1))) hb); replace BK333 := zK (blk_below (g := gb333) (o := .cells #[.slice Ao40 t327.length co40, .int .i64 t330] 32 (0, 0)) (by refine zM ?_; refine blk_put (cs := #[.slice Ao40 t327.length co40, .int .i64 0]) ?_ 1 _ rfl; refine zM ?_; refine blk_put (cs := #[.slice none 0 0, .int .i64 0]) ?_ 0 _ rfl; refine zM ?_; exact BK333.out) hb); replace HB := zst HB hb; clear hb; (try clear hk)))
     go_ret
     exact zR (h := zo HB)

end Go.Proofs.Ytjinmlpekecmbaa.PEuclidNone
