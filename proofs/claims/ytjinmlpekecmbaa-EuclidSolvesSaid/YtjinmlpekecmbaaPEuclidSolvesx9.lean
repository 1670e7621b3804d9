/- What the call of each function that the law reaches comes to, and the law out of its plain form; no condition but what stands in each theorem. -/
import Derived.Test.YtjinmlpekecmbaaEu5
import Derived.Test.YtjinmlpekecmbaaPEuclidSolvesx0
import Derived.Test.YtjinmlpekecmbaaPEuclidSolvesx1
import Derived.Test.YtjinmlpekecmbaaPEuclidSolvesx2
import Derived.Test.YtjinmlpekecmbaaPEuclidSolvesx3
namespace Go.Proofs.Ytjinmlpekecmbaa.PEuclidSolves
open Go.RowKit Go.Proofs.YtjinmlpekecmbaaW.PrintWords Go.Proofs.YtjinmlpekecmbaaW.PrintLast Go.Proofs.YtjinmlpekecmbaaW.PrintMore
open Go.Proofs.YtjinmlpekecmbaaW.PrintWords renaming blk_drewN → zN, blk_drew → zD, blk_alloc → zA, below_alloc → yA, pw_below_drewN → yN, below_drew1 → yD, below_set → yS, gate_callee → zC, gate_guard → zG
open Go.Proofs.YtjinmlpekecmbaaW.PrintWords.Kd renaming N_alloc → nA, N_drewN → nN, N_drew → nD, C_alloc → cA, C_drewN → cN, C_drew → cD
open Go.Proofs.YtjinmlpekecmbaaW.PrintWords.Aside0 renaming mk → zK
attribute [local go_sem] max2_int min2_int max_two min_two max_three min_three max_four min_four
set_option linter.unusedVariables false
set_option maxHeartbeats 8000000
set_option maxRecDepth 100000
set_option linter.unusedSimpArgs false

/-! ### euclid_run: function 28, by hand -/
-- EURUN: told by hand in the texts ..Eu*

/-! ### euclid_Solve: function 15 -/
def euclid_Solve.f (k : Nat) (l0 : List (S41)) (a1 : Int) : Option ((List (S41)) × Int × Bool × Int) := (euclid_run.f k l0 a1).bind fun bt249 => (some (bt249.1, bt249.2.1, bt249.2.2.1, bt249.2.2.2.2.2))
theorem euclid_Solve.mono : ∀ a0 a1 k, LeO (euclid_Solve.f k a0 a1) (euclid_Solve.f (k + 1) a0 a1) := by
 intro a0 a1 k
 unfold euclid_Solve.f
 repeat' first | (with_reducible first | exact euclid_run.mono .. | exact LeO.refl _ | exact LeO.none _ | refine LeO.ite ?_ ?_ | refine LeO.bind ?_ (fun _ => ?_)) | exact euclid_run.mono .. | exact LeO.none _ | refine LeO.ite ?_ ?_ | refine LeO.bind ?_ (fun _ => ?_)
theorem euclid_Solve.calls (k : Nat) (A0 : Option Addr) (c0 : Nat) (l0 : List (S41)) (a1 : Int) (r1 : List (S41)) (r2 : Int) (r3 : Bool) (r4 : Int) (w : World) (hr0 : Kd.C k41 w A0 l0.length l0) (hc0 : l0.length ≤ c0) (h : euclid_Solve.f k l0 a1 = some (r1, r2, r3, r4)) :
  Calls Try.prog 15 #[.slice A0 l0.length c0, .int .i64 a1] w fun e w' => ∃ v0_ : Value, e = .returned (.tuple #[.agg #[v0_, .int .i64 r2], .bool r3, .int .i64 r4]) ∧ Kd.S k41 41 w' w.heap.size (fun _ => True) v0_ r1 ∧ Below w.heap.size w w' := by
 have hu32 := Try.underlying32
 have HR0 := zK hr0
 have HC0 := zK hc0; clear hr0 hc0
 have HB := zK (Below.refl w.heap.size w)
 have H : ((euclid_run.f k l0 a1).bind fun bt249 => (some (bt249.1, bt249.2.1, bt249.2.2.1, bt249.2.2.2.2.2))) = some (r1, r2, r3, r4) := h
 clear h; replace H := zob H
 obtain ⟨⟨t249, t252, t253, t254, t257, t258⟩, A30, H⟩ := H
 replace H : (some (t249, t252, t253, t258)) = some (r1, r2, r3, r4) := H
 have A3 := zK A30; clear A30
 simp only [Option.some.injEq, Prod.mk.injEq] at H
 obtain ⟨rfl, rfl, rfl, rfl⟩ := H
 go_enter Try.func15, Try.ntmps15
 go_wp2_with (first | ((with_reducible refine gate_dst (N := 4) rfl ?_); refine zBx HB (cs := #[.slice none 0 0, .int .i64 0]) (t := 32) ?_; clear HB; intro gb248 hg w4 BK248 GW248 hb HB; clear hb hg) | ((with_reducible refine zC (f := 28) rfl ?_); refine zGo (some 15) Try.func28 #[.slice A0 l0.length c0, .int .i64 a1] ?_; (with_reducible refine (euclid_run.calls k _ _ l0 a1 t249 t252 t253 t254 t257 t258 _ ?side1 ?side2 A3.out).mono ?_); (case side1 => repeat (first | exact (Kd.C_below HR0.out HB.out) | (with_reducible refine cA ?_ _) | (with_reducible refine cN ?_ _) | (with_reducible refine cD ?_))); (case side2 => exact HC0.out); rintro e w5 ⟨v250, v255, rfl, ho0, ho1, hb⟩; refine ⟨_, rfl, ?_⟩; have HO251 := zK (Kd.S_lower ho0 (below_size (zo HB))); have HO256 := zK (Kd.R_lower ho1 (below_size (zo HB))); replace BK248 := zbb BK248 hb; replace HB := zst HB hb; clear hb; (try clear ho0); (try clear ho1)) | ((with_reducible refine gate_dst (N := 7) rfl ?_); refine zBox (cs := #[.slice none 0 0, .int .i64 0]) (t := 32) ?_; intro gb259 hg w6 hbox hb; replace HO251 := zK (Kd.S_below (by (with_reducible repeat (first | apply Kd.S_alloc | apply Kd.S_drewN | apply Kd.S_drew)); exact HO251.out) hb); replace HO256 := zK (Kd.R_below (zr HO256) hb); have BK259 := zK (hbox); have GW259 := zK ((by rw [hg]; exact (below_size (zo HB)) : w.heap.size ≤ gb259)); replace HB := zst HB hb; have NB248_259 := zn1 BK248 hg; have NB259_248 := zn2 BK248 hg; replace BK248 := zbb BK248 hb; clear hb hbox hg; obtain ⟨Ao7, co7, eo7⟩ := Kd.S_slice HO251.out; subst eo7; have hnb8 := NB259_248.out; have hnc8 := NB248_259.out; have hcz9_0 := zc0 BK259; have hcz9_1 := zc1 BK259; have hfz9_0 := zfz BK259 0; have hfz9_1 := zfz BK259 1; have hcz10_0 := zc0 BK248; have hcz10_1 := zc1 BK248; have hfz10_0 := zfz BK248 0; have hfz10_1 := zfz BK248 1))
 refine bodyPost_ret (results_ctt rfl _ _ gb248 32 #[.slice Ao7 t249.length co7, .int .i64 t252] (0, 0) _ rfl (by refine zM ?_; refine blk_put (cs := #[.slice Ao7 t249.length co7, .int .i64 0]) ?_ 1 _ rfl; refine zM ?_; refine blk_put (cs := #[.slice none 0 0, .int .i64 0]) ?_ 0 _ rfl; refine zM ?_; refine blk_far ?_ NB248_259.out _; refine zM ?_; refine blk_far ?_ NB248_259.out _; refine zM ?_; exact BK248.out) Try.underlying32 rfl (by kernel_rfl)) rfl ?_
 exact ⟨_, by first | rfl | (simp [errW_none, errW_some] <;> rfl) | (simp [*, errW_none, errW_some] <;> rfl), by (with_reducible repeat (first | apply Kd.S_alloc | apply Kd.S_drewN | apply Kd.S_drew)); exact Kd.S_mono (Kd.S_far (p := ⟨gb248, 1, none⟩) (Kd.S_far (p := ⟨gb248, 0, none⟩) (Kd.S_far (p := ⟨gb259, 1, none⟩) (Kd.S_far (p := ⟨gb259, 0, none⟩) (Kd.S_types (Kd.S_types HO251.out BK259.out (by decide)) BK248.out (by decide)) (fun _ hk => hk.1.2) (.slice Ao7 t249.length co7)) (fun _ hk => hk.1.2) (.int .i64 t252)) (fun _ hk => hk.2) (.slice Ao7 t249.length co7)) (fun _ hk => hk.2) (.int .i64 t252)) (fun _ hk => trivial), zo HB⟩

/-! ### sequiturlaw29_form: function 24 -/
def sequiturlaw29_form.l0 : Nat → List Int → Int → Int → Int → List (S44) → Option (Int × (List (S44)))
 | 0, _, _, _, _, _ => none
 | k + 1, x10, x11, x12, x262000, x262001 => if x12 < x11 then (if 0 ≤ x12 then (if x12 < (x10.length : Int) then (if (rd x10 x12) = 0 then (sequiturlaw29_form.l0 k x10 x11 (wrap64 (x12 + 1)) x262000 x262001) else (if x262001.length < 8796093022208 then (sequiturlaw29_form.l0 k x10 x11 (wrap64 (x12 + 1)) x262000 (x262001 ++ [(⟨x12, rd x10 x12⟩ : S44)])) else (none))) else (none)) else (none)) else (some (x262000, x262001))
def sequiturlaw29_form.f (k : Nat) (a0 : Int) (l1 : List Int) : Option (Int × (List (S44))) := sequiturlaw29_form.l0 k l1 (l1.length : Int) 0 a0 ([] : List (S44))
theorem sequiturlaw29_form.mono_l : ∀ k, (∀ y0 y1 y2 y3 y4, LeO (sequiturlaw29_form.l0 k y0 y1 y2 y3 y4) (sequiturlaw29_form.l0 (k + 1) y0 y1 y2 y3 y4))
 | 0 => fun _ _ _ _ _ r h => by simp [sequiturlaw29_form.l0] at h
 | k + 1 => by
  have ih0 := sequiturlaw29_form.mono_l k
  ·intro y0 y1 y2 y3 y4
   unfold sequiturlaw29_form.l0
   repeat' first | (with_reducible first | exact ih0 .. | exact LeO.refl _ | exact LeO.none _ | refine LeO.ite ?_ ?_ | refine LeO.bind ?_ (fun _ => ?_)) | exact ih0 .. | exact LeO.none _ | refine LeO.ite ?_ ?_ | refine LeO.bind ?_ (fun _ => ?_)
theorem sequiturlaw29_form.mono : ∀ a0 a1 k, LeO (sequiturlaw29_form.f k a0 a1) (sequiturlaw29_form.f (k + 1) a0 a1) := by
 intro a0 a1 k
 have ih0 := sequiturlaw29_form.mono_l k
 unfold sequiturlaw29_form.f
 repeat' first | (with_reducible first | exact ih0 .. | exact LeO.refl _ | exact LeO.none _ | refine LeO.ite ?_ ?_ | refine LeO.bind ?_ (fun _ => ?_)) | exact ih0 .. | exact LeO.none _ | refine LeO.ite ?_ ?_ | refine LeO.bind ?_ (fun _ => ?_)
theorem sequiturlaw29_form.calls (k : Nat) (a0 : Int) (A1 : Option Addr) (c1 : Nat) (l1 : List Int) (r1 : Int) (r2 : List (S44)) (w : World) (hr1 : Kd.C (Kd.int .i64) w A1 l1.length l1) (hc1 : l1.length ≤ c1) (h : sequiturlaw29_form.f k a0 l1 = some (r1, r2)) :
  Calls Try.prog 24 #[.int .i64 a0, .slice A1 l1.length c1] w fun e w' => ∃ v1_ : Value, e = .returned (.agg #[.int .i64 r1, v1_]) ∧ Kd.R k44 44 w' w.heap.size (fun _ => True) v1_ r2 ∧ Below w.heap.size w w' := by
 have hu41 := Try.underlying41
 have hu44 := Try.underlying44
 have HR1 := zK hr1
 have HC1 := zK hc1; clear hr1 hc1
 have HB := zK (Below.refl w.heap.size w)
 have H : (sequiturlaw29_form.l0 k l1 (l1.length : Int) 0 a0 ([] : List (S44))) = some (r1, r2) := h
 clear h
 have H' := zK H; clear H
 go_enter Try.func24, Try.ntmps24
 go_wp2_with (first | ((with_reducible refine gate_dst (N := 4) rfl ?_); refine zBx HB (cs := #[.int .i64 0, .slice none 0 0]) (t := 41) ?_; clear HB; intro gb260 hg w3 BK260 GW260 hb HB; clear hb hg) | ((with_reducible refine gate_dst (N := 5) rfl ?_); refine zBx HB (cs := #[.int .i64 0, .slice none 0 0]) (t := 41) ?_; clear HB; intro gb261 hg w4 BK261 GW261 hb HB; have NB260_261 := zn1 BK260 hg; have NB261_260 := zn2 BK260 hg; replace BK260 := zbb BK260 hb; clear hb hg; have hnb5 := NB261_260.out; have hnc5 := NB260_261.out; have hcz6_0 := zc0 BK261; have hcz6_1 := zc1 BK261; have hfz6_0 := zfz BK261 0; have hfz6_1 := zfz BK261 1))
 go_loopg [12] k (fun kq v12 w' => ∃ (x12_1 : Int) (x262001_1 : List (S44)) (u262001 : Value), v12 = .int .i64 x12_1 ∧ Aside0 (sequiturlaw29_form.l0 kq l1 (l1.length : Int) x12_1 a0 x262001_1 = some (r1, r2)) ∧ Aside0 (kq ≤ k) ∧ Aside0 (Kd.R k44 44 w' w.heap.size (fun _ => True) u262001 x262001_1) ∧ Aside0 (w'.heap[gb260]? = some (.cells #[.int .i64 0, (.slice none 0 0)] 41 (0, 0))) ∧ Aside0 (w'.heap[gb261]? = some (.cells #[.int .i64 a0, u262001] 41 (0, 0))) ∧ Aside0 (Below w.heap.size w w'))
 case atStart => exact ⟨(0), (([] : List (S44))), (.slice none 0 0), (by first | rfl | (simp; done) | (simp [*]; done)), H', ⟨Nat.le_refl _⟩, ⟨by first | exact Kd.R_nil _ _ _ _ _ | exact Kd.N_nil _ _ _ _ _ | exact Kd.V_nil _ _ _ _ _ | exact Kd.Q_nil _ _ _ _ _ | exact Kd.S_nil _ _ _ _ _⟩, ⟨zb BK260⟩, ⟨by refine zM ?_; refine blk_put (cs := #[.int .i64 a0, .slice none 0 0]) ?_ 1 _ rfl; refine zM ?_; refine blk_put (cs := #[.int .i64 0, .slice none 0 0]) ?_ 0 _ rfl; refine zM ?_; exact BK261.out⟩, ⟨zo HB⟩⟩
 case round =>
  clear H'; try clear c1; try clear c2; try clear p2
  try clear c5; try clear hcz6_0; try clear hcz6_1; try clear hfz6_0; try clear hfz6_1
  obtain ⟨x12_1, x262001_1, u262001, rfl, HA, HK1, HO_262001, BK260, BK261, HB⟩ := hrel
  cases gk with
  | zero => exact absurd HA.out (by simp [sequiturlaw29_form.l0])
  | succ k1 =>
   have H := HA.out; clear HA
   simp only [sequiturlaw29_form.l0] at H
   by_cases c7 : x12_1 < (l1.length : Int)
   ·rw [if_pos c7] at H
    have c7b0 : decide (x12_1 < (l1.length : Int)) = true := decide_eq_true c7
    clear c7
    by_cases c8 : 0 ≤ x12_1
    ·rw [if_pos c8] at H
     have c8b0 : decide (0 ≤ x12_1) = true := decide_eq_true c8; clear c8
     by_cases c9 : x12_1 < (l1.length : Int)
     ·rw [if_pos c9] at H
      have c9b0 : decide (x12_1 < (l1.length : Int)) = true := decide_eq_true c9
      clear c9
      by_cases c10 : (rd l1 x12_1) = 0
      ·rw [if_pos c10] at H
       have c10b0 : ((rd l1 x12_1) == 0) = true := beq_iff_eq.mpr c10
       have c10b1 : ((rd l1 x12_1) != 0) = false := bne_eq_false_iff_eq.mpr c10
       clear c10
       have H' := zK H; clear H
       have p262 : 0 ≤ (x12_1 : Int) := zdt
       have q262 : x12_1 < (l1.length : Int) := zdt
       obtain ⟨ad262, e262, hx262_0⟩ := Kd.at_int HR1.out x12_1 p262 q262
       cases e262
       replace hx262_0 := zcl HB hx262_0
       replace p262 := eq_true p262
       replace q262 := eq_true q262
       go_wp2
       go_roundg k1
       case measure => have := HK1.out; omega
       case rel => exact ⟨(wrap64 (x12_1 + 1)), (x262001_1), (u262001), (by first | rfl | (simp; done) | (simp [*]; done)), H', ⟨by have := HK1.out; omega⟩, ⟨zr HO_262001⟩, ⟨zb BK260⟩, ⟨zb BK261⟩, ⟨zo HB⟩⟩
      ·rw [if_neg c10] at H
       have c10b0 : ((rd l1 x12_1) == 0) = false := beq_eq_false_iff_ne.mpr c10
       have c10b1 : ((rd l1 x12_1) != 0) = true := bne_iff_ne.mpr c10
       by_cases c11 : x262001_1.length < 8796093022208
       ·rw [if_pos c11] at H
        have LMc11 := zK c11; clear c11
        obtain ⟨y263, hy263⟩ : ∃ y_ : List (S44), y_ = (x262001_1 ++ [(⟨x12_1, rd l1 x12_1⟩ : S44)]) := ⟨_, rfl⟩
        replace H : (sequiturlaw29_form.l0 k1 l1 (l1.length : Int) (wrap64 (x12_1 + 1)) a0 y263) = some (r1, r2) := by first | (rw [hy263]; with_reducible exact H) | (have H2_ := (Option.bind_some _ _).symm.trans H; rw [hy263]; with_reducible exact H2_) | (have H2_ := (Option.bind_some _ _).symm.trans H; with_reducible exact H2_) | with_reducible exact H | (rw [hy263]; exact H) | exact H
        have Ny263 := zK hy263; clear hy263
        have H' := zK H; clear H
        have p262 : 0 ≤ (x12_1 : Int) := zdt
        have q262 : x12_1 < (l1.length : Int) := zdt
        obtain ⟨ad262, e262, hx262_0⟩ := Kd.at_int HR1.out x12_1 p262 q262
        cases e262
        replace hx262_0 := zcl HB hx262_0
        replace p262 := eq_true p262
        replace q262 := eq_true q262
        have hnb12 := NB261_260.out
        have hnc12 := NB260_261.out
        have hcz13_0 := zc0 BK261
        have hcz13_1 := zc1 BK261
        have hfz13_0 := zfz BK261 0
        have hfz13_1 := zfz BK261 1
        go_wp2_with (first | ((with_reducible refine gate_builtin (b := .append) (xs := #[.tmp 20, .tmp 24]) rfl ?_); at_builtin; refine Kd.R_append k44 (w0 := w) w.heap.size rfl (.tmp 20) (.tmp 24) 39 44 (.agg #[(.int .i64 0), (.int .i64 0)]) 16 rfl Try.underlying39 info44 rfl (by decide) (by omega) u262001 x262001_1 (⟨x12_1, rd l1 x12_1⟩ : S44) [.int .i64 x12_1, .int .i64 (rd l1 x12_1)] (fun _ => True) (fun _ => False) rfl rfl ?aP (fun _ hk => hk.elim) ?aF ?aO ?aB ?aS ?aL ?_; (case aP => exact k44_mkM _ _ _ (⟨x12_1, rd l1 x12_1⟩ : S44)); (case aB => exact (zo HB)); (case aF => exact (fun _ _ => trivial)); (case aO => exact (zr HO_262001)); (case aS => exact (below_size (zo HB))); (case aL => have := LMc11.out; omega); intro v264 w14 ho hb hg hat; rw [← Ny263.out] at ho; replace BK260 := zK (blk_grown (g := gb260) (o := .cells #[.int .i64 0, .slice none 0 0] 41 (0, 0)) (zb BK260) hg (Kd.R_ne HO_262001.out BK260.out (by decide))); replace BK261 := zK (blk_grown (g := gb261) (o := .cells #[.int .i64 a0, u262001] 41 (0, 0)) (zb BK261) hg (Kd.R_ne HO_262001.out BK261.out (by decide))); replace HB := zK (hb); have HO265 := zK (ho); clear HO_262001 ho hb hg hat; obtain ⟨Ao15, co15, eo15⟩ := Kd.R_slice HO265.out; subst eo15; have hcz16_0 := zc0 BK261; have hcz16_1 := zc1 BK261; have hfz16_0 := zfz BK261 0; have hfz16_1 := zfz BK261 1))
        go_roundg k1
        case measure => have := HK1.out; omega
        case rel => exact ⟨(wrap64 (x12_1 + 1)), (y263), (.slice Ao15 y263.length co15), (by first | rfl | (simp; done) | (simp [*]; done)), H', ⟨by have := HK1.out; omega⟩, ⟨by (with_reducible repeat (first | apply Kd.R_alloc | apply Kd.R_drewN | apply Kd.R_drew)); exact Kd.R_mono (Kd.R_far (p := ⟨gb261, 1, none⟩) (Kd.R_types HO265.out BK261.out (by decide)) (fun _ hk => hk.2) (.slice Ao15 y263.length co15)) (fun _ hk => trivial)⟩, ⟨zb BK260⟩, ⟨by refine zM ?_; refine blk_put (cs := #[.int .i64 a0, u262001]) ?_ 1 _ rfl; refine zM ?_; exact BK261.out⟩, ⟨zo HB⟩⟩
       ·rw [if_neg c11] at H
        exact absurd H (by simp)
     ·rw [if_neg c9] at H
      exact absurd H (by simp)
    ·rw [if_neg c8] at H
     exact absurd H (by simp)
   ·rw [if_neg c7] at H
    have c7b0 : decide (x12_1 < (l1.length : Int)) = false := decide_eq_false c7
    clear c7
    simp only [Option.some.injEq, Prod.mk.injEq] at H
    obtain ⟨rfl, rfl⟩ := H
    have hnb17 := NB261_260.out
    have hnc17 := NB260_261.out
    have hcz18_0 := zc0 BK261
    have hcz18_1 := zc1 BK261
    have hfz18_0 := zfz BK261 0
    have hfz18_1 := zfz BK261 1
    have hcz19_0 := zc0 BK260
    have hcz19_1 := zc1 BK260
    have hfz19_0 := zfz BK260 0
    have hfz19_1 := zfz BK260 1
    obtain ⟨Ao20, co20, eo20⟩ := Kd.R_slice HO_262001.out
    subst eo20
    go_wp2
    refine bodyPost_ret (results_cell_row rfl _ _ gb260 41 #[.int .i64 a0, .slice Ao20 x262001_1.length co20] (0, 0) _ rfl (by refine zM ?_; refine blk_put (cs := #[.int .i64 a0, .slice none 0 0]) ?_ 1 _ rfl; refine zM ?_; refine blk_put (cs := #[.int .i64 0, .slice none 0 0]) ?_ 0 _ rfl; refine zM ?_; exact BK260.out) Try.underlying41 rfl (by kernel_rfl)) rfl ?_
    exact ⟨_, by first | rfl | (simp [errW_none, errW_some] <;> rfl) | (simp [*, errW_none, errW_some] <;> rfl), by (with_reducible repeat (first | apply Kd.R_alloc | apply Kd.R_drewN | apply Kd.R_drew)); exact Kd.R_mono (Kd.R_far (p := ⟨gb260, 1, none⟩) (Kd.R_far (p := ⟨gb260, 0, none⟩) (Kd.R_types HO_262001.out BK260.out (by decide)) (fun _ hk => hk.2) (.int .i64 a0)) (fun _ hk => hk.2) (.slice Ao20 x262001_1.length co20)) (fun _ hk => trivial), zo HB⟩

/-! ### sequiturlaw29_alive: function 10 -/
def sequiturlaw29_alive.f (k : Nat)  : Option (Bool) := (sequiturlaw29_form.f k (-1) (([2, 3] : List Int))).bind fun bt269 => ((euclid_Solve.f k (([(⟨bt269.1, bt269.2⟩ : S41)] : List (S41))) 2).bind fun bt276 => ((sequiturlaw29_form.f k (-1) (([2, 4] : List Int))).bind fun bt286 => ((euclid_Solve.f k (([(⟨bt286.1, bt286.2⟩ : S41)] : List (S41))) 2).bind fun bt293 => (if bt276.2.2.1 = true then (if bt276.2.2.2 = 0 then (if bt276.2.1 = 1 then (if bt293.2.2.1 = true then (none) else (if bt293.2.2.2 = 0 then ((sequiturlaw29_form.f k (-1) (([2, 4] : List Int))).bind fun bt303 => ((euclid_Check.f k (([(⟨bt303.1, bt303.2⟩ : S41)] : List (S41))) (([1] : List Int)) 2).bind fun t313 => (some (t313 == 0)))) else (none))) else (none)) else (none)) else (none)))))
theorem sequiturlaw29_alive.mono : ∀ k, LeO (sequiturlaw29_alive.f k ) (sequiturlaw29_alive.f (k + 1) ) := by
 intro  k
 unfold sequiturlaw29_alive.f
 repeat' first | (with_reducible first | exact euclid_Check.mono .. | exact euclid_Solve.mono .. | exact sequiturlaw29_form.mono .. | exact LeO.refl _ | exact LeO.none _ | refine LeO.ite ?_ ?_ | refine LeO.bind ?_ (fun _ => ?_)) | exact euclid_Check.mono .. | exact euclid_Solve.mono .. | exact sequiturlaw29_form.mono .. | exact LeO.none _ | refine LeO.ite ?_ ?_ | refine LeO.bind ?_ (fun _ => ?_)
theorem sequiturlaw29_alive.calls (k : Nat)  (r : Bool) (w : World) (h : sequiturlaw29_alive.f k  = some r) :
  Calls Try.prog 10 #[] w fun e w' => e = .returned (.bool r) ∧ Below w.heap.size w w' := by
 have hu32 := Try.underlying32
 have HB := zK (Below.refl w.heap.size w)
 have H : ((sequiturlaw29_form.f k (-1) (([2, 3] : List Int))).bind fun bt269 => ((euclid_Solve.f k (([(⟨bt269.1, bt269.2⟩ : S41)] : List (S41))) 2).bind fun bt276 => ((sequiturlaw29_form.f k (-1) (([2, 4] : List Int))).bind fun bt286 => ((euclid_Solve.f k (([(⟨bt286.1, bt286.2⟩ : S41)] : List (S41))) 2).bind fun bt293 => (if bt276.2.2.1 = true then (if bt276.2.2.2 = 0 then (if bt276.2.1 = 1 then (if bt293.2.2.1 = true then (none) else (if bt293.2.2.2 = 0 then ((sequiturlaw29_form.f k (-1) (([2, 4] : List Int))).bind fun bt303 => ((euclid_Check.f k (([(⟨bt303.1, bt303.2⟩ : S41)] : List (S41))) (([1] : List Int)) 2).bind fun t313 => (some (t313 == 0)))) else (none))) else (none)) else (none)) else (none)))))) = some r := h
 clear h
 obtain ⟨y266, hy266⟩ : ∃ y_ : List Int, y_ = (([2, 3] : List Int)) := ⟨_, rfl⟩
 replace H : ((sequiturlaw29_form.f k (-1) y266).bind fun bt269 => ((euclid_Solve.f k (([(⟨bt269.1, bt269.2⟩ : S41)] : List (S41))) 2).bind fun bt276 => ((sequiturlaw29_form.f k (-1) (([2, 4] : List Int))).bind fun bt286 => ((euclid_Solve.f k (([(⟨bt286.1, bt286.2⟩ : S41)] : List (S41))) 2).bind fun bt293 => (if bt276.2.2.1 = true then (if bt276.2.2.2 = 0 then (if bt276.2.1 = 1 then (if bt293.2.2.1 = true then (none) else (if bt293.2.2.2 = 0 then ((sequiturlaw29_form.f k (-1) (([2, 4] : List Int))).bind fun bt303 => ((euclid_Check.f k (([(⟨bt303.1, bt303.2⟩ : S41)] : List (S41))) (([1] : List Int)) 2).bind fun t313 => (some (t313 == 0)))) else (none))) else (none)) else (none)) else (none)))))) = some r := by first | (rw [hy266]; with_reducible exact H) | (have H2_ := (Option.bind_some _ _).symm.trans H; rw [hy266]; with_reducible exact H2_) | (have H2_ := (Option.bind_some _ _).symm.trans H; with_reducible exact H2_) | with_reducible exact H | (rw [hy266]; exact H) | exact H
 have Ny266 := zK hy266; clear hy266; replace H := zob H
 obtain ⟨⟨t269, t270⟩, A10, H⟩ := H
 replace H : ((euclid_Solve.f k (([(⟨t269, t270⟩ : S41)] : List (S41))) 2).bind fun bt276 => ((sequiturlaw29_form.f k (-1) (([2, 4] : List Int))).bind fun bt286 => ((euclid_Solve.f k (([(⟨bt286.1, bt286.2⟩ : S41)] : List (S41))) 2).bind fun bt293 => (if bt276.2.2.1 = true then (if bt276.2.2.2 = 0 then (if bt276.2.1 = 1 then (if bt293.2.2.1 = true then (none) else (if bt293.2.2.2 = 0 then ((sequiturlaw29_form.f k (-1) (([2, 4] : List Int))).bind fun bt303 => ((euclid_Check.f k (([(⟨bt303.1, bt303.2⟩ : S41)] : List (S41))) (([1] : List Int)) 2).bind fun t313 => (some (t313 == 0)))) else (none))) else (none)) else (none)) else (none))))) = some r := H
 have A1 := zK A10; clear A10
 obtain ⟨y273, hy273⟩ : ∃ y_ : List (S41), y_ = (([(⟨t269, t270⟩ : S41)] : List (S41))) := ⟨_, rfl⟩
 replace H : ((euclid_Solve.f k y273 2).bind fun bt276 => ((sequiturlaw29_form.f k (-1) (([2, 4] : List Int))).bind fun bt286 => ((euclid_Solve.f k (([(⟨bt286.1, bt286.2⟩ : S41)] : List (S41))) 2).bind fun bt293 => (if bt276.2.2.1 = true then (if bt276.2.2.2 = 0 then (if bt276.2.1 = 1 then (if bt293.2.2.1 = true then (none) else (if bt293.2.2.2 = 0 then ((sequiturlaw29_form.f k (-1) (([2, 4] : List Int))).bind fun bt303 => ((euclid_Check.f k (([(⟨bt303.1, bt303.2⟩ : S41)] : List (S41))) (([1] : List Int)) 2).bind fun t313 => (some (t313 == 0)))) else (none))) else (none)) else (none)) else (none))))) = some r := by first | (rw [hy273]; with_reducible exact H) | (have H2_ := (Option.bind_some _ _).symm.trans H; rw [hy273]; with_reducible exact H2_) | (have H2_ := (Option.bind_some _ _).symm.trans H; with_reducible exact H2_) | with_reducible exact H | (rw [hy273]; exact H) | exact H
 have Ny273 := zK hy273; clear hy273; replace H := zob H
 obtain ⟨⟨t276, t279, t280, t281⟩, A20, H⟩ := H
 replace H : ((sequiturlaw29_form.f k (-1) (([2, 4] : List Int))).bind fun bt286 => ((euclid_Solve.f k (([(⟨bt286.1, bt286.2⟩ : S41)] : List (S41))) 2).bind fun bt293 => (if t280 = true then (if t281 = 0 then (if t279 = 1 then (if bt293.2.2.1 = true then (none) else (if bt293.2.2.2 = 0 then ((sequiturlaw29_form.f k (-1) (([2, 4] : List Int))).bind fun bt303 => ((euclid_Check.f k (([(⟨bt303.1, bt303.2⟩ : S41)] : List (S41))) (([1] : List Int)) 2).bind fun t313 => (some (t313 == 0)))) else (none))) else (none)) else (none)) else (none)))) = some r := H
 have A2 := zK A20; clear A20
 obtain ⟨y283, hy283⟩ : ∃ y_ : List Int, y_ = (([2, 4] : List Int)) := ⟨_, rfl⟩
 replace H : ((sequiturlaw29_form.f k (-1) y283).bind fun bt286 => ((euclid_Solve.f k (([(⟨bt286.1, bt286.2⟩ : S41)] : List (S41))) 2).bind fun bt293 => (if t280 = true then (if t281 = 0 then (if t279 = 1 then (if bt293.2.2.1 = true then (none) else (if bt293.2.2.2 = 0 then ((sequiturlaw29_form.f k (-1) (([2, 4] : List Int))).bind fun bt303 => ((euclid_Check.f k (([(⟨bt303.1, bt303.2⟩ : S41)] : List (S41))) (([1] : List Int)) 2).bind fun t313 => (some (t313 == 0)))) else (none))) else (none)) else (none)) else (none)))) = some r := by first | (rw [hy283]; with_reducible exact H) | (have H2_ := (Option.bind_some _ _).symm.trans H; rw [hy283]; with_reducible exact H2_) | (have H2_ := (Option.bind_some _ _).symm.trans H; with_reducible exact H2_) | with_reducible exact H | (rw [hy283]; exact H) | exact H
 have Ny283 := zK hy283; clear hy283; replace H := zob H
 obtain ⟨⟨t286, t287⟩, A30, H⟩ := H
 replace H : ((euclid_Solve.f k (([(⟨t286, t287⟩ : S41)] : List (S41))) 2).bind fun bt293 => (if t280 = true then (if t281 = 0 then (if t279 = 1 then (if bt293.2.2.1 = true then (none) else (if bt293.2.2.2 = 0 then ((sequiturlaw29_form.f k (-1) (([2, 4] : List Int))).bind fun bt303 => ((euclid_Check.f k (([(⟨bt303.1, bt303.2⟩ : S41)] : List (S41))) (([1] : List Int)) 2).bind fun t313 => (some (t313 == 0)))) else (none))) else (none)) else (none)) else (none))) = some r := H
 have A3 := zK A30; clear A30
 obtain ⟨y290, hy290⟩ : ∃ y_ : List (S41), y_ = (([(⟨t286, t287⟩ : S41)] : List (S41))) := ⟨_, rfl⟩
 replace H : ((euclid_Solve.f k y290 2).bind fun bt293 => (if t280 = true then (if t281 = 0 then (if t279 = 1 then (if bt293.2.2.1 = true then (none) else (if bt293.2.2.2 = 0 then ((sequiturlaw29_form.f k (-1) (([2, 4] : List Int))).bind fun bt303 => ((euclid_Check.f k (([(⟨bt303.1, bt303.2⟩ : S41)] : List (S41))) (([1] : List Int)) 2).bind fun t313 => (some (t313 == 0)))) else (none))) else (none)) else (none)) else (none))) = some r := by first | (rw [hy290]; with_reducible exact H) | (have H2_ := (Option.bind_some _ _).symm.trans H; rw [hy290]; with_reducible exact H2_) | (have H2_ := (Option.bind_some _ _).symm.trans H; with_reducible exact H2_) | with_reducible exact H | (rw [hy290]; exact H) | exact H
 have Ny290 := zK hy290; clear hy290; replace H := zob H
 obtain ⟨⟨t293, t296, t297, t298⟩, A40, H⟩ := H
 replace H : (if t280 = true then (if t281 = 0 then (if t279 = 1 then (if t297 = true then (none) else (if t298 = 0 then ((sequiturlaw29_form.f k (-1) (([2, 4] : List Int))).bind fun bt303 => ((euclid_Check.f k (([(⟨bt303.1, bt303.2⟩ : S41)] : List (S41))) (([1] : List Int)) 2).bind fun t313 => (some (t313 == 0)))) else (none))) else (none)) else (none)) else (none)) = some r := H
 have A4 := zK A40; clear A40
 by_cases c5 : t280 = true
 ·subst c5
  have H1 : (if t281 = 0 then (if t279 = 1 then (if t297 = true then (none) else (if t298 = 0 then ((sequiturlaw29_form.f k (-1) (([2, 4] : List Int))).bind fun bt303 => ((euclid_Check.f k (([(⟨bt303.1, bt303.2⟩ : S41)] : List (S41))) (([1] : List Int)) 2).bind fun t313 => (some (t313 == 0)))) else (none))) else (none)) else (none)) = some r := by rw [if_pos rfl] at H; exact H
  clear H; have H := H1; clear H1
  by_cases c6 : t281 = 0
  ·rw [if_pos c6] at H
   have c6b0 : (t281 == 0) = true := beq_iff_eq.mpr c6
   have c6b1 : (t281 != 0) = false := bne_eq_false_iff_eq.mpr c6; clear c6
   by_cases c7 : t279 = 1
   ·rw [if_pos c7] at H
    have c7b0 : (t279 == 1) = true := beq_iff_eq.mpr c7
    have c7b1 : (t279 != 1) = false := bne_eq_false_iff_eq.mpr c7; clear c7
    by_cases c8 : t297 = true
    ·subst c8
     have H1 : (none) = some r := by rw [if_pos rfl] at H; exact H
     clear H
     have H := H1; clear H1
     exact absurd H (by simp)
    ·replace c8 := Bool.eq_false_iff.mpr c8
     subst c8
     have H1 : (if t298 = 0 then ((sequiturlaw29_form.f k (-1) (([2, 4] : List Int))).bind fun bt303 => ((euclid_Check.f k (([(⟨bt303.1, bt303.2⟩ : S41)] : List (S41))) (([1] : List Int)) 2).bind fun t313 => (some (t313 == 0)))) else (none)) = some r := by rw [if_neg (show ¬ (false = true) by decide)] at H; exact H
     clear H; have H := H1; clear H1
     by_cases c9 : t298 = 0
     ·rw [if_pos c9] at H
      have c9b0 : (t298 == 0) = true := beq_iff_eq.mpr c9
      have c9b1 : (t298 != 0) = false := bne_eq_false_iff_eq.mpr c9; clear c9
      obtain ⟨y300, hy300⟩ : ∃ y_ : List Int, y_ = (([2, 4] : List Int)) := ⟨_, rfl⟩
      replace H : ((sequiturlaw29_form.f k (-1) y300).bind fun bt303 => ((euclid_Check.f k (([(⟨bt303.1, bt303.2⟩ : S41)] : List (S41))) (([1] : List Int)) 2).bind fun t313 => (some (t313 == 0)))) = some r := by first | (rw [hy300]; with_reducible exact H) | (have H2_ := (Option.bind_some _ _).symm.trans H; rw [hy300]; with_reducible exact H2_) | (have H2_ := (Option.bind_some _ _).symm.trans H; with_reducible exact H2_) | with_reducible exact H | (rw [hy300]; exact H) | exact H
      have Ny300 := zK hy300; clear hy300; replace H := zob H
      obtain ⟨⟨t303, t304⟩, A100, H⟩ := H
      replace H : ((euclid_Check.f k (([(⟨t303, t304⟩ : S41)] : List (S41))) (([1] : List Int)) 2).bind fun t313 => (some (t313 == 0))) = some r := H
      have A10 := zK A100; clear A100
      obtain ⟨y307, hy307⟩ : ∃ y_ : List (S41), y_ = (([(⟨t303, t304⟩ : S41)] : List (S41))) := ⟨_, rfl⟩
      replace H : ((euclid_Check.f k y307 (([1] : List Int)) 2).bind fun t313 => (some (t313 == 0))) = some r := by first | (rw [hy307]; with_reducible exact H) | (have H2_ := (Option.bind_some _ _).symm.trans H; rw [hy307]; with_reducible exact H2_) | (have H2_ := (Option.bind_some _ _).symm.trans H; with_reducible exact H2_) | with_reducible exact H | (rw [hy307]; exact H) | exact H
      have Ny307 := zK hy307; clear hy307
      obtain ⟨y310, hy310⟩ : ∃ y_ : List Int, y_ = (([1] : List Int)) := ⟨_, rfl⟩
      replace H : ((euclid_Check.f k y307 y310 2).bind fun t313 => (some (t313 == 0))) = some r := by first | (rw [hy310]; with_reducible exact H) | (have H2_ := (Option.bind_some _ _).symm.trans H; rw [hy310]; with_reducible exact H2_) | (have H2_ := (Option.bind_some _ _).symm.trans H; with_reducible exact H2_) | with_reducible exact H | (rw [hy310]; exact H) | exact H
      have Ny310 := zK hy310; clear hy310; replace H := zob H
      obtain ⟨t313, A110, H⟩ := H; replace H : (some (t313 == 0)) = some r := H
      have A11 := zK A110; clear A110
      obtain rfl := Option.some.inj H
      go_enter Try.func10, Try.ntmps10
      go_wp2_with (first | ((with_reducible refine gate_dst (N := 8) rfl ?_); (try (refine zG (by rfl) ?_; dsimp only)); refine Kd.R_lit (Kd.int .i64) _ 2 ?hg (N := 8) ?hd (xs := ([2, 3] : List Int)) (inner := [.int .i64 2, .int .i64 3]) (ok := fun _ => True) (okp := fun _ => True) ?hr ?hp (fun _ hk => hk) trivial (Below.refl _ _) (Nat.le_refl _) (by simp) ?_; (case hd => rfl); (case hg => rfl); (case hr => first | (go_simp; done) | (go_simp; rfl)); (case hp => exact (Reps.one (show Kd.M (Kd.int .i64) _ _ _ 2 [.int .i64 2] from rfl) (Reps.one (show Kd.M (Kd.int .i64) _ _ _ 3 [.int .i64 3] from rfl) (Reps.none _ _)))); intro v267 w12 ho13 hb hg_ hnew_; clear hg_ hnew_; (first | rw [← Ny266.out] at ho13 | (simp only [Int.reduceToNat] at ho13; rw [← Ny266.out] at ho13)); have HO268 := zK (Kd.R_lower ho13 (below_size (zo HB))); replace HB := zst HB hb; clear hb ho13; obtain ⟨Ao14, co14, eo14⟩ := Kd.R_slice HO268.out; subst eo14) | ((with_reducible refine zC (f := 24) rfl ?_); refine zGo (some 9) Try.func24 #[.int .i64 (-1), .slice Ao14 y266.length co14] ?_; (with_reducible refine (sequiturlaw29_form.calls k (-1) _ _ y266 t269 t270 _ ?side1 ?side2 A1.out).mono ?_); (case side1 => repeat (first | exact (Kd.R_reads' HO268.out).2.2 | (with_reducible refine cA ?_ _) | (with_reducible refine cN ?_ _) | (with_reducible refine cD ?_))); (case side2 => exact (Kd.R_reads' HO268.out).2.1); rintro e w15 ⟨v271, rfl, ho0, hb⟩; refine ⟨_, rfl, ?_⟩; replace HO268 := zK (Kd.R_below (zr HO268) hb); have HO272 := zK (Kd.R_lower ho0 (below_size (zo HB))); replace HB := zst HB hb; clear hb; (try clear ho0); obtain ⟨Ao16, co16, eo16⟩ := Kd.R_slice HO272.out; subst eo16) | ((with_reducible refine gate_dst (N := 10) rfl ?_); (try (refine zG (by rfl) ?_; dsimp only)); refine Kd.N_lit k41 _ 41 ?hg (N' := 10) ?hd (xs := ([(⟨t269, t270⟩ : S41)] : List (S41))) (inner := [.int .i64 t269, .slice Ao16 t270.length co16]) (ok := (fun k_ => some k_ ≠ (.slice Ao14 y266.length co14 : Value).ownBlock)) (okp := (fun k_ => some k_ ≠ (.slice Ao14 y266.length co14 : Value).ownBlock)) ?hr ?hp (fun _ hk => hk) ((show ∀ k_, w15.heap.size ≤ k_ → (fun k_ => some k_ ≠ (.slice Ao14 y266.length co14 : Value).ownBlock) k_ from fun k_ hk => Kd.fresh' (Kd.R_lt (zr HO268)) k_ hk) _ (Nat.le_refl _)) (Below.refl _ _) (Nat.le_refl _) (by simp) ?_; (case hd => rfl); (case hg => rfl); (case hr => first | (go_simp; done) | (go_simp; rfl)); (case hp => exact (Reps.c2 (show Kd.FK k41 _ _ (⟨t269, t270⟩ : S41) [.int .i64 t269, .slice Ao16 t270.length co16] from (k41_mkF _ _ (⟨t269, t270⟩ : S41) (Kd.R_reads' (Kd.R_mono (ok' := (fun k_ => some k_ ≠ (.slice Ao14 y266.length co14 : Value).ownBlock)) (Kd.R_apart' (HO272.out) (Kd.R_typed HO268.out) (by decide)) (fun k_ hk => hk.2))).2.1 (Kd.R_F (Kd.R_mono (ok' := (fun k_ => some k_ ≠ (.slice Ao14 y266.length co14 : Value).ownBlock)) (Kd.R_apart' (HO272.out) (Kd.R_typed HO268.out) (by decide)) (fun k_ hk => hk.2))))) (Reps.none _ _))); intro v274 w17 ho18 hb hg_ hnew_; clear hg_ hnew_; (first | rw [← Ny273.out] at ho18 | (simp only [Int.reduceToNat] at ho18; rw [← Ny273.out] at ho18)); replace HO268 := zK (Kd.R_below (zr HO268) hb); have HO275 := zK (Kd.N_lower ho18 (below_size (zo HB))); replace HB := zst HB hb; clear HO272 hb ho18; obtain ⟨Ao19, co19, eo19⟩ := Kd.N_slice HO275.out; subst eo19) | ((with_reducible refine zC (f := 15) rfl ?_); refine zGo (some 11) Try.func15 #[.slice Ao19 y273.length co19, .int .i64 2] ?_; (with_reducible refine (euclid_Solve.calls k _ _ y273 2 t276 t279 true t281 _ ?side1 ?side2 A2.out).mono ?_); (case side1 => repeat (first | exact (Kd.N_reads' HO275.out).2.2 | (with_reducible refine cA ?_ _) | (with_reducible refine cN ?_ _) | (with_reducible refine cD ?_))); (case side2 => exact (Kd.N_reads' HO275.out).2.1); rintro e w20 ⟨v277, rfl, ho0, hb⟩; refine ⟨_, rfl, ?_⟩; have HO278 := zK (Kd.N_lower (Kd.N_mono (ok' := fun k_ => some k_ ≠ (.slice Ao14 y266.length co14 : Value).ownBlock ∧ some k_ ≠ (.slice Ao19 y273.length co19 : Value).ownBlock) (Kd.S_N (Kd.S_bound ho0)) (fun k_ hk_ => ⟨(Kd.fresh' (Kd.R_lt (zr HO268)) k_ hk_.2.1), (Kd.fresh' (Kd.N_lt (zn HO275)) k_ hk_.2.1)⟩)) (below_size (zo HB))); replace HO268 := zK (Kd.R_below (zr HO268) hb); replace HO275 := zK (Kd.N_elder' (zn HO275) (Kd.N_base (Kd.S_N (Kd.S_bound ho0))) hb); replace HB := zst HB hb; clear hb; (try clear ho0)) | ((with_reducible refine gate_dst (N := 1) rfl ?_); (try (refine zG (by rfl) ?_; dsimp only)); refine zBox (cs := #[.slice none 0 0, .int .i64 0]) (t := 32) ?_; intro gb282 hg w21 hbox hb; replace HO268 := zK (Kd.R_below (zr HO268) hb); replace HO275 := zK (Kd.N_below (Kd.N_elderB (zn HO275) gb282 (Nat.le_of_eq hg.symm)) hb); replace HO278 := zK (Kd.N_below (Kd.N_elderB (zn HO278) gb282 (Nat.le_of_eq hg.symm)) hb); have BK282 := zK (hbox); have GW282 := zK ((by rw [hg]; exact (below_size (zo HB)) : w.heap.size ≤ gb282)); replace HB := zst HB hb; clear hb hbox hg; obtain ⟨Ao22, co22, eo22⟩ := Kd.N_slice HO278.out; subst eo22; have hcz23_0 := zc0 BK282; have hcz23_1 := zc1 BK282; have hfz23_0 := zfz BK282 0; have hfz23_1 := zfz BK282 1) | ((with_reducible refine gate_dst (N := 16) rfl ?_); (try (refine zG (by rfl) ?_; dsimp only)); refine Kd.R_lit (Kd.int .i64) _ 2 ?hg (N := 16) ?hd (xs := ([2, 4] : List Int)) (inner := [.int .i64 2, .int .i64 4]) (ok := fun _ => True) (okp := fun _ => True) ?hr ?hp (fun _ hk => hk) trivial (Below.refl _ _) (Nat.le_refl _) (by simp) ?_; (case hd => rfl); (case hg => rfl); (case hr => first | (go_simp; done) | (go_simp; rfl)); (case hp => exact (Reps.one (show Kd.M (Kd.int .i64) _ _ _ 2 [.int .i64 2] from rfl) (Reps.one (show Kd.M (Kd.int .i64) _ _ _ 4 [.int .i64 4] from rfl) (Reps.none _ _)))); intro v284 w24 ho25 hb hg_ hnew_; clear hg_ hnew_; (first | rw [← Ny283.out] at ho25 | (simp only [Int.reduceToNat] at ho25; rw [← Ny283.out] at ho25)); replace HO275 := zK (Kd.N_elder' (by (with_reducible repeat (first | apply nA | apply nN | apply nD)); exact (Kd.N_mono (Kd.N_far (p := ⟨gb282, 1, none⟩) (Kd.N_far (p := ⟨gb282, 0, none⟩) (Kd.N_mono HO275.out (fun k_ hk => (⟨hk, hk.2⟩ : _ ∧ k_ ≠ gb282))) (fun _ hk => hk.2) (.slice Ao22 t276.length co22)) (fun _ hk => hk.2) (.int .i64 t279)) (fun _ h_ => h_.1))) (Kd.R_base ho25) hb); replace HO278 := zK (Kd.N_elder' (by (with_reducible repeat (first | apply nA | apply nN | apply nD)); exact (Kd.N_mono (Kd.N_far (p := ⟨gb282, 1, none⟩) (Kd.N_far (p := ⟨gb282, 0, none⟩) (Kd.N_mono HO278.out (fun k_ hk => (⟨hk, hk.2⟩ : _ ∧ k_ ≠ gb282))) (fun _ hk => hk.2) (.slice Ao22 t276.length co22)) (fun _ hk => hk.2) (.int .i64 t279)) (fun _ h_ => h_.1))) (Kd.R_base ho25) hb); have HO285 := zK (Kd.R_lower (Kd.R_new' ho25 (Kd.R_lt (by (with_reducible repeat (first | apply Kd.R_alloc | apply Kd.R_drewN | apply Kd.R_drew)); exact (Kd.R_mono (Kd.R_far (p := ⟨gb282, 1, none⟩) (Kd.R_far (p := ⟨gb282, 0, none⟩) (Kd.R_types HO268.out BK282.out (by decide)) (fun _ hk => hk.2) (.slice Ao22 t276.length co22)) (fun _ hk => hk.2) (.int .i64 t279)) (fun _ h_ => h_.1))))) (below_size (zo HB))); replace HO268 := zK (Kd.R_elder' (by (with_reducible repeat (first | apply Kd.R_alloc | apply Kd.R_drewN | apply Kd.R_drew)); exact (Kd.R_mono (Kd.R_far (p := ⟨gb282, 1, none⟩) (Kd.R_far (p := ⟨gb282, 0, none⟩) (Kd.R_types HO268.out BK282.out (by decide)) (fun _ hk => hk.2) (.slice Ao22 t276.length co22)) (fun _ hk => hk.2) (.int .i64 t279)) (fun _ h_ => h_.1))) (Kd.R_base ho25) hb); replace BK282 := zK (blk_below (g := gb282) (o := .cells #[.slice Ao22 t276.length co22, .int .i64 t279] 32 (0, 0)) (by refine zM ?_; refine blk_put (cs := #[.slice Ao22 t276.length co22, .int .i64 0]) ?_ 1 _ rfl; refine zM ?_; refine blk_put (cs := #[.slice none 0 0, .int .i64 0]) ?_ 0 _ rfl; refine zM ?_; exact BK282.out) hb); replace HB := zst HB hb; clear hb ho25; obtain ⟨Ao26, co26, eo26⟩ := Kd.R_slice HO285.out; subst eo26) | ((with_reducible refine zC (f := 24) rfl ?_); refine zGo (some 17) Try.func24 #[.int .i64 (-1), .slice Ao26 y283.length co26] ?_; (with_reducible refine (sequiturlaw29_form.calls k (-1) _ _ y283 t286 t287 _ ?side1 ?side2 A3.out).mono ?_); (case side1 => repeat (first | exact (Kd.R_reads' HO285.out).2.2 | (with_reducible refine cA ?_ _) | (with_reducible refine cN ?_ _) | (with_reducible refine cD ?_))); (case side2 => exact (Kd.R_reads' HO285.out).2.1); rintro e w27 ⟨v288, rfl, ho0, hb⟩; refine ⟨_, rfl, ?_⟩; replace HO268 := zK (Kd.R_below (zr HO268) hb); replace HO275 := zK (Kd.N_elder' (zn HO275) (Kd.R_base ho0) hb); replace HO278 := zK (Kd.N_elder' (zn HO278) (Kd.R_base ho0) hb); replace HO285 := zK (Kd.R_below (zr HO285) hb); have HO289 := zK (Kd.R_lower ho0 (below_size (zo HB))); replace BK282 := zbb BK282 hb; replace HB := zst HB hb; clear hb; (try clear ho0); obtain ⟨Ao28, co28, eo28⟩ := Kd.R_slice HO289.out; subst eo28) | ((with_reducible refine gate_dst (N := 18) rfl ?_); (try (refine zG (by rfl) ?_; dsimp only)); refine Kd.N_lit k41 _ 41 ?hg (N' := 18) ?hd (xs := ([(⟨t286, t287⟩ : S41)] : List (S41))) (inner := [.int .i64 t286, .slice Ao28 t287.length co28]) (ok := (fun k_ => some k_ ≠ (.slice Ao14 y266.length co14 : Value).ownBlock ∧ some k_ ≠ (.slice Ao19 y273.length co19 : Value).ownBlock ∧ some k_ ≠ (.slice Ao22 t276.length co22 : Value).ownBlock ∧ some k_ ≠ (.slice Ao26 y283.length co26 : Value).ownBlock ∧ k_ ≠ gb282)) (okp := (fun k_ => some k_ ≠ (.slice Ao14 y266.length co14 : Value).ownBlock ∧ some k_ ≠ (.slice Ao19 y273.length co19 : Value).ownBlock ∧ some k_ ≠ (.slice Ao22 t276.length co22 : Value).ownBlock ∧ some k_ ≠ (.slice Ao26 y283.length co26 : Value).ownBlock ∧ k_ ≠ gb282)) ?hr ?hp (fun _ hk => hk) ((show ∀ k_, w27.heap.size ≤ k_ → (fun k_ => some k_ ≠ (.slice Ao14 y266.length co14 : Value).ownBlock ∧ some k_ ≠ (.slice Ao19 y273.length co19 : Value).ownBlock ∧ some k_ ≠ (.slice Ao22 t276.length co22 : Value).ownBlock ∧ some k_ ≠ (.slice Ao26 y283.length co26 : Value).ownBlock ∧ k_ ≠ gb282) k_ from fun k_ hk => ⟨Kd.fresh' (Kd.R_lt (zr HO268)) k_ hk, Kd.fresh' (Kd.N_lt (zn HO275)) k_ hk, Kd.fresh' (Kd.N_lt (zn HO278)) k_ hk, Kd.fresh' (Kd.R_lt (zr HO285)) k_ hk, Kd.freshB (g := gb282) (o := .cells #[.slice Ao22 t276.length co22, .int .i64 t279] 32 (0, 0)) (zb BK282) k_ hk⟩) _ (Nat.le_refl _)) (Below.refl _ _) (Nat.le_refl _) (by simp) ?_; (case hd => rfl); (case hg => rfl); (case hr => first | (go_simp; done) | (go_simp; rfl)); (case hp => exact (Reps.c2 (show Kd.FK k41 _ _ (⟨t286, t287⟩ : S41) [.int .i64 t286, .slice Ao28 t287.length co28] from (k41_mkF _ _ (⟨t286, t287⟩ : S41) (Kd.R_reads' (Kd.R_mono (ok' := (fun k_ => some k_ ≠ (.slice Ao14 y266.length co14 : Value).ownBlock ∧ some k_ ≠ (.slice Ao19 y273.length co19 : Value).ownBlock ∧ some k_ ≠ (.slice Ao22 t276.length co22 : Value).ownBlock ∧ some k_ ≠ (.slice Ao26 y283.length co26 : Value).ownBlock ∧ k_ ≠ gb282)) (Kd.R_types (Kd.R_apart' (Kd.R_apart' (Kd.R_apart' (Kd.R_apart' (HO289.out) (Kd.R_typed HO268.out) (by decide)) (Kd.N_typed HO275.out) (by decide)) (Kd.N_typed HO278.out) (by decide)) (Kd.R_typed HO285.out) (by decide)) BK282.out (by decide)) (fun k_ hk => ⟨hk.1.1.1.1.2, ⟨hk.1.1.1.2, ⟨hk.1.1.2, ⟨hk.1.2, hk.2⟩⟩⟩⟩))).2.1 (Kd.R_F (Kd.R_mono (ok' := (fun k_ => some k_ ≠ (.slice Ao14 y266.length co14 : Value).ownBlock ∧ some k_ ≠ (.slice Ao19 y273.length co19 : Value).ownBlock ∧ some k_ ≠ (.slice Ao22 t276.length co22 : Value).ownBlock ∧ some k_ ≠ (.slice Ao26 y283.length co26 : Value).ownBlock ∧ k_ ≠ gb282)) (Kd.R_types (Kd.R_apart' (Kd.R_apart' (Kd.R_apart' (Kd.R_apart' (HO289.out) (Kd.R_typed HO268.out) (by decide)) (Kd.N_typed HO275.out) (by decide)) (Kd.N_typed HO278.out) (by decide)) (Kd.R_typed HO285.out) (by decide)) BK282.out (by decide)) (fun k_ hk => ⟨hk.1.1.1.1.2, ⟨hk.1.1.1.2, ⟨hk.1.1.2, ⟨hk.1.2, hk.2⟩⟩⟩⟩))))) (Reps.none _ _))); intro v291 w29 ho30 hb hg_ hnew_; clear hg_ hnew_; (first | rw [← Ny290.out] at ho30 | (simp only [Int.reduceToNat] at ho30; rw [← Ny290.out] at ho30)); replace HO268 := zK (Kd.R_below (zr HO268) hb); replace HO275 := zK (Kd.N_elder' (zn HO275) (Kd.N_base ho30) hb); replace HO278 := zK (Kd.N_elder' (zn HO278) (Kd.N_base ho30) hb); replace HO285 := zK (Kd.R_below (zr HO285) hb); have HO292 := zK (Kd.N_lower ho30 (below_size (zo HB))); replace BK282 := zbb BK282 hb; replace HB := zst HB hb; clear HO289 hb ho30; obtain ⟨Ao31, co31, eo31⟩ := Kd.N_slice HO292.out; subst eo31) | ((with_reducible refine zC (f := 15) rfl ?_); refine zGo (some 19) Try.func15 #[.slice Ao31 y290.length co31, .int .i64 2] ?_; (with_reducible refine (euclid_Solve.calls k _ _ y290 2 t293 t296 false t298 _ ?side1 ?side2 A4.out).mono ?_); (case side1 => repeat (first | exact (Kd.N_reads' HO292.out).2.2 | (with_reducible refine cA ?_ _) | (with_reducible refine cN ?_ _) | (with_reducible refine cD ?_))); (case side2 => exact (Kd.N_reads' HO292.out).2.1); rintro e w32 ⟨v294, rfl, ho0, hb⟩; refine ⟨_, rfl, ?_⟩; have HO295 := zK (Kd.N_lower (Kd.N_mono (ok' := fun k_ => some k_ ≠ (.slice Ao14 y266.length co14 : Value).ownBlock ∧ some k_ ≠ (.slice Ao19 y273.length co19 : Value).ownBlock ∧ some k_ ≠ (.slice Ao22 t276.length co22 : Value).ownBlock ∧ some k_ ≠ (.slice Ao26 y283.length co26 : Value).ownBlock ∧ some k_ ≠ (.slice Ao31 y290.length co31 : Value).ownBlock ∧ k_ ≠ gb282) (Kd.S_N (Kd.S_bound ho0)) (fun k_ hk_ => ⟨(Kd.fresh' (Kd.R_lt (zr HO268)) k_ hk_.2.1), (Kd.fresh' (Kd.N_lt (zn HO275)) k_ hk_.2.1), (Kd.fresh' (Kd.N_lt (zn HO278)) k_ hk_.2.1), (Kd.fresh' (Kd.R_lt (zr HO285)) k_ hk_.2.1), (Kd.fresh' (Kd.N_lt (zn HO292)) k_ hk_.2.1), (Kd.freshB (g := gb282) (o := .cells #[.slice Ao22 t276.length co22, .int .i64 t279] 32 (0, 0)) (zb BK282) k_ hk_.2.1)⟩)) (below_size (zo HB))); replace HO268 := zK (Kd.R_below (zr HO268) hb); replace HO275 := zK (Kd.N_elder' (zn HO275) (Kd.N_base (Kd.S_N (Kd.S_bound ho0))) hb); replace HO278 := zK (Kd.N_elder' (zn HO278) (Kd.N_base (Kd.S_N (Kd.S_bound ho0))) hb); replace HO285 := zK (Kd.R_below (zr HO285) hb); replace HO292 := zK (Kd.N_elder' (zn HO292) (Kd.N_base (Kd.S_N (Kd.S_bound ho0))) hb); replace BK282 := zbb BK282 hb; replace HB := zst HB hb; clear hb; (try clear ho0)) | ((with_reducible refine gate_dst (N := 4) rfl ?_); (try (refine zG (by rfl) ?_; dsimp only)); refine zBox (cs := #[.slice none 0 0, .int .i64 0]) (t := 32) ?_; intro gb299 hg w33 hbox hb; replace HO268 := zK (Kd.R_below (zr HO268) hb); replace HO275 := zK (Kd.N_below (Kd.N_elderB (zn HO275) gb299 (Nat.le_of_eq hg.symm)) hb); replace HO278 := zK (Kd.N_below (Kd.N_elderB (zn HO278) gb299 (Nat.le_of_eq hg.symm)) hb); replace HO285 := zK (Kd.R_below (zr HO285) hb); replace HO292 := zK (Kd.N_below (Kd.N_elderB (zn HO292) gb299 (Nat.le_of_eq hg.symm)) hb); replace HO295 := zK (Kd.N_below (Kd.N_elderB (zn HO295) gb299 (Nat.le_of_eq hg.symm)) hb); have BK299 := zK (hbox); have GW299 := zK ((by rw [hg]; exact (below_size (zo HB)) : w.heap.size ≤ gb299)); replace HB := zst HB hb; have NB282_299 := zn1 BK282 hg; have NB299_282 := zn2 BK282 hg; replace BK282 := zbb BK282 hb; clear hb hbox hg; obtain ⟨Ao34, co34, eo34⟩ := Kd.N_slice HO295.out; subst eo34; have hnb35 := NB299_282.out; have hnc35 := NB282_299.out; have hcz36_0 := zc0 BK299; have hcz36_1 := zc1 BK299; have hfz36_0 := zfz BK299 0; have hfz36_1 := zfz BK299 1; have hcz37_0 := zc0 BK282; have hcz37_1 := zc1 BK282; have hfz37_0 := zfz BK282 0; have hfz37_1 := zfz BK282 1) | ((with_reducible refine gate_dst (N := 42) rfl ?_); (try (refine zG (by rfl) ?_; dsimp only)); refine Kd.R_lit (Kd.int .i64) _ 2 ?hg (N := 42) ?hd (xs := ([2, 4] : List Int)) (inner := [.int .i64 2, .int .i64 4]) (ok := fun _ => True) (okp := fun _ => True) ?hr ?hp (fun _ hk => hk) trivial (Below.refl _ _) (Nat.le_refl _) (by simp) ?_; (case hd => rfl); (case hg => rfl); (case hr => first | (go_simp; done) | (go_simp; rfl)); (case hp => exact (Reps.one (show Kd.M (Kd.int .i64) _ _ _ 2 [.int .i64 2] from rfl) (Reps.one (show Kd.M (Kd.int .i64) _ _ _ 4 [.int .i64 4] from rfl) (Reps.none _ _)))); intro v301 w38 ho39 hb hg_ hnew_; clear hg_ hnew_; (first | rw [← Ny300.out] at ho39 | (simp only [Int.reduceToNat] at ho39; rw [← Ny300.out] at ho39)); replace HO275 := zK (Kd.N_elder' (by (with_reducible repeat (first | apply nA | apply nN | apply nD)); exact (Kd.N_mono (Kd.N_far (p := ⟨gb299, 1, none⟩) (Kd.N_far (p := ⟨gb299, 0, none⟩) (Kd.N_mono HO275.out (fun k_ hk => (⟨hk, hk.2⟩ : _ ∧ k_ ≠ gb299))) (fun _ hk => hk.2) (.slice Ao34 t293.length co34)) (fun _ hk => hk.2) (.int .i64 t296)) (fun _ h_ => h_.1))) (Kd.R_base ho39) hb); replace HO278 := zK (Kd.N_elder' (by (with_reducible repeat (first | apply nA | apply nN | apply nD)); exact (Kd.N_mono (Kd.N_far (p := ⟨gb299, 1, none⟩) (Kd.N_far (p := ⟨gb299, 0, none⟩) (Kd.N_mono HO278.out (fun k_ hk => (⟨hk, hk.2⟩ : _ ∧ k_ ≠ gb299))) (fun _ hk => hk.2) (.slice Ao34 t293.length co34)) (fun _ hk => hk.2) (.int .i64 t296)) (fun _ h_ => h_.1))) (Kd.R_base ho39) hb); replace HO292 := zK (Kd.N_elder' (by (with_reducible repeat (first | apply nA | apply nN | apply nD)); exact (Kd.N_mono (Kd.N_far (p := ⟨gb299, 1, none⟩) (Kd.N_far (p := ⟨gb299, 0, none⟩) (Kd.N_mono HO292.out (fun k_ hk => (⟨hk, hk.2⟩ : _ ∧ k_ ≠ gb299))) (fun _ hk => hk.2) (.slice Ao34 t293.length co34)) (fun _ hk => hk.2) (.int .i64 t296)) (fun _ h_ => h_.1))) (Kd.R_base ho39) hb); replace HO295 := zK (Kd.N_elder' (by (with_reducible repeat (first | apply nA | apply nN | apply nD)); exact (Kd.N_mono (Kd.N_far (p := ⟨gb299, 1, none⟩) (Kd.N_far (p := ⟨gb299, 0, none⟩) (Kd.N_mono HO295.out (fun k_ hk => (⟨hk, hk.2⟩ : _ ∧ k_ ≠ gb299))) (fun _ hk => hk.2) (.slice Ao34 t293.length co34)) (fun _ hk => hk.2) (.int .i64 t296)) (fun _ h_ => h_.1))) (Kd.R_base ho39) hb); have HO302 := zK (Kd.R_lower (Kd.R_new' (Kd.R_new' ho39 (Kd.R_lt (by (with_reducible repeat (first | apply Kd.R_alloc | apply Kd.R_drewN | apply Kd.R_drew)); exact (Kd.R_mono (Kd.R_far (p := ⟨gb299, 1, none⟩) (Kd.R_far (p := ⟨gb299, 0, none⟩) (Kd.R_types HO268.out BK299.out (by decide)) (fun _ hk => hk.2) (.slice Ao34 t293.length co34)) (fun _ hk => hk.2) (.int .i64 t296)) (fun _ h_ => h_.1))))) (Kd.R_lt (by (with_reducible repeat (first | apply Kd.R_alloc | apply Kd.R_drewN | apply Kd.R_drew)); exact (Kd.R_mono (Kd.R_far (p := ⟨gb299, 1, none⟩) (Kd.R_far (p := ⟨gb299, 0, none⟩) (Kd.R_types HO285.out BK299.out (by decide)) (fun _ hk => hk.2) (.slice Ao34 t293.length co34)) (fun _ hk => hk.2) (.int .i64 t296)) (fun _ h_ => h_.1))))) (below_size (zo HB))); replace HO268 := zK (Kd.R_elder' (by (with_reducible repeat (first | apply Kd.R_alloc | apply Kd.R_drewN | apply Kd.R_drew)); exact (Kd.R_mono (Kd.R_far (p := ⟨gb299, 1, none⟩) (Kd.R_far (p := ⟨gb299, 0, none⟩) (Kd.R_types HO268.out BK299.out (by decide)) (fun _ hk => hk.2) (.slice Ao34 t293.length co34)) (fun _ hk => hk.2) (.int .i64 t296)) (fun _ h_ => h_.1))) (Kd.R_base ho39) hb); replace HO285 := zK (Kd.R_elder' (by (with_reducible repeat (first | apply Kd.R_alloc | apply Kd.R_drewN | apply Kd.R_drew)); exact (Kd.R_mono (Kd.R_far (p := ⟨gb299, 1, none⟩) (Kd.R_far (p := ⟨gb299, 0, none⟩) (Kd.R_types HO285.out BK299.out (by decide)) (fun _ hk => hk.2) (.slice Ao34 t293.length co34)) (fun _ hk => hk.2) (.int .i64 t296)) (fun _ h_ => h_.1))) (Kd.R_base ho39) hb); replace BK282 := zbb BK282 hb; replace BK299 := zK (blk_below (g := gb299) (o := .cells #[.slice Ao34 t293.length co34, .int .i64 t296] 32 (0, 0)) (by refine zM ?_; refine blk_put (cs := #[.slice Ao34 t293.length co34, .int .i64 0]) ?_ 1 _ rfl; refine zM ?_; refine blk_put (cs := #[.slice none 0 0, .int .i64 0]) ?_ 0 _ rfl; refine zM ?_; exact BK299.out) hb); replace HB := zst HB hb; clear hb ho39; obtain ⟨Ao40, co40, eo40⟩ := Kd.R_slice HO302.out; subst eo40) | (go_at_call 24; (with_reducible refine (sequiturlaw29_form.calls k (-1) _ _ y300 t303 t304 _ ?side1 ?side2 A10.out).mono ?_); (case side1 => repeat (first | exact (Kd.R_reads' HO302.out).2.2 | (with_reducible refine cA ?_ _) | (with_reducible refine cN ?_ _) | (with_reducible refine cD ?_))); (case side2 => exact (Kd.R_reads' HO302.out).2.1); rintro e w41 ⟨v305, rfl, ho0, hb⟩; replace HO268 := zK (Kd.R_below (zr HO268) hb); replace HO275 := zK (Kd.N_elder' (zn HO275) (Kd.R_base ho0) hb); replace HO278 := zK (Kd.N_elder' (zn HO278) (Kd.R_base ho0) hb); replace HO285 := zK (Kd.R_below (zr HO285) hb); replace HO292 := zK (Kd.N_elder' (zn HO292) (Kd.R_base ho0) hb); replace HO295 := zK (Kd.N_elder' (zn HO295) (Kd.R_base ho0) hb); replace HO302 := zK (Kd.R_below (zr HO302) hb); have HO306 := zK (Kd.R_lower ho0 (below_size (zo HB))); replace BK282 := zbb BK282 hb; replace BK299 := zbb BK299 hb; replace HB := zst HB hb; (try clear hb); (try clear hb2); (try clear hk); (try clear hi); (try clear ho0); obtain ⟨Ao42, co42, eo42⟩ := Kd.R_slice HO306.out; subst eo42) | ((with_reducible refine gate_dst (N := 44) rfl ?_); (try (refine zG (by rfl) ?_; dsimp only)); refine Kd.N_lit k41 _ 41 ?hg (N' := 44) ?hd (xs := ([(⟨t303, t304⟩ : S41)] : List (S41))) (inner := [.int .i64 t303, .slice Ao42 t304.length co42]) (ok := (fun k_ => some k_ ≠ (.slice Ao14 y266.length co14 : Value).ownBlock ∧ some k_ ≠ (.slice Ao19 y273.length co19 : Value).ownBlock ∧ some k_ ≠ (.slice Ao22 t276.length co22 : Value).ownBlock ∧ some k_ ≠ (.slice Ao26 y283.length co26 : Value).ownBlock ∧ some k_ ≠ (.slice Ao31 y290.length co31 : Value).ownBlock ∧ some k_ ≠ (.slice Ao34 t293.length co34 : Value).ownBlock ∧ some k_ ≠ (.slice Ao40 y300.length co40 : Value).ownBlock ∧ k_ ≠ gb282 ∧ k_ ≠ gb299)) (okp := (fun k_ => some k_ ≠ (.slice Ao14 y266.length co14 : Value).ownBlock ∧ some k_ ≠ (.slice Ao19 y273.length co19 : Value).ownBlock ∧ some k_ ≠ (.slice Ao22 t276.length co22 : Value).ownBlock ∧ some k_ ≠ (.slice Ao26 y283.length co26 : Value).ownBlock ∧ some k_ ≠ (.slice Ao31 y290.length co31 : Value).ownBlock ∧ some k_ ≠ (.slice Ao34 t293.length co34 : Value).ownBlock ∧ some k_ ≠ (.slice Ao40 y300.length co40 : Value).ownBlock ∧ k_ ≠ gb282 ∧ k_ ≠ gb299)) ?hr ?hp (fun _ hk => hk) ((show ∀ k_, w41.heap.size ≤ k_ → (fun k_ => some k_ ≠ (.slice Ao14 y266.length co14 : Value).ownBlock ∧ some k_ ≠ (.slice Ao19 y273.length co19 : Value).ownBlock ∧ some k_ ≠ (.slice Ao22 t276.length co22 : Value).ownBlock ∧ some k_ ≠ (.slice Ao26 y283.length co26 : Value).ownBlock ∧ some k_ ≠ (.slice Ao31 y290.length co31 : Value).ownBlock ∧ some k_ ≠ (.slice Ao34 t293.length co34 : Value).ownBlock ∧ some k_ ≠ (.slice Ao40 y300.length co40 : Value).ownBlock ∧ k_ ≠ gb282 ∧ k_ ≠ gb299) k_ from fun k_ hk => ⟨Kd.fresh' (Kd.R_lt (zr HO268)) k_ hk, Kd.fresh' (Kd.N_lt (zn HO275)) k_ hk, Kd.fresh' (Kd.N_lt (zn HO278)) k_ hk, Kd.fresh' (Kd.R_lt (zr HO285)) k_ hk, Kd.fresh' (Kd.N_lt (zn HO292)) k_ hk, Kd.fresh' (Kd.N_lt (zn HO295)) k_ hk, Kd.fresh' (Kd.R_lt (zr HO302)) k_ hk, Kd.freshB (g := gb282) (o := .cells #[.slice Ao22 t276.length co22, .int .i64 t279] 32 (0, 0)) (zb BK282) k_ hk, Kd.freshB (g := gb299) (o := .cells #[.slice Ao34 t293.length co34, .int .i64 t296] 32 (0, 0)) (zb BK299) k_ hk⟩) _ (Nat.le_refl _)) (Below.refl _ _) (Nat.le_refl _) (by simp) ?_; (case hd => rfl); (case hg => rfl); (case hr => first | (go_simp; done) | (go_simp; rfl)); (case hp => exact (Reps.c2 (show Kd.FK k41 _ _ (⟨t303, t304⟩ : S41) [.int .i64 t303, .slice Ao42 t304.length co42] from (k41_mkF _ _ (⟨t303, t304⟩ : S41) (Kd.R_reads' (Kd.R_mono (ok' := (fun k_ => some k_ ≠ (.slice Ao14 y266.length co14 : Value).ownBlock ∧ some k_ ≠ (.slice Ao19 y273.length co19 : Value).ownBlock ∧ some k_ ≠ (.slice Ao22 t276.length co22 : Value).ownBlock ∧ some k_ ≠ (.slice Ao26 y283.length co26 : Value).ownBlock ∧ some k_ ≠ (.slice Ao31 y290.length co31 : Value).ownBlock ∧ some k_ ≠ (.slice Ao34 t293.length co34 : Value).ownBlock ∧ some k_ ≠ (.slice Ao40 y300.length co40 : Value).ownBlock ∧ k_ ≠ gb282 ∧ k_ ≠ gb299)) (Kd.R_types (Kd.R_types (Kd.R_apart' (Kd.R_apart' (Kd.R_apart' (Kd.R_apart' (Kd.R_apart' (Kd.R_apart' (Kd.R_apart' (HO306.out) (Kd.R_typed HO268.out) (by decide)) (Kd.N_typed HO275.out) (by decide)) (Kd.N_typed HO278.out) (by decide)) (Kd.R_typed HO285.out) (by decide)) (Kd.N_typed HO292.out) (by decide)) (Kd.N_typed HO295.out) (by decide)) (Kd.R_typed HO302.out) (by decide)) BK282.out (by decide)) BK299.out (by decide)) (fun k_ hk => ⟨hk.1.1.1.1.1.1.1.1.2, ⟨hk.1.1.1.1.1.1.1.2, ⟨hk.1.1.1.1.1.1.2, ⟨hk.1.1.1.1.1.2, ⟨hk.1.1.1.1.2, ⟨hk.1.1.1.2, ⟨hk.1.1.2, ⟨hk.1.2, hk.2⟩⟩⟩⟩⟩⟩⟩⟩))).2.1 (Kd.R_F (Kd.R_mono (ok' := (fun k_ => some k_ ≠ (.slice Ao14 y266.length co14 : Value).ownBlock ∧ some k_ ≠ (.slice Ao19 y273.length co19 : Value).ownBlock ∧ some k_ ≠ (.slice Ao22 t276.length co22 : Value).ownBlock ∧ some k_ ≠ (.slice Ao26 y283.length co26 : Value).ownBlock ∧ some k_ ≠ (.slice Ao31 y290.length co31 : Value).ownBlock ∧ some k_ ≠ (.slice Ao34 t293.length co34 : Value).ownBlock ∧ some k_ ≠ (.slice Ao40 y300.length co40 : Value).ownBlock ∧ k_ ≠ gb282 ∧ k_ ≠ gb299)) (Kd.R_types (Kd.R_types (Kd.R_apart' (Kd.R_apart' (Kd.R_apart' (Kd.R_apart' (Kd.R_apart' (Kd.R_apart' (Kd.R_apart' (HO306.out) (Kd.R_typed HO268.out) (by decide)) (Kd.N_typed HO275.out) (by decide)) (Kd.N_typed HO278.out) (by decide)) (Kd.R_typed HO285.out) (by decide)) (Kd.N_typed HO292.out) (by decide)) (Kd.N_typed HO295.out) (by decide)) (Kd.R_typed HO302.out) (by decide)) BK282.out (by decide)) BK299.out (by decide)) (fun k_ hk => ⟨hk.1.1.1.1.1.1.1.1.2, ⟨hk.1.1.1.1.1.1.1.2, ⟨hk.1.1.1.1.1.1.2, ⟨hk.1.1.1.1.1.2, ⟨hk.1.1.1.1.2, ⟨hk.1.1.1.2, ⟨hk.1.1.2, ⟨hk.1.2, hk.2⟩⟩⟩⟩⟩⟩⟩⟩))))) (Reps.none _ _))); intro v308 w43 ho44 hb hg_ hnew_; clear hg_ hnew_; (first | rw [← Ny307.out] at ho44 | (simp only [Int.reduceToNat] at ho44; rw [← Ny307.out] at ho44)); replace HO268 := zK (Kd.R_below (zr HO268) hb); replace HO275 := zK (Kd.N_elder' (zn HO275) (Kd.N_base ho44) hb); replace HO278 := zK (Kd.N_elder' (zn HO278) (Kd.N_base ho44) hb); replace HO285 := zK (Kd.R_below (zr HO285) hb); replace HO292 := zK (Kd.N_elder' (zn HO292) (Kd.N_base ho44) hb); replace HO295 := zK (Kd.N_elder' (zn HO295) (Kd.N_base ho44) hb); replace HO302 := zK (Kd.R_below (zr HO302) hb); have HO309 := zK (Kd.N_lower ho44 (below_size (zo HB))); replace BK282 := zbb BK282 hb; replace BK299 := zbb BK299 hb; replace HB := zst HB hb; clear HO306 hb ho44) | ((with_reducible refine gate_dst (N := 45) rfl ?_); (try (refine zG (by rfl) ?_; dsimp only)); refine Kd.R_lit (Kd.int .i64) _ 2 ?hg (N := 45) ?hd (xs := ([1] : List Int)) (inner := [.int .i64 1]) (ok := fun _ => True) (okp := fun _ => True) ?hr ?hp (fun _ hk => hk) trivial (Below.refl _ _) (Nat.le_refl _) (by simp) ?_; (case hd => rfl); (case hg => rfl); (case hr => first | (go_simp; done) | (go_simp; rfl)); (case hp => exact (Reps.one (show Kd.M (Kd.int .i64) _ _ _ 1 [.int .i64 1] from rfl) (Reps.none _ _))); intro v311 w45 ho46 hb hg_ hnew_; clear hg_ hnew_; (first | rw [← Ny310.out] at ho46 | (simp only [Int.reduceToNat] at ho46; rw [← Ny310.out] at ho46)); replace HO275 := zK (Kd.N_elder' (zn HO275) (Kd.R_base ho46) hb); replace HO278 := zK (Kd.N_elder' (zn HO278) (Kd.R_base ho46) hb); replace HO292 := zK (Kd.N_elder' (zn HO292) (Kd.R_base ho46) hb); replace HO295 := zK (Kd.N_elder' (zn HO295) (Kd.R_base ho46) hb); replace HO309 := zK (Kd.N_elder' (zn HO309) (Kd.R_base ho46) hb); have HO312 := zK (Kd.R_lower (Kd.R_new' (Kd.R_new' (Kd.R_new' ho46 (Kd.R_lt (zr HO268))) (Kd.R_lt (zr HO285))) (Kd.R_lt (zr HO302))) (below_size (zo HB))); replace HO268 := zK (Kd.R_elder' (zr HO268) (Kd.R_base ho46) hb); replace HO285 := zK (Kd.R_elder' (zr HO285) (Kd.R_base ho46) hb); replace HO302 := zK (Kd.R_elder' (zr HO302) (Kd.R_base ho46) hb); replace BK282 := zbb BK282 hb; replace BK299 := zbb BK299 hb; replace HB := zst HB hb; clear hb ho46; obtain ⟨Ao47, co47, eo47⟩ := Kd.N_slice HO309.out; subst eo47; obtain ⟨Ao48, co48, eo48⟩ := Kd.R_slice HO312.out; subst eo48) | (go_at_call 11; (with_reducible refine (euclid_Check.calls k _ _ y307 _ _ y310 2 t313 _ ?side1 ?side2 ?side3 ?side4 A11.out).mono ?_); (case side1 => repeat (first | exact (Kd.N_reads' HO309.out).2.2 | (with_reducible refine cA ?_ _) | (with_reducible refine cN ?_ _) | (with_reducible refine cD ?_))); (case side2 => exact (Kd.N_reads' HO309.out).2.1); (case side3 => repeat (first | exact (Kd.R_reads' HO312.out).2.2 | (with_reducible refine cA ?_ _) | (with_reducible refine cN ?_ _) | (with_reducible refine cD ?_))); (case side4 => exact (Kd.R_reads' HO312.out).2.1); rintro e w49 ⟨rfl, hb⟩; replace HO268 := zK (Kd.R_below (zr HO268) hb); replace HO275 := zK (Kd.N_below (zn HO275) hb); replace HO278 := zK (Kd.N_below (zn HO278) hb); replace HO285 := zK (Kd.R_below (zr HO285) hb); replace HO292 := zK (Kd.N_below (zn HO292) hb); replace HO295 := zK (Kd.N_below (zn HO295) hb); replace HO302 := zK (Kd.R_below (zr HO302) hb); replace HO309 := zK (Kd.N_below (zn HO309) hb); replace HO312 := zK (Kd.R_below (zr HO312) hb); replace BK282 := zbb BK282 hb; replace BK299 := zbb BK299 hb; replace HB := zst HB hb; (try clear hb); (try clear hb2); (try clear hk); (try clear hi)))
      go_ret
      exact zR (h := zo HB)
     ·rw [if_neg c9] at H
      exact absurd H (by simp)
   ·rw [if_neg c7] at H
    exact absurd H (by simp)
  ·rw [if_neg c6] at H
   exact absurd H (by simp)
 ·replace c5 := Bool.eq_false_iff.mpr c5
  subst c5
  have H1 : (none) = some r := by rw [if_neg (show ¬ (false = true) by decide)] at H; exact H
  clear H; have H := H1; clear H1
  exact absurd H (by simp)

/-! ### lin_Eval: function 22, by hand -/
theorem lit_event {P : Program} {ops : Array Oper} {Q : Exit → Act → World → Prop} {rest : List Oper} {o : Oper} {a : Act} {W : World} (hgd : o.guard = none) {N : Tmp} (_hd : o.dst = some N) {cs : Array Value} {t : TypeId} {n : Nat}
  (hrun : (execOp a.eval o).run P W = .ok (.value (.slice (some ⟨W.heap.size, 0, none⟩) n n)) (W.alloc (.cells cs t (0, 0))))
  (h : ∀ g, g = W.heap.size → ∀ w1, w1.heap[g]? = some (.cells cs t (0, 0)) → Below W.heap.size W w1 → wpList P ops Q rest (a.put o.dst (.slice (some ⟨g, 0, none⟩) n n)) w1) : wpList P ops Q (o :: rest) a W :=
 Kd.event_run hgd hrun (h _ rfl _ (blk_new W _) (yA (Below.refl _ _) _))
theorem C_oneLin {w : World} {g : Nat} {K : Int} {L : List S44} {A : Option Addr} {c : Nat} (hb : w.heap[g]? = some (.cells #[.int .i64 K, .slice A L.length c] 41 (0, 0))) (hL : Kd.C k44 w A L.length L) (hc : L.length ≤ c) : Kd.C k41 w (some ⟨g, 0, none⟩) 1 [⟨K, L⟩] := by
 refine ⟨rfl, by decide, fun _ => ⟨⟨g, 0, none⟩, rfl, fun j p hj => ?_⟩⟩
 cases j with
 | succ j => simp at hj
 | zero =>
  simp at hj
  subst hj
  refine ⟨[.int .i64 K, .slice A L.length c], rfl, k41_mk w ⟨K, L⟩ hc hL, fun i u hu => ?_⟩
  have := blk_cell hb i
  have e_ : (⟨g, 0, none⟩ : Addr).add (0 * k41.sz + i) = ⟨g, i, none⟩ := by cases i <;> simp [Addr.add]
  rw [e_, this]
  simpa using hu
/-- What a form comes to by numbers; a variable without a number is 0. -/
def evalStep (x : List Int) (s : Int) (m : S44) : Int := if m.f0 < (x.length : Int) then s + m.f1 * rd x m.f0 else s
def evalSum (K : Int) (L : List S44) (x : List Int) : Int := L.foldl (evalStep x) (0 + K * 1)
def evalOk (x : List Int) (m : S44) : Bool := decide (0 ≤ m.f0) && (decide ((x.length : Int) ≤ m.f0) || (in64 m.f1 && in64 (rd x m.f0)))
def lin_Eval.f (k : Nat) (a0_0 : Int) (l0_1 : List S44) (l1 : List Int) : Option (Int × Int) :=
 (lin_right.f k [⟨a0_0, l0_1⟩]).bind fun t => if t = true then (if (in64 a0_0 && l0_1.all (evalOk l1)) = true then some (if (fit192 (evalSum a0_0 l0_1 l1)).2 = true then ((fit192 (evalSum a0_0 l0_1 l1)).1, 0) else (0, 5)) else none) else some (0, 1)
theorem lin_Eval.mono : ∀ a0 a1 a2 k, LeO (lin_Eval.f k a0 a1 a2) (lin_Eval.f (k + 1) a0 a1 a2) := by
 intro a0 a1 a2 k
 unfold lin_Eval.f
 exact LeO.bind (lin_right.mono _ _) (fun _ => LeO.refl _)
theorem eval_walk (k : Nat) (a0 : Int) (A0 : Option Addr) (c0 : Nat) (l0 : List (S44)) (A1 : Option Addr) (c1 : Nat) (l1 : List Int) (w : World) (hr0 : Kd.C k44 w A0 l0.length l0) (hc0 : l0.length ≤ c0) (hr1 : Kd.C (Kd.int .i64) w A1 l1.length l1)
  (ht : lin_right.f k [⟨a0, l0⟩] = some true) (hga : in64 a0 = true) (hgl : l0.all (evalOk l1) = true) (r1 r2 : Int) (hr : (if (fit192 (evalSum a0 l0 l1)).2 = true then ((fit192 (evalSum a0 l0 l1)).1, (0 : Int)) else (0, 5)) = (r1, r2)) :
  Calls Try.prog 22 #[.agg #[.int .i64 a0, .slice A0 l0.length c0], .slice A1 l1.length c1] w fun e w' => e = .returned (.tuple #[.int .i64 r1, .int .i64 r2]) ∧ Below w.heap.size w w' := by
 have hu28 := Try.underlying41
 have hu47 := Try.underlying44
 have HR0 := zK hr0
 have HC0 := zK hc0
 have HR1 := zK hr1
 have HT := zK ht
 have HGA := zK hga
 have HGL := zK hgl
 obtain ⟨N0, hN0⟩ : ∃ N0, N0 = (fit192 (evalSum a0 l0 l1)).1 := ⟨_, rfl⟩
 obtain ⟨D0, hD0⟩ : ∃ D0, D0 = (fit192 (evalSum a0 l0 l1)).2 := ⟨_, rfl⟩
 rw [← hN0, ← hD0] at hr
 have HR := zK hr
 have HN0 := zK hN0
 have HD0 := zK hD0; clear hr0 hc0 hr1 ht hga hgl hr hN0 hD0
 go_enter Try.func22, Try.ntmps22
 go_wp2_with (first
  | ((with_reducible refine gate_dst (N := 2) rfl ?_); refine zBox (cs := #[.int .i64 a0, .slice A0 l0.length c0]) (t := 41) ?_; intro gL hg_ w1 hbox_ hb_; have EL := zK hg_; have BL0 := zK hbox_; have HB1 := zK hb_; clear hg_ hbox_ hb_; have hl0 : w1.cell? ⟨gL, 0, none⟩ = some (.int .i64 a0) := (blk_cell BL0.out 0).trans rfl; have hl1 : w1.cell? ⟨gL, 1, none⟩ = some (.slice A0 l0.length c0) := (blk_cell BL0.out 1).trans rfl)
  | ((with_reducible refine gate_dst (N := 12) rfl ?_); refine lit_event ?hg (N := 12) ?hd (cs := #[.int .i64 a0, .slice A0 l0.length c0]) (t := 41) (n := 1) ?hr ?_; (case hd => rfl); (case hg => rfl); (case hr => first | (go_simp; done) | (go_simp; rfl)); intro gT hg_ w2 hbox_ hb_; have ET := zK hg_; have BT := zK hbox_; have HB2 := zK hb_; clear hg_ hbox_ hb_)
  | (go_at_call 32; (refine (lin_right.calls k (some ⟨gT, 0, none⟩) 1 [⟨a0, l0⟩] true w2 (C_oneLin BT.out (Kd.C_below (Kd.C_below HR0.out HB1.out) HB2.out) HC0.out) (Nat.le_refl _) HT.out).mono ?_); rintro e w3 ⟨rfl, hb_⟩; have HB3 := zK (below_step (below_step HB1.out HB2.out) hb_); have BL := zK (blk_below (blk_below BL0.out HB2.out) hb_); have GL := zK (Nat.le_of_eq EL.out.symm); clear hb_ HB1 HB2 BT ET EL BL0 hl0 hl1)
  | ((with_reducible refine gate_dst (N := 6) rfl ?_); refine zBox (cs := accCells [0]) (t := 69) ?_; intro gS hg_ w4 hbox_ hb_; have ES := zK hg_; have BS0 := zK hbox_; have HB4 := zK hb_; clear hg_ hbox_ hb_; have hl0 : w4.cell? ⟨gL, 0, none⟩ = some (.int .i64 a0) := (blk_cell (blk_below BL.out HB4.out) 0).trans rfl)
  | (go_at_call 33; refine (exact_Add gS 0 0 a0 1 _ 69 (accCells [0]) (in64_iff HGA.out).1 (in64_iff HGA.out).2 (by decide) (by decide) BS0.out (accCells_at [0] 0 (by simp))).mono ?_; rintro e w5 ⟨rfl, hk_, hs_⟩; have BS5 : Aside0 (w5.heap[gS]? = some (.cells (accCells [0 + a0 * 1]) 69 (0, 0))) := zK (hk_.trans (congrArg (fun z => some (Obj.cells z 69 (0, 0))) ((accCells_put [0] 0 (0 + a0 * 1) (by simp)).trans rfl))); have NLS := zK (show gL ≠ gS by have := ES.out; have := blk_lt BL.out; omega); have GS := zK (show w.heap.size ≤ gS by have := ES.out; have := HB3.out.size; omega); have BL5 := zK ((hs_.block gL NLS.out).trans (blk_below BL.out HB4.out)); have HB5 := zK (Below.trans (below_step HB3.out HB4.out) (hs_.below GS.out)); clear hk_ hs_ BS0 HB4 HB3 BL ES; have hl0 : w5.cell? ⟨gL, 0, none⟩ = some (.int .i64 a0) := (blk_cell BL5.out 0).trans rfl; have hl1 : w5.cell? ⟨gL, 1, none⟩ = some (.slice A0 l0.length c0) := (blk_cell BL5.out 1).trans rfl))
 go_loopg [21] l0.length (fun gk v21 w' => ∃ (x : Int), v21 = .int .i64 x ∧ Aside0 (∃ i : Nat, x = i ∧ i + gk = l0.length ∧ w'.heap[gS]? = some (.cells (accCells [(l0.take i).foldl (evalStep l1) (0 + a0 * 1)]) 69 (0, 0))) ∧ Aside0 (w'.heap[gL]? = some (.cells #[.int .i64 a0, .slice A0 l0.length c0] 41 (0, 0))) ∧ Aside0 (Below w.heap.size w w'))
 case atStart => exact ⟨0, rfl, ⟨0, rfl, by omega, BS5.out⟩, ⟨BL5.out⟩, ⟨HB5.out⟩⟩
 case round =>
  clear BS5 BL5 HB5 hl0 hl1
  obtain ⟨x, rfl, HX, BL, HB⟩ := hrel
  obtain ⟨i, hxi, hgk, bs⟩ := HX.out; clear HX
  have BS := zK bs; clear bs
  have HI := zK hxi
  have HGK := zK hgk; clear hxi hgk
  cases gk with
  | zero =>
   have c1 : decide (x < (l0.length : Int)) = false := decide_eq_false (by have := HI.out; have := HGK.out; omega)
   have hti : l0.take i = l0 := List.take_of_length_le (by have := HGK.out; omega)
   have CF := zK (show ∀ m, Calls Try.prog 34 #[.pointer (some ⟨gS, 0, none⟩)] (wr.drewN m) fun e W' => e = .returned (.tuple #[.int .i64 N0, .bool D0]) ∧ Drawn0 (wr.drewN m) W' by
    intro m
    rw [HN0.out, HD0.out]
    have h_ := BS.out
    rw [hti] at h_
    exact exact_Fits gS 0 (evalSum a0 l0 l1) (wr.drewN m) 69 (accCells [evalSum a0 l0 l1]) h_ (accCells_at [evalSum a0 l0 l1] 0 (by simp)))
   clear hti
   have HRR := HR.out
   cases D0 with
   | true =>
    rw [if_pos rfl] at HRR
    simp only [Prod.mk.injEq] at HRR
    obtain ⟨e1, e2⟩ := HRR
    have E1 := zK e1
    have E2 := zK e2; clear e1 e2
    go_wp2_with (first | (go_at_call 34; refine (CF.out 0).mono ?_; rintro e w' ⟨rfl, ⟨nd, rfl⟩⟩))
    go_ret2
    exact ⟨by rw [← E1.out, ← E2.out]; rfl, yN HB.out _⟩
   | false =>
    rw [if_neg (by simp)] at HRR
    simp only [Prod.mk.injEq] at HRR
    obtain ⟨e1, e2⟩ := HRR
    have E1 := zK e1
    have E2 := zK e2; clear e1 e2
    go_wp2_with (first | (go_at_call 34; refine (CF.out 0).mono ?_; rintro e w' ⟨rfl, ⟨nd, rfl⟩⟩))
    go_ret2
    exact ⟨by rw [← E1.out, ← E2.out]; rfl, yN HB.out _⟩
  | succ gko =>
   have p2 : 0 ≤ x := by have := HI.out; omega
   have q2 : x < (l0.length : Int) := by have := HI.out; have := HGK.out; omega
   obtain ⟨XM, hXM⟩ : ∃ XM, XM = rd_T44 l0 x := ⟨_, rfl⟩
   have HXM := zK (show i < l0.length ∧ ∀ h : i < l0.length, XM = l0[i] by
    have := HI.out; have := HGK.out
    refine ⟨by omega, fun h => ?_⟩
    rw [hXM, HI.out]; simp [rd_T44, h])
   have HGM := zK (show evalOk l1 XM = true by rw [HXM.out.2 HXM.out.1]; exact List.all_eq_true.1 HGL.out _ (List.getElem_mem _))
   obtain ⟨ad2, e2, hm0, hm1⟩ := at_T44 HR0.out x p2 q2
   rw [← hXM] at hm0 hm1; clear hXM
   cases e2
   replace hm0 := (HB.out.cell (World.block_lt_of_cell? w _ hm0)).trans hm0
   replace hm1 := (HB.out.cell (World.block_lt_of_cell? w _ hm1)).trans hm1
   have c2 : decide (x < (l0.length : Int)) = true := decide_eq_true q2
   replace p2 := eq_true p2
   replace q2 := eq_true q2
   have hm := HGM.out
   unfold evalOk at hm
   rw [Bool.and_eq_true, Bool.or_eq_true, Bool.and_eq_true] at hm
   have v0 : 0 ≤ XM.f0 := of_decide_eq_true hm.1
   have HE := zK (show (l0.take (i + 1)).foldl (evalStep l1) (0 + a0 * 1) = evalStep l1 ((l0.take i).foldl (evalStep l1) (0 + a0 * 1)) XM by
    have e_ := HXM.out.2 HXM.out.1
    rw [List.take_succ_eq_append_getElem HXM.out.1, List.foldl_append, ← e_]; rfl)
   by_cases hv : XM.f0 < (l1.length : Int)
   ·have hm2 : in64 XM.f1 = true ∧ in64 (rd l1 XM.f0) = true := by
     rcases hm.2 with h | h
     ·have := of_decide_eq_true h; omega
     ·exact h
    have RM := zK hm2; clear hm hm2 HGM
    have HVV := zK (And.intro v0 hv)
    obtain ⟨YV, hYV⟩ : ∃ YV, YV = rd l1 XM.f0 := ⟨_, rfl⟩
    obtain ⟨ad3, e3, hy⟩ : ∃ ad, A1 = some ad ∧ w.cell? (ad.add XM.f0.toNat) = some (.int .i64 YV) := by
     obtain ⟨ad, c, e, hs, hk, hcell⟩ := Kd.C_get HR1.out 0 XM.f0 v0 hv
     refine ⟨ad, e, ?_⟩
     have hk' : c = [Value.int .i64 (l1.getD XM.f0.toNat 0)] := hk
     have := hcell 0 (.int .i64 (l1.getD XM.f0.toNat 0)) (by rw [hk']; rfl)
     have e2 : XM.f0.toNat * (Kd.int .i64).sz + 0 = XM.f0.toNat := Nat.mul_one _
     rw [e2] at this
     rw [hYV]
     exact this
    cases e3
    replace hy := (HB.out.cell (World.block_lt_of_cell? w _ hy)).trans hy
    have HYV := zK hYV; clear hYV
    have c3 : decide (XM.f0 < (l1.length : Int)) = true := decide_eq_true hv
    have hvv := eq_true hv
    have hv0 := eq_true v0
    go_wp2_with (first
     | ((with_reducible refine gate_dst (N := 8) rfl ?_); refine zBox (cs := #[.int .i64 0, .int .i64 0]) (t := 44) ?_; intro gM hg_ w6 hbox_ hb_; have EM := zK hg_; have BM0 := zK hbox_; have HB6 := zK hb_; clear hg_ hbox_ hb_; have hz0 : w6.cell? ⟨gM, 0, none⟩ = some (.int .i64 0) := (blk_cell BM0.out 0).trans rfl; have hz1 : w6.cell? ⟨gM, 1, none⟩ = some (.int .i64 0) := (blk_cell BM0.out 1).trans rfl; have fz0 := blk_frozen BM0.out 0; have fz1 := blk_frozen BM0.out 1; have NSM := zK (show gS ≠ gM by have := EM.out; have := blk_lt BS.out; omega); have NLM := zK (show gL ≠ gM by have := EM.out; have := blk_lt BL.out; omega); have GM := zK (show w.heap.size ≤ gM by have := EM.out; have := HB.out.size; omega)))
    have HVE := zK (show evalStep l1 ((l0.take i).foldl (evalStep l1) (0 + a0 * 1)) XM = (l0.take i).foldl (evalStep l1) (0 + a0 * 1) + XM.f1 * YV by rw [HYV.out]; exact if_pos HVV.out.2)
    have hlt3 := World.block_lt_of_cell? wr _ hy
    have n3 : ad3.block ≠ gM := by rw [add_block] at hlt3; have := EM.out; omega
    have hyW : ((w6.setCell ⟨gM, 0, none⟩ (.int .i64 XM.f0)).setCell ⟨gM, 1, none⟩ (.int .i64 XM.f1)).cell? (ad3.add XM.f0.toNat) = some (.int .i64 YV) := by
     have hb : (ad3.add XM.f0.toNat).block ≠ gM := by rw [add_block]; exact n3
     have e1 := Below.heap_setCell (w6.setCell ⟨gM, 0, none⟩ (.int .i64 XM.f0)) ⟨gM, 1, none⟩ (.int .i64 XM.f1) (ad3.add XM.f0.toNat).block hb
     have e2 := Below.heap_setCell w6 ⟨gM, 0, none⟩ (.int .i64 XM.f0) (ad3.add XM.f0.toNat).block hb
     have h6 := (HB6.out.cell hlt3).trans hy
     unfold World.cell? at h6 ⊢
     rw [e1, e2]
     exact h6
    have BM6 := blk_put (cs' := #[.int .i64 XM.f0, .int .i64 XM.f1]) (blk_put (cs' := #[.int .i64 XM.f0, .int .i64 0]) BM0.out 0 (.int .i64 XM.f0) rfl) 1 (.int .i64 XM.f1) rfl
    have hM0 := (blk_cell BM6 0).trans rfl
    have hM1 := (blk_cell BM6 1).trans rfl
    have BS6 := zK (blk_far (blk_far (blk_below BS.out HB6.out) (p := ⟨gM, 0, none⟩) NSM.out (.int .i64 XM.f0)) (p := ⟨gM, 1, none⟩) NSM.out (.int .i64 XM.f1))
    have BL6 := zK (blk_far (blk_far (blk_below BL.out HB6.out) (p := ⟨gM, 0, none⟩) NLM.out (.int .i64 XM.f0)) (p := ⟨gM, 1, none⟩) NLM.out (.int .i64 XM.f1))
    have HB6' := zK (yS (yS (below_step HB.out HB6.out) GM.out (j := 0) (v := .int .i64 XM.f0)) GM.out (j := 1) (v := .int .i64 XM.f1))
    clear hlt3 hy n3 BM6 hz0 hz1 fz0 fz1 hm0 hm1
    generalize (w6.setCell ⟨gM, 0, none⟩ (.int .i64 XM.f0)).setCell ⟨gM, 1, none⟩ (.int .i64 XM.f1) = W6 at hyW hM0 hM1 BS6 BL6 HB6' ⊢
    go_region_with (go_at_call 33; refine (exact_Add gS 0 ((l0.take i).foldl (evalStep l1) (0 + a0 * 1)) XM.f1 YV _ 69 (accCells [(l0.take i).foldl (evalStep l1) (0 + a0 * 1)]) (in64_iff RM.out.1).1 (in64_iff RM.out.1).2 (by rw [HYV.out]; exact (in64_iff RM.out.2).1) (by rw [HYV.out]; exact (in64_iff RM.out.2).2) ?rb (accCells_at [(l0.take i).foldl (evalStep l1) (0 + a0 * 1)] 0 (by simp))).mono ?_; (case rb => exact zD BS6.out); rintro e w7 ⟨rfl, hk_, hs_⟩; have BS7 : Aside0 (w7.heap[gS]? = some (.cells (accCells [(l0.take (i + 1)).foldl (evalStep l1) (0 + a0 * 1)]) 69 (0, 0))) := zK (hk_.trans (congrArg (fun z => some (Obj.cells z 69 (0, 0))) ((accCells_put [(l0.take i).foldl (evalStep l1) (0 + a0 * 1)] 0 _ (by simp)).trans (by rw [HE.out, HVE.out]; rfl)))); have BL7 := zK ((hs_.block gL NLS.out).trans (zD BL6.out)); have HB7 := zK (Below.trans (yD HB6'.out) (hs_.below GS.out)))
    all_goals
     go_wp2
     go_roundg gko
     case measure => omega
     case rel =>
      refine ⟨_, (by first | rfl | (simp; done) | (simp [*]; done)), ⟨i + 1, ?_, by have := HGK.out; omega, BS7.out⟩, ⟨BL7.out⟩, ⟨HB7.out⟩⟩
      have := HI.out; have := HXM.out.1; have := HR0.out.2.1; first | omega | (unfold wrap64; omega)
   ·have c3 : decide (XM.f0 < (l1.length : Int)) = false := decide_eq_false hv
    have HVN := zK (show evalStep l1 ((l0.take i).foldl (evalStep l1) (0 + a0 * 1)) XM = (l0.take i).foldl (evalStep l1) (0 + a0 * 1) from if_neg hv)
    clear hm HGM hv
    go_wp2_with (first
     | ((with_reducible refine gate_dst (N := 8) rfl ?_); refine zBox (cs := #[.int .i64 0, .int .i64 0]) (t := 44) ?_; intro gM hg_ w6 hbox_ hb_; have EM := zK hg_; have BM0 := zK hbox_; have HB6 := zK hb_; clear hg_ hbox_ hb_; have hz0 : w6.cell? ⟨gM, 0, none⟩ = some (.int .i64 0) := (blk_cell BM0.out 0).trans rfl; have hz1 : w6.cell? ⟨gM, 1, none⟩ = some (.int .i64 0) := (blk_cell BM0.out 1).trans rfl; have fz0 := blk_frozen BM0.out 0; have fz1 := blk_frozen BM0.out 1; have NSM := zK (show gS ≠ gM by have := EM.out; have := blk_lt BS.out; omega); have NLM := zK (show gL ≠ gM by have := EM.out; have := blk_lt BL.out; omega); have GM := zK (show w.heap.size ≤ gM by have := EM.out; have := HB.out.size; omega)))
    go_roundg gko
    case measure => omega
    case rel =>
     refine ⟨_, (by first | rfl | (simp; done) | (simp [*]; done)), ⟨i + 1, ?_, by have := HGK.out; omega, ?_⟩, ⟨?_⟩, ⟨?_⟩⟩
     ·have := HI.out; have := HXM.out.1; have := HR0.out.2.1; first | omega | (unfold wrap64; omega)
     ·rw [HE.out]
      rw [HVN.out]
      exact blk_far (blk_far (blk_below BS.out HB6.out) (p := ⟨gM, 0, none⟩) NSM.out _) (p := ⟨gM, 1, none⟩) NSM.out _
     ·exact blk_far (blk_far (blk_below BL.out HB6.out) (p := ⟨gM, 0, none⟩) NLM.out _) (p := ⟨gM, 1, none⟩) NLM.out _
     ·exact yS (yS (below_step HB.out HB6.out) GM.out) GM.out
theorem eval_wrong (k : Nat) (a0 : Int) (A0 : Option Addr) (c0 : Nat) (l0 : List (S44)) (A1 : Option Addr) (c1 : Nat) (l1 : List Int) (w : World) (hr0 : Kd.C k44 w A0 l0.length l0) (hc0 : l0.length ≤ c0)
  (ht : lin_right.f k [⟨a0, l0⟩] = some false) :
  Calls Try.prog 22 #[.agg #[.int .i64 a0, .slice A0 l0.length c0], .slice A1 l1.length c1] w fun e w' => e = .returned (.tuple #[.int .i64 0, .int .i64 1]) ∧ Below w.heap.size w w' := by
 have hu28 := Try.underlying41
 have HR0 := zK hr0
 have HC0 := zK hc0
 have HT := zK ht; clear hr0 hc0 ht
 go_enter Try.func22, Try.ntmps22
 go_wp2_with (first
  | ((with_reducible refine gate_dst (N := 2) rfl ?_); refine zBox (cs := #[.int .i64 a0, .slice A0 l0.length c0]) (t := 41) ?_; intro gL hg_ w1 hbox_ hb_; have EL := zK hg_; have BL0 := zK hbox_; have HB1 := zK hb_; clear hg_ hbox_ hb_; have hl0 : w1.cell? ⟨gL, 0, none⟩ = some (.int .i64 a0) := (blk_cell BL0.out 0).trans rfl; have hl1 : w1.cell? ⟨gL, 1, none⟩ = some (.slice A0 l0.length c0) := (blk_cell BL0.out 1).trans rfl)
  | ((with_reducible refine gate_dst (N := 12) rfl ?_); refine lit_event ?hg (N := 12) ?hd (cs := #[.int .i64 a0, .slice A0 l0.length c0]) (t := 41) (n := 1) ?hr ?_; (case hd => rfl); (case hg => rfl); (case hr => first | (go_simp; done) | (go_simp; rfl)); intro gT hg_ w2 hbox_ hb_; have ET := zK hg_; have BT := zK hbox_; have HB2 := zK hb_; clear hg_ hbox_ hb_)
  | (go_at_call 32; (refine (lin_right.calls k (some ⟨gT, 0, none⟩) 1 [⟨a0, l0⟩] false w2 (C_oneLin BT.out (Kd.C_below (Kd.C_below HR0.out HB1.out) HB2.out) HC0.out) (Nat.le_refl _) HT.out).mono ?_); rintro e w3 ⟨rfl, hb_⟩; have HB3 := zK (below_step (below_step HB1.out HB2.out) hb_); clear hb_))
 go_ret2
 exact ⟨rfl, HB3.out⟩
theorem lin_Eval.calls (k : Nat) (a0_0 : Int) (A0_1 : Option Addr) (c0_1 : Nat) (l0_1 : List (S44)) (A1 : Option Addr) (c1 : Nat) (l1 : List Int) (r1 : Int) (r2 : Int) (w : World) (hr0_1 : Kd.C k44 w A0_1 l0_1.length l0_1) (hc0_1 : l0_1.length ≤ c0_1) (hr1 : Kd.C (Kd.int .i64) w A1 l1.length l1) (hc1 : l1.length ≤ c1) (h : lin_Eval.f k a0_0 l0_1 l1 = some (r1, r2)) :
  Calls Try.prog 22 #[.agg #[.int .i64 a0_0, .slice A0_1 l0_1.length c0_1], .slice A1 l1.length c1] w fun e w' => e = .returned (.tuple #[.int .i64 r1, .int .i64 r2]) ∧ Below w.heap.size w w' := by
 unfold lin_Eval.f at h
 obtain ⟨t, ht, h⟩ := Option.bind_eq_some_iff.1 h
 cases t with
 | true =>
  rw [if_pos rfl] at h
  split at h
  ·rename_i hg
   rw [Bool.and_eq_true] at hg
   exact eval_walk k a0_0 A0_1 c0_1 l0_1 A1 c1 l1 w hr0_1 hc0_1 hr1 ht hg.1 hg.2 r1 r2 (Option.some.inj h)
  ·cases h
 | false =>
  rw [if_neg (by simp)] at h
  simp only [Option.some.injEq, Prod.mk.injEq] at h
  obtain ⟨rfl, rfl⟩ := h
  exact eval_wrong k a0_0 A0_1 c0_1 l0_1 A1 c1 l1 w hr0_1 hc0_1 ht

end Go.Proofs.Ytjinmlpekecmbaa.PEuclidSolves
